import PyProof.Rows.All
import Wide.All
import OpenK.AllK
import Wide.FinOn
import HandS.ForMost
import HandS.Exc
import HandS.ExcCtx
import HandS.TryMany
import HandS.Hot
import HandS.TryOnly
import HandS.ExcOwn
import HandS.WordsExc
import HandS.Defaults
import HandS.HeadHook1
import HandS.HeadHook2
import HandS.HeadHook4
import HandS.Head2
import HandS.HeadEnd
import HandS.Evl
import HandS.Wide
import HandS.WideBits
import HandS.TupAny
import HandS.IsInst
import HandS.Style
import HandS.StrMore
import HandS.CallSlots
import HandS.Iter
import HandS.Replace
import HandS.ClsMeth
import KE.KRevSl
import HandS.More
import HandS.ExcField
import HandS.Deep
import HandS.SetFor
import KE.DataFind
import HandS.ExcInit
import HandS.ExcIs
import KE.KExcIs
import HandS.ReplaceLit
import HandS.ReplaceList
import HandS.TupMul
import HandS.HotCalls
import KE.GoesComp
import PySem.Challenge.RW_framepost_k14_one_behind_the_other
set_option Elab.async false
set_option linter.all false
set_option maxRecDepth 100000
set_option maxHeartbeats 4000000
/-! # values as trees, worlds, and how a tree stands in the abstract heap -/
namespace Fw
open PySem PySem.Spec PyProof.Rows L2
open Evl (Ex)

/-- a value as a tree: lst a list that nobody changes any more, ml one that one place owns, obj an instance that one place owns, fo an instance that nobody changes meanwhile, ref an instance that is shared, un nothing -/
inductive D where
  | non | bl (b : Bool) | int (i : Int) | str (s : List Nat) | tup (ds : List D) | lst (ds : List D) | ml (ds : List D)
  | obj (c : Str) (ns : List Str) (ds : List D) | fo (c : Str) (ns : List Str) (ds : List D) | ref (k : Nat) | un
abbrev tr (s : List Nat) : Str := ⟨s.toArray⟩
/-- a written text's signs -/
def ofS (s : String) : List Nat := s.toList.map Char.toNat
theorem tr_ofS (s : String) : (Str.ofString s) = tr (ofS s) := Str.ofString_eq_toList s

structure Wd where
  H : Hp
  Fr : Addr → Prop
  m : List Addr
/-- a list that stands still -/
def FzR (W : Wd) (a : Addr) (xs : List V) : Prop := Rd W.H a (.lst xs) ∧ W.Fr a
def FzL (K : PySem.W.Frag) (W : Wd) (a : Addr) (xs : List V) : Prop := FzR W a xs ∨ SqL K (fun _ => none) a xs
theorem FzL.sq {K : PySem.W.Frag} {W : Wd} {a : Addr} {xs : List V} (h : FzL K W a xs) : SqL K W.H a xs := by
  rcases h with h | h
  · exact .inl h.1
  · rcases h with h | h
    · rcases h with h | ⟨_, h⟩ <;> cases h
    · exact .inr h

mutual
def R (K : PySem.W.Frag) (W : Wd) : D → V → List Addr → Prop
  | .non, v, F => v = .non ∧ F = []
  | .bl b, v, F => v = .bl b ∧ F = []
  | .int i, v, F => v = .int i ∧ F = []
  | .str s, v, F => v = .str (tr s) ∧ F = []
  | .tup ds, v, F => ∃ a vs, v = .ref a ∧ SqT K W.H a vs ∧ RL K W ds vs F
  | .lst ds, v, F => ∃ a vs, v = .ref a ∧ FzL K W a vs ∧ RL K W ds vs [] ∧ F = []
  | .ml ds, v, F => ∃ a vs F', v = .ref a ∧ W.H a = some (.lst vs) ∧ RL K W ds vs F' ∧ F = a :: F'
  | .obj c ns ds, v, F => ∃ a dx vs F', v = .ref a ∧ W.H a = some (.ins (He.ga K c) dx (ns.zip vs)) ∧ ns.length = ds.length ∧ RL K W ds vs F' ∧ F = a :: F'
  | .fo c ns ds, v, F => ∃ a dx vs, v = .ref a ∧ W.H a = some (.ins (He.ga K c) dx (ns.zip vs)) ∧ W.Fr a ∧ ns.length = ds.length ∧ RL K W ds vs [] ∧ F = []
  | .ref k, v, F => ∃ a, v = .ref a ∧ W.m[k]? = some a ∧ F = []
  | .un, v, F => False
def RL (K : PySem.W.Frag) (W : Wd) : List D → List V → List Addr → Prop
  | [], vs, F => vs = [] ∧ F = []
  | d :: ds, vs, F => ∃ v vs' F1 F2, vs = v :: vs' ∧ R K W d v F1 ∧ RL K W ds vs' F2 ∧ F = F1 ++ F2
end
/-- a slot -/
def R1 (K : PySem.W.Frag) (W : Wd) : D → Option V → List Addr → Prop
  | .un, _, F => F = []
  | d, o, F => ∃ v, o = some v ∧ R K W d v F
def RS (K : PySem.W.Frag) (W : Wd) : List D → List (Option V) → List Addr → Prop
  | [], σ, F => σ = [] ∧ F = []
  | d :: ds, σ, F => ∃ o σ' F1 F2, σ = o :: σ' ∧ R1 K W d o F1 ∧ RS K W ds σ' F2 ∧ F = F1 ++ F2

def WOk (W : Wd) : Prop := ∀ a, W.Fr a → W.H a ≠ none
/-- a place of its own: a list or an instance that may change -/
def Own (W : Wd) (a : Addr) : Prop := ¬ W.Fr a ∧ ((∃ xs, W.H a = some (.lst xs)) ∨ ∃ C dx fs, W.H a = some (.ins C dx fs))

/-- the world has grown: nothing that was there is other -/
structure Ext (W W' : Wd) : Prop where
  ex : Ex W.H W'.H
  fr : ∀ a, W.Fr a → W'.Fr a
  nf : ∀ a, W'.Fr a → W.Fr a ∨ W.H a = none
  m : W'.m = W.m
  ok : WOk W'
theorem Ext.refl {W : Wd} (h : WOk W) : Ext W W := ⟨Ex.refl _, fun _ h => h, fun _ h => .inl h, rfl, h⟩
theorem Ext.trans {A B C : Wd} (h : Ext A B) (g : Ext B C) : Ext A C :=
  ⟨h.ex.trans g.ex, fun a q => g.fr a (h.fr a q), fun a q => by
    rcases g.nf a q with q | q
    · exact h.nf a q
    · exact .inr (Evl.fresh_back h.ex q), g.m.trans h.m, g.ok⟩

theorem FzR.ext {W W' : Wd} {a : Addr} {xs : List V} (e : Ext W W') (h : FzR W a xs) : FzR W' a xs := ⟨Evl.ex_rd e.ex h.1, e.fr _ h.2⟩
theorem FzL.ext {K : PySem.W.Frag} {W W' : Wd} {a : Addr} {xs : List V} (e : Ext W W') (h : FzL K W a xs) : FzL K W' a xs := h.imp (fun z => z.ext e) id
section
variable {K : PySem.W.Frag} {W W' : Wd}
mutual
theorem R_ext (e : Ext W W') : ∀ (d : D) {v : V} {F : List Addr}, R K W d v F → R K W' d v F
  | .non, _, _, h => h
  | .bl _, _, _, h => h
  | .int _, _, _, h => h
  | .str _, _, _, h => h
  | .tup ds, _, _, h => by
    obtain ⟨a, vs, h1, h2, h3⟩ := h
    exact ⟨a, vs, h1, Evl.ex_t e.ex h2, RL_ext e ds h3⟩
  | .lst ds, _, _, h => by
    obtain ⟨a, vs, h1, h2, h3, h4⟩ := h
    exact ⟨a, vs, h1, h2.ext e, RL_ext e ds h3, h4⟩
  | .ml ds, _, _, h => by
    obtain ⟨a, vs, F', h1, h2, h3, h4⟩ := h
    exact ⟨a, vs, F', h1, e.ex _ _ h2, RL_ext e ds h3, h4⟩
  | .obj c ns ds, _, _, h => by
    obtain ⟨a, dx, vs, F', h1, h2, h3, h4, h5⟩ := h
    exact ⟨a, dx, vs, F', h1, e.ex _ _ h2, h3, RL_ext e ds h4, h5⟩
  | .fo c ns ds, _, _, h => by
    obtain ⟨a, dx, vs, h1, h2, h3, h4, h5, h6⟩ := h
    exact ⟨a, dx, vs, h1, e.ex _ _ h2, e.fr _ h3, h4, RL_ext e ds h5, h6⟩
  | .ref k, _, _, h => by
    obtain ⟨a, h1, h2, h3⟩ := h
    exact ⟨a, h1, by rw [e.m]; exact h2, h3⟩
  | .un, _, _, h => h.elim
theorem RL_ext (e : Ext W W') : ∀ (ds : List D) {vs : List V} {F : List Addr}, RL K W ds vs F → RL K W' ds vs F
  | [], _, _, h => h
  | d :: ds, _, _, h => by
    obtain ⟨v, vs', F1, F2, h1, h2, h3, h4⟩ := h
    exact ⟨v, vs', F1, F2, h1, R_ext e d h2, RL_ext e ds h3, h4⟩
end
theorem R1_iff : ∀ {d : D} {o : Option V} {F : List Addr}, R1 K W d o F ↔ (d = .un ∧ F = []) ∨ (∃ v, o = some v ∧ R K W d v F) := by
  intro d o F
  cases d <;> simp [R1, R]
theorem R1_ext (e : Ext W W') {d : D} {o : Option V} {F : List Addr} (h : R1 K W d o F) : R1 K W' d o F := by
  rw [R1_iff] at h ⊢
  rcases h with h | ⟨v, h1, h2⟩
  · exact .inl h
  · exact .inr ⟨v, h1, R_ext e d h2⟩
theorem RS_ext (e : Ext W W') : ∀ {ds : List D} {σ : List (Option V)} {F : List Addr}, RS K W ds σ F → RS K W' ds σ F
  | [], _, _, h => h
  | d :: ds, _, _, h => by
    obtain ⟨o, σ', F1, F2, h1, h2, h3, h4⟩ := h
    exact ⟨o, σ', F1, F2, h1, R1_ext e h2, RS_ext e h3, h4⟩
theorem Own.ext {a : Addr} (e : Ext W W') (h : Own W a) : Own W' a := by
  obtain ⟨h1, h2⟩ := h
  refine ⟨fun q => ?_, ?_⟩
  · rcases e.nf a q with q | q
    · exact h1 q
    · rcases h2 with ⟨xs, h2⟩ | ⟨C, dx, fs, h2⟩ <;> rw [q] at h2 <;> cases h2
  · rcases h2 with ⟨xs, h2⟩ | ⟨C, dx, fs, h2⟩
    · exact .inl ⟨xs, e.ex _ _ h2⟩
    · exact .inr ⟨C, dx, fs, e.ex _ _ h2⟩
end
/-- the slots and the store stand in the world -/
structure Sta (K : PySem.W.Frag) (W : Wd) (σ : L2.St) (ρ μ : List D) (F : List Addr) : Prop where
  ex : ∃ F1 F2, RS K W ρ σ F1 ∧ RL K W μ (W.m.map V.ref) F2 ∧ F = F1 ++ F2
  nd : F.Nodup
  own : ∀ a ∈ F, Own W a
  ok : WOk W
theorem Sta.ext {K : PySem.W.Frag} {W W' : Wd} {σ : L2.St} {ρ μ : List D} {F : List Addr} (e : Ext W W') (h : Sta K W σ ρ μ F) : Sta K W' σ ρ μ F := by
  obtain ⟨⟨F1, F2, h1, h2, h3⟩, h4, h5, h6⟩ := h
  exact ⟨⟨F1, F2, RS_ext e h1, by rw [e.m]; exact RL_ext e μ h2, h3⟩, h4, fun a ha => (h5 a ha).ext e, e.ok⟩
section
variable {K : PySem.W.Frag} {W W' : Wd}
theorem RS_get : ∀ {ρ : List D} {σ : List (Option V)} {F : List Addr} {i : Nat} {d : D}, RS K W ρ σ F → ρ[i]? = some d → d ≠ .un → ∃ v F1, σ[i]? = some (some v) ∧ R K W d v F1
  | [], _, _, i, d, _, h, _ => by simp at h
  | d0 :: ρ, _, _, 0, d, h, h1, h2 => by
    obtain ⟨o, σ', F1, F2, e1, e2, e3, e4⟩ := h
    have e : d0 = d := Option.some.inj h1
    subst e
    rw [R1_iff] at e2
    rcases e2 with ⟨q, _⟩ | ⟨v, q1, q2⟩
    · exact absurd q h2
    · exact ⟨v, F1, by rw [e1, q1]; rfl, q2⟩
  | d0 :: ρ, _, _, i + 1, d, h, h1, h2 => by
    obtain ⟨o, σ', F1, F2, e1, e2, e3, e4⟩ := h
    obtain ⟨v, F3, q1, q2⟩ := RS_get (i := i) e3 (by simpa using h1) h2
    exact ⟨v, F3, by rw [e1]; simpa using q1, q2⟩
/-! ### data -/
mutual
def data : D → Bool
  | .tup ds => dataL ds
  | .lst ds => dataL ds
  | .ml _ => false
  | .obj _ _ _ => false
  | .fo _ _ _ => false
  | .ref _ => false
  | .un => false
  | _ => true
def dataL : List D → Bool
  | [] => true
  | d :: ds => data d && dataL ds
end
mutual
theorem R_data : ∀ (d : D) {v : V} {F : List Addr}, data d = true → R K W d v F → F = []
  | .non, _, _, _, h => h.2
  | .bl _, _, _, _, h => h.2
  | .int _, _, _, _, h => h.2
  | .str _, _, _, _, h => h.2
  | .tup ds, _, _, q, h => by
    obtain ⟨a, vs, h1, h2, h3⟩ := h
    exact RL_data ds q h3
  | .lst ds, _, _, _, h => by
    obtain ⟨a, vs, h1, h2, h3, h4⟩ := h
    exact h4
  | .ml ds, _, _, q, h => by cases q
  | .obj c ns ds, _, _, q, h => by cases q
  | .fo c ns ds, _, _, q, h => by cases q
  | .ref k, _, _, q, h => by cases q
  | .un, _, _, _, h => h.elim
theorem RL_data : ∀ (ds : List D) {vs : List V} {F : List Addr}, dataL ds = true → RL K W ds vs F → F = []
  | [], _, _, _, h => h.2
  | d :: ds, _, _, q, h => by
    obtain ⟨v, vs', F1, F2, h1, h2, h3, h4⟩ := h
    have q1 : (data d && dataL ds) = true := q
    obtain ⟨qa, qb⟩ := Bool.and_eq_true_iff.mp q1
    rw [h4, R_data d qa h2, RL_data ds qb h3]
    rfl
end
theorem dataL_all : ∀ (ds : List D), dataL ds = ds.all data
  | [] => rfl
  | d :: ds => by
    show (data d && dataL ds) = _
    rw [dataL_all ds, List.all_cons]
/-! ### lists of values -/
theorem RL_len : ∀ {ds : List D} {vs : List V} {F : List Addr}, RL K W ds vs F → vs.length = ds.length
  | [], _, _, h => by rw [h.1] <;> rfl
  | d :: ds, _, _, h => by
    obtain ⟨v, vs', F1, F2, h1, h2, h3, h4⟩ := h
    rw [h1, List.length_cons, List.length_cons, RL_len h3]
theorem RL_get : ∀ {ds : List D} {vs : List V} {F : List Addr} {i : Nat} {d : D}, RL K W ds vs F → ds[i]? = some d → ∃ v F1, vs[i]? = some v ∧ R K W d v F1 ∧ ∀ a ∈ F1, a ∈ F
  | [], _, _, i, d, _, h => by simp at h
  | d0 :: ds, _, _, 0, d, h, h1 => by
    obtain ⟨v, vs', F1, F2, e1, e2, e3, e4⟩ := h
    have e : d0 = d := Option.some.inj h1
    subst e
    exact ⟨v, F1, by rw [e1]; rfl, e2, fun a ha => by rw [e4]; exact List.mem_append_left _ ha⟩
  | d0 :: ds, _, _, i + 1, d, h, h1 => by
    obtain ⟨v, vs', F1, F2, e1, e2, e3, e4⟩ := h
    obtain ⟨u, F3, q1, q2, q3⟩ := RL_get (i := i) e3 (by simpa using h1)
    exact ⟨u, F3, by rw [e1]; simpa using q1, q2, fun a ha => by rw [e4]; exact List.mem_append_right _ (q3 a ha)⟩
theorem RL_app : ∀ {ds es : List D} {vs us : List V} {F G : List Addr}, RL K W ds vs F → RL K W es us G → RL K W (ds ++ es) (vs ++ us) (F ++ G)
  | [], es, _, us, _, G, h, g => by
    rw [h.1, h.2]
    exact g
  | d :: ds, es, _, us, _, G, h, g => by
    obtain ⟨v, vs', F1, F2, e1, e2, e3, e4⟩ := h
    refine ⟨v, vs' ++ us, F1, F2 ++ G, by rw [e1]; rfl, e2, RL_app e3 g, by rw [e4, List.append_assoc]⟩
theorem RL_take : ∀ {ds : List D} {vs : List V} {n : Nat}, RL K W ds vs [] → RL K W (ds.take n) (vs.take n) []
  | [], _, n, h => by
    rw [h.1, List.take_nil, List.take_nil]
    exact ⟨rfl, rfl⟩
  | d :: ds, _, 0, h => by
    rw [List.take_zero, List.take_zero]
    exact ⟨rfl, rfl⟩
  | d :: ds, _, n + 1, h => by
    obtain ⟨v, vs', F1, F2, e1, e2, e3, e4⟩ := h
    obtain ⟨rfl, rfl⟩ := List.append_eq_nil_iff.mp e4.symm
    rw [e1]
    exact ⟨v, vs'.take n, [], [], rfl, e2, RL_take e3, rfl⟩
theorem RL_drop : ∀ {ds : List D} {vs : List V} {n : Nat}, RL K W ds vs [] → RL K W (ds.drop n) (vs.drop n) []
  | [], _, n, h => by
    rw [h.1, List.drop_nil, List.drop_nil]
    exact ⟨rfl, rfl⟩
  | d :: ds, _, 0, h => by
    rw [List.drop_zero, List.drop_zero]
    exact h
  | d :: ds, _, n + 1, h => by
    obtain ⟨v, vs', F1, F2, e1, e2, e3, e4⟩ := h
    obtain ⟨rfl, rfl⟩ := List.append_eq_nil_iff.mp e4.symm
    rw [e1]
    show RL K W (ds.drop n) (vs'.drop n) []
    exact RL_drop (n := n) e3
end
/-! ### the world grows by one -/
section
variable {W : Wd} {p : Addr} {o : HO}
abbrev Wd.put (W : Wd) (p : Addr) (o : HO) : Wd := ⟨upd W.H p o, W.Fr, W.m⟩
abbrev Wd.frz (W : Wd) (p : Addr) (xs : List V) : Wd := ⟨upd W.H p (.lst xs), fun a => W.Fr a ∨ a = p, W.m⟩
theorem Ext.put (ok : WOk W) (hp : W.H p = none) : Ext W (W.put p o) :=
  ⟨Ex.new hp, fun _ h => h, fun _ h => .inl h, rfl, fun a h => by
    show upd W.H p o a ≠ none
    by_cases e : a = p
    · rw [e, upd_same]
      exact fun z => nomatch z
    · rw [upd_ne e]
      exact ok a h⟩
theorem Ext.frz {xs : List V} (ok : WOk W) (hp : W.H p = none) : Ext W (W.frz p xs) :=
  ⟨Ex.new hp, fun _ h => .inl h, fun a h => by
    rcases h with h | h
    · exact .inl h
    · exact .inr (by rw [h]; exact hp), rfl, fun a h => by
    show upd W.H p (.lst xs) a ≠ none
    rcases h with h | h
    · by_cases e : a = p
      · rw [e, upd_same]
        exact fun z => nomatch z
      · rw [upd_ne e]
        exact ok a h
    · rw [h, upd_same]
      exact fun z => nomatch z⟩
theorem R_newT {K : PySem.W.Frag} {ds : List D} {vs : List V} {F : List Addr} (ok : WOk W) (hp : W.H p = none) (h : RL K W ds vs F) : R K (W.put p (.tup vs)) (.tup ds) (.ref p) F :=
  ⟨p, vs, rfl, Evl.st_of upd_same, RL_ext (Ext.put ok hp) ds h⟩
theorem R_newL {K : PySem.W.Frag} {ds : List D} {vs : List V} (ok : WOk W) (hp : W.H p = none) (h : RL K W ds vs []) : R K (W.frz p vs) (.lst ds) (.ref p) [] :=
  ⟨p, vs, rfl, .inl ⟨.inl upd_same, .inr rfl⟩, RL_ext (Ext.frz ok hp) ds h, rfl⟩
end
/-! ### what stands still stays, whatever else is changed -/
structure Lt (W W' : Wd) : Prop where
  tup : ∀ a xs, Rd W.H a (.tup xs) → Rd W'.H a (.tup xs)
  fz : ∀ a xs, FzR W a xs → FzR W' a xs
  fi : ∀ a C dx fs, W.H a = some (.ins C dx fs) → W.Fr a → W'.H a = some (.ins C dx fs) ∧ W'.Fr a
  m : ∀ (k : Nat) (a : Addr), W.m[k]? = some a → W'.m[k]? = some a
theorem Lt.refl {W : Wd} : Lt W W := ⟨fun _ _ h => h, fun _ _ h => h, fun _ _ _ _ h h' => ⟨h, h'⟩, fun _ _ h => h⟩
theorem Lt.trans {A B C : Wd} (h : Lt A B) (g : Lt B C) : Lt A C := ⟨fun a xs q => g.tup a xs (h.tup a xs q), fun a xs q => g.fz a xs (h.fz a xs q), fun a C dx fs q q' => g.fi a C dx fs (h.fi a C dx fs q q').1 (h.fi a C dx fs q q').2, fun k a q => g.m k a (h.m k a q)⟩
theorem Ext.lt {W W' : Wd} (e : Ext W W') : Lt W W' := ⟨fun _ _ h => Evl.ex_rd e.ex h, fun _ _ h => h.ext e, fun _ _ _ _ h h' => ⟨e.ex _ _ h, e.fr _ h'⟩, fun _ _ h => by rw [e.m]; exact h⟩
theorem FzL.lt {K : PySem.W.Frag} {W W' : Wd} {a : Addr} {xs : List V} (e : Lt W W') (h : FzL K W a xs) : FzL K W' a xs := h.imp (fun z => e.fz _ _ z) id
theorem Lt.sqT {K : PySem.W.Frag} {W W' : Wd} {a : Addr} {xs : List V} (e : Lt W W') (h : SqT K W.H a xs) : SqT K W'.H a xs := by
  rcases h with h | h
  · exact .inl (e.tup a xs h)
  · exact .inr h
section
variable {K : PySem.W.Frag} {W W' : Wd}
mutual
theorem R_lt (e : Lt W W') : ∀ (d : D) {v : V}, R K W d v [] → R K W' d v []
  | .non, _, h => h
  | .bl _, _, h => h
  | .int _, _, h => h
  | .str _, _, h => h
  | .tup ds, _, h => by
    obtain ⟨a, vs, h1, h2, h3⟩ := h
    exact ⟨a, vs, h1, e.sqT h2, RL_lt e ds h3⟩
  | .lst ds, _, h => by
    obtain ⟨a, vs, h1, h2, h3, h4⟩ := h
    exact ⟨a, vs, h1, h2.lt e, RL_lt e ds h3, h4⟩
  | .ml ds, _, h => by
    obtain ⟨a, vs, F', h1, h2, h3, h4⟩ := h
    cases h4
  | .obj c ns ds, _, h => by
    obtain ⟨a, dx, vs, F', h1, h2, h3, h4, h5⟩ := h
    cases h5
  | .fo c ns ds, _, h => by
    obtain ⟨a, dx, vs, h1, h2, h3, h4, h5, h6⟩ := h
    obtain ⟨q1, q2⟩ := e.fi _ _ _ _ h2 h3
    exact ⟨a, dx, vs, h1, q1, q2, h4, RL_lt e ds h5, h6⟩
  | .ref k, _, h => by
    obtain ⟨a, h1, h2, h3⟩ := h
    exact ⟨a, h1, e.m _ _ h2, h3⟩
  | .un, _, h => h.elim
theorem RL_lt (e : Lt W W') : ∀ (ds : List D) {vs : List V}, RL K W ds vs [] → RL K W' ds vs []
  | [], _, h => h
  | d :: ds, _, h => by
    obtain ⟨v, vs', F1, F2, h1, h2, h3, h4⟩ := h
    obtain ⟨rfl, rfl⟩ := List.append_eq_nil_iff.mp h4.symm
    exact ⟨v, vs', [], [], h1, R_lt e d h2, RL_lt e ds h3, rfl⟩
end
/-! ### a slot is set -/
theorem RS_len : ∀ {ρ : List D} {σ : List (Option V)} {F : List Addr}, RS K W ρ σ F → σ.length = ρ.length
  | [], _, _, h => by rw [h.1] <;> rfl
  | d :: ρ, _, _, h => by
    obtain ⟨o, σ', F1, F2, e1, e2, e3, e4⟩ := h
    rw [e1, List.length_cons, List.length_cons, RS_len e3]
theorem RS_set {d' : D} {o' : Option V} {G : List Addr} (g : R1 K W d' o' G) : ∀ {ρ : List D} {σ : List (Option V)} {F : List Addr} {i : Nat}, RS K W ρ σ F → i < ρ.length → ∃ A B C, F = A ++ (B ++ C) ∧ RS K W (ρ.set i d') (σ.set i o') (A ++ (G ++ C))
  | [], _, _, i, _, h => by cases h
  | d :: ρ, _, _, 0, h, _ => by
    obtain ⟨o, σ', F1, F2, e1, e2, e3, e4⟩ := h
    exact ⟨[], F1, F2, e4, by rw [e1]; exact ⟨o', σ', G, F2, rfl, g, e3, rfl⟩⟩
  | d :: ρ, _, _, i + 1, h, hl => by
    obtain ⟨o, σ', F1, F2, e1, e2, e3, e4⟩ := h
    obtain ⟨A, B, C, q1, q2⟩ := RS_set g (i := i) e3 (Nat.lt_of_succ_lt_succ hl)
    refine ⟨F1 ++ A, B, C, by rw [e4, q1, List.append_assoc], ?_⟩
    rw [e1]
    exact ⟨o, σ'.set i o', F1, A ++ (G ++ C), rfl, e2, q2, by rw [List.append_assoc]⟩
end
/-- a slot gets what has no place of its own -/
theorem Sta.set {K : PySem.W.Frag} {W : Wd} {σ : L2.St} {ρ μ : List D} {F : List Addr} {i : Nat} {d : D} {o : Option V} (S : Sta K W σ ρ μ F) (g : R1 K W d o []) : ∃ F', Sta K W (σ.set i o) (ρ.set i d) μ F' ∧ ∀ a ∈ F', a ∈ F := by
  obtain ⟨⟨F1, F2, h1, h2, h3⟩, nd, own, ok⟩ := S
  have hl := RS_len h1
  by_cases hi : i < ρ.length
  · obtain ⟨A, B, C, q1, q2⟩ := RS_set g h1 hi
    have e1 : F = A ++ (B ++ C) ++ F2 := by rw [h3, q1]
    have sub : (A ++ ([] ++ C) ++ F2).Sublist F := by
      rw [e1]
      exact List.Sublist.append (List.Sublist.append (List.Sublist.refl A) (List.Sublist.append (List.nil_sublist B) (List.Sublist.refl C))) (List.Sublist.refl F2)
    exact ⟨A ++ ([] ++ C) ++ F2, ⟨⟨_, F2, q2, h2, rfl⟩, nd.sublist sub, fun a ha => own a (sub.subset ha), ok⟩, fun a ha => sub.subset ha⟩
  · rw [List.set_eq_of_length_le (by omega), List.set_eq_of_length_le (by omega)]
    exact ⟨F, ⟨⟨F1, F2, h1, h2, h3⟩, nd, own, ok⟩, fun a ha => ha⟩
/-! ### data do not ask who is shared -/
section
variable {K : PySem.W.Frag} {W : Wd}
mutual
theorem R_m {m : List Addr} : ∀ (d : D) {v : V} {F : List Addr}, data d = true → R K W d v F → R K ⟨W.H, W.Fr, m⟩ d v F
  | .non, _, _, _, h => h
  | .bl _, _, _, _, h => h
  | .int _, _, _, _, h => h
  | .str _, _, _, _, h => h
  | .tup ds, _, _, q, h => by
    obtain ⟨a, vs, h1, h2, h3⟩ := h
    exact ⟨a, vs, h1, h2, RL_m ds q h3⟩
  | .lst ds, _, _, q, h => by
    obtain ⟨a, vs, h1, h2, h3, h4⟩ := h
    exact ⟨a, vs, h1, h2, RL_m ds q h3, h4⟩
  | .ml ds, _, _, q, h => by cases q
  | .obj c ns ds, _, _, q, h => by cases q
  | .fo c ns ds, _, _, q, h => by cases q
  | .ref k, _, _, q, h => by cases q
  | .un, _, _, q, h => by cases q
theorem RL_m {m : List Addr} : ∀ (ds : List D) {vs : List V} {F : List Addr}, dataL ds = true → RL K W ds vs F → RL K ⟨W.H, W.Fr, m⟩ ds vs F
  | [], _, _, _, h => h
  | d :: ds, _, _, q, h => by
    obtain ⟨v, vs', F1, F2, h1, h2, h3, h4⟩ := h
    obtain ⟨qa, qb⟩ := Bool.and_eq_true_iff.mp (show (data d && dataL ds) = true from q)
    exact ⟨v, vs', F1, F2, h1, R_m d qa h2, RL_m ds qb h3, h4⟩
end
end
/-! ### the world moves at F; F' is one's own behind -/
structure Mv (W W' : Wd) (F F' : List Addr) : Prop where
  keep : ∀ a o, W.H a = some o → a ∉ F → W'.H a = some o
  fr : ∀ a, W.Fr a → W'.Fr a
  nf : ∀ a, W'.Fr a → W.Fr a ∨ W.H a = none ∨ a ∈ F
  own : ∀ a ∈ F', a ∈ F ∨ W.H a = none
  m : ∃ l, W'.m = W.m ++ l
theorem Ext.mv {W W' : Wd} {F F' : List Addr} (e : Ext W W') (h : ∀ a ∈ F', a ∈ F) : Mv W W' F F' :=
  ⟨fun a o h _ => e.ex a o h, e.fr, fun a h => (e.nf a h).elim .inl fun z => .inr (.inl z), fun a ha => .inl (h a ha), ⟨[], by rw [e.m, List.append_nil]⟩⟩
theorem Mv.trans {A B C : Wd} {F G I : List Addr} (h : Mv A B F G) (g : Mv B C G I) : Mv A C F I := by
  have back : ∀ a, B.H a = none → A.H a = none ∨ a ∈ F := fun a q => by
    cases e : A.H a with
    | none => exact .inl rfl
    | some o =>
      by_cases hf : a ∈ F
      · exact .inr hf
      · rw [h.keep a o e hf] at q
        cases q
  refine ⟨fun a o e hf => ?_, fun a q => g.fr a (h.fr a q), fun a q => ?_, fun a ha => ?_, ?_⟩
  · refine g.keep a o (h.keep a o e hf) fun z => ?_
    rcases h.own a z with z | z
    · exact hf z
    · rw [e] at z
      cases z
  · rcases g.nf a q with q | q | q
    · exact h.nf a q
    · rcases back a q with q | q
      · exact .inr (.inl q)
      · exact .inr (.inr q)
    · rcases h.own a q with q | q
      · exact .inr (.inr q)
      · exact .inr (.inl q)
  · rcases g.own a ha with q | q
    · exact h.own a q
    · rcases back a q with q | q
      · exact .inr q
      · exact .inl q
  · obtain ⟨l, h⟩ := h.m
    obtain ⟨l', g⟩ := g.m
    exact ⟨l ++ l', by rw [g, h, List.append_assoc]⟩
theorem Mv.lt {W W' : Wd} {F F' : List Addr} (h : Mv W W' F F') (own : ∀ a ∈ F, Own W a) : Lt W W' := by
  have out : ∀ a o, W.H a = some o → (∀ xs, o ≠ .lst xs) → (∀ C dx fs, o ≠ .ins C dx fs) → a ∉ F := fun a o e n1 n2 z => by
    obtain ⟨_, q⟩ := own a z
    rcases q with ⟨xs, q⟩ | ⟨C, dx, fs, q⟩
    · rw [e] at q
      exact n1 xs (Option.some.inj q)
    · rw [e] at q
      exact n2 C dx fs (Option.some.inj q)
  refine ⟨fun a xs r => ?_, fun a xs r => ⟨?_, h.fr a r.2⟩, fun a C dx fs r r' => ⟨h.keep a _ r fun z => (own a z).1 r', h.fr a r'⟩, fun k a e => ?_⟩
  · rcases r with r | ⟨o, r⟩
    · exact .inl (h.keep a _ r (out a _ r (fun _ q => nomatch q) fun _ _ _ q => nomatch q))
    · exact .inr ⟨o, h.keep a _ r (out a _ r (fun _ q => nomatch q) fun _ _ _ q => nomatch q)⟩
  · have nf : a ∉ F := fun z => (own a z).1 r.2
    rcases r.1 with r | ⟨o, r⟩
    · exact .inl (h.keep a _ r nf)
    · exact .inr ⟨o, h.keep a _ r nf⟩
  · obtain ⟨l, q⟩ := h.m
    rw [q, List.getElem?_append_left (List.getElem?_eq_some_iff.mp e).1]
    exact e
/-! ### the same heap, more that stands still -/
section
variable {K : PySem.W.Frag} {W W' : Wd}
mutual
theorem R_same (e : Lt W W') (hH : W'.H = W.H) : ∀ (d : D) {v : V} {F : List Addr}, R K W d v F → R K W' d v F
  | .non, _, _, h => h
  | .bl _, _, _, h => h
  | .int _, _, _, h => h
  | .str _, _, _, h => h
  | .tup ds, _, _, h => by
    obtain ⟨a, vs, h1, h2, h3⟩ := h
    exact ⟨a, vs, h1, e.sqT h2, RL_same e hH ds h3⟩
  | .lst ds, _, _, h => by
    obtain ⟨a, vs, h1, h2, h3, h4⟩ := h
    exact ⟨a, vs, h1, h2.lt e, RL_same e hH ds h3, h4⟩
  | .ml ds, _, _, h => by
    obtain ⟨a, vs, F', h1, h2, h3, h4⟩ := h
    exact ⟨a, vs, F', h1, by rw [hH]; exact h2, RL_same e hH ds h3, h4⟩
  | .obj c ns ds, _, _, h => by
    obtain ⟨a, dx, vs, F', h1, h2, h3, h4, h5⟩ := h
    exact ⟨a, dx, vs, F', h1, by rw [hH]; exact h2, h3, RL_same e hH ds h4, h5⟩
  | .fo c ns ds, _, _, h => by
    obtain ⟨a, dx, vs, h1, h2, h3, h4, h5, h6⟩ := h
    obtain ⟨q1, q2⟩ := e.fi _ _ _ _ h2 h3
    exact ⟨a, dx, vs, h1, q1, q2, h4, RL_same e hH ds h5, h6⟩
  | .ref k, _, _, h => by
    obtain ⟨a, h1, h2, h3⟩ := h
    exact ⟨a, h1, e.m _ _ h2, h3⟩
  | .un, _, _, h => h.elim
theorem RL_same (e : Lt W W') (hH : W'.H = W.H) : ∀ (ds : List D) {vs : List V} {F : List Addr}, RL K W ds vs F → RL K W' ds vs F
  | [], _, _, h => h
  | d :: ds, _, _, h => by
    obtain ⟨v, vs', F1, F2, h1, h2, h3, h4⟩ := h
    exact ⟨v, vs', F1, F2, h1, R_same e hH d h2, RL_same e hH ds h3, h4⟩
end
theorem RS_same (e : Lt W W') (hH : W'.H = W.H) : ∀ {ds : List D} {σ : List (Option V)} {F : List Addr}, RS K W ds σ F → RS K W' ds σ F
  | [], _, _, h => h
  | d :: ds, _, _, h => by
    obtain ⟨o, σ', F1, F2, h1, h2, h3, h4⟩ := h
    refine ⟨o, σ', F1, F2, h1, ?_, RS_same e hH h3, h4⟩
    rw [R1_iff] at h2 ⊢
    rcases h2 with h2 | ⟨v, q1, q2⟩
    · exact .inl h2
    · exact .inr ⟨v, q1, R_same e hH d q2⟩
end
end Fw
/-! # quiet expressions: what they evaluate to, nothing else changed -/
namespace Fw
open PySem PySem.Spec PyProof.Rows L2
open Evl (Ex)

abbrev FQ := List D → List D → Option D
abbrev FB := List D → List D → Option Bool
abbrev FA := List D → List D → Option (List D)

/-- e is quiet: where f tells d, it evaluates to d; the world may only grow -/
def PQ (X : Cx) (e : Expr) (f : FQ) : Prop := ∃ te : TE, PE X e te ∧ ∀ (σ : L2.St) (W : Wd) (ρ μ : List D) (F : List Addr), Sta X.K W σ ρ μ F → ∀ d, f ρ μ = some d →
  ∀ Q : VK, (∀ v W' G, Ext W W' → R X.K W' d v G → Q v W'.H) → te σ W.H Q
def PB (X : Cx) (e : Expr) (f : FB) : Prop := ∃ tt : TT, PT X e tt ∧ ∀ (σ : L2.St) (W : Wd) (ρ μ : List D) (F : List Addr), Sta X.K W σ ρ μ F → ∀ b, f ρ μ = some b →
  ∀ Q : Bool → Hp → Prop, (∀ W', Ext W W' → Q b W'.H) → tt σ W.H Q
def PWB (X : Cx) (e : Expr) (f : FB) : Prop := ∃ tt : TT, PW X e tt ∧ ∀ (σ : L2.St) (W : Wd) (ρ μ : List D) (F : List Addr), Sta X.K W σ ρ μ F → ∀ b, f ρ μ = some b →
  ∀ Q : Bool → Hp → Prop, (∀ W', Ext W W' → Q b W'.H) → tt σ W.H Q
def PAQ (X : Cx) (es : List Expr) (f : FA) : Prop := ∃ ta : TA, PA X es ta ∧ ∀ (σ : L2.St) (W : Wd) (ρ μ : List D) (F : List Addr), Sta X.K W σ ρ μ F → ∀ ds, f ρ μ = some ds →
  ∀ Q : List V → Hp → Prop, (∀ vs W' G, Ext W W' → RL X.K W' ds vs G → Q vs W'.H) → ta σ W.H Q
/-- a new list at p, its items data; nobody else knows it -/
structure NewL (K : PySem.W.Frag) (W W' : Wd) (ds : List D) (p : Addr) : Prop where
  ext : Ext W W'
  new : W.H p = none
  nofr : ¬ W'.Fr p
  at_ : ∃ vs, W'.H p = some (.lst vs) ∧ RL K W' ds vs []
def PN (X : Cx) (e : Expr) (f : FA) : Prop := ∃ te : TE, PE X e te ∧ ∀ (σ : L2.St) (W : Wd) (ρ μ : List D) (F : List Addr), Sta X.K W σ ρ μ F → ∀ ds, f ρ μ = some ds →
  ∀ Q : VK, (∀ p W', NewL X.K W W' ds p → Q (.ref p) W'.H) → te σ W.H Q

section
variable {X : Cx} {e a b c : Expr} {es : List Expr} {f g h : FQ} {pos : Pos}
/-! ### names, constants -/
def qVar (i : Nat) : FQ := fun ρ _ => match ρ[i]? with
  | some .un => none
  | o => o
theorem pq_var (i : Nat) {x : Str} (hp : PE X (.Name x pos) (tVar i)) : PQ X (.Name x pos) (qVar i) := by
  refine ⟨_, hp, fun σ W ρ μ F S d hd Q q => ?_⟩
  obtain ⟨F1, F2, h1, h2, h3⟩ := S.ex
  have hr : ρ[i]? = some d ∧ d ≠ .un := by
    unfold qVar at hd
    cases e : ρ[i]? with
    | none => rw [e] at hd; cases hd
    | some d0 =>
      rw [e] at hd
      cases d0 <;> first
        | (cases hd; done)
        | (have z := Option.some.inj hd; subst z; exact ⟨rfl, fun z => nomatch z⟩)
  obtain ⟨v, G, s1, s2⟩ := RS_get h1 hr.1 hr.2
  exact ⟨v, s1, q v W G (Ext.refl S.ok) s2⟩
def qC (d : D) : FQ := fun _ _ => some d
theorem pq_int {i : Int} {j} : PQ X (.Constant (.int i) j pos) (qC (.int i)) :=
  ⟨_, pe_int, fun σ W ρ μ F S d hd Q q => q _ W [] (Ext.refl S.ok) (by cases hd; exact ⟨rfl, rfl⟩)⟩
theorem pq_bl {i : Bool} {j} : PQ X (.Constant (.bool i) j pos) (qC (.bl i)) :=
  ⟨_, pe_bl, fun σ W ρ μ F S d hd Q q => q _ W [] (Ext.refl S.ok) (by cases hd; exact ⟨rfl, rfl⟩)⟩
theorem pq_non {j} : PQ X (.Constant .none j pos) (qC .non) :=
  ⟨_, pe_non, fun σ W ρ μ F S d hd Q q => q _ W [] (Ext.refl S.ok) (by cases hd; exact ⟨rfl, rfl⟩)⟩
theorem pq_str (x : String) {j} : PQ X (.Constant (.str (Str.ofString x)) j pos) (qC (.str (ofS x))) :=
  ⟨_, pe_str, fun σ W ρ μ F S d hd Q q => q _ W [] (Ext.refl S.ok) (by cases hd; exact ⟨congrArg V.str (tr_ofS x), rfl⟩)⟩
/-- a name of the module: d stands there at every heap -/
def GlD (K : PySem.W.Frag) (mg : Str → Option Value) (x : Str) (d : D) : Prop := ∃ v u, mg x = some u ∧ RelV v u ∧ ∀ W : Wd, R K W d v []
theorem pq_glob {x : Str} {d : D} (G : GlD X.K X.mg x d) (hg : Gl X x := by rfl) (hd : (x == ("__debug__" : Str)) = false := by decide) : PQ X (.Name x pos) (qC d) := by
  obtain ⟨v, u, h1, h2, h3⟩ := G
  exact ⟨_, pe_glob hg h1 h2 hd, fun σ W ρ μ F S d' hd' Q q => q v W [] (Ext.refl S.ok) (by cases hd'; exact h3 W)⟩

/-! ### operators -/
def q2 (o : D → D → Option D) (f g : FQ) : FQ := fun ρ μ => (f ρ μ).bind fun x => (g ρ μ).bind fun y => o x y
def q1 (o : D → Option D) (f : FQ) : FQ := fun ρ μ => (f ρ μ).bind o
theorem bind_some {α β : Type} {o : Option α} {k : α → Option β} {z : β} (h : o.bind k = some z) : ∃ x, o = some x ∧ k x = some z := by
  cases o with
  | none => cases h
  | some x => exact ⟨x, rfl, h⟩
/-- an operator on trees -/
def OpD (X : Cx) (op : Value → Value → Sem Value) (o : D → D → Option D) : Prop := ∃ r : R2, OpR X op r ∧ ∀ (W : Wd) (x y : D) (u v : V) (G1 G2 : List Addr), WOk W → R X.K W x u G1 → R X.K W y v G2 → ∀ d, o x y = some d →
  ∀ Q : VK, (∀ v W' G, Ext W W' → R X.K W' d v G → Q v W'.H) → r u v W.H Q
theorem run2 {ta tb : TE} {r : R2} {o : D → D → Option D}
    (h1 : ∀ (σ : L2.St) (W : Wd) (ρ μ : List D) (F : List Addr), Sta X.K W σ ρ μ F → ∀ d, f ρ μ = some d → ∀ Q : VK, (∀ v W' G, Ext W W' → R X.K W' d v G → Q v W'.H) → ta σ W.H Q)
    (h2 : ∀ (σ : L2.St) (W : Wd) (ρ μ : List D) (F : List Addr), Sta X.K W σ ρ μ F → ∀ d, g ρ μ = some d → ∀ Q : VK, (∀ v W' G, Ext W W' → R X.K W' d v G → Q v W'.H) → tb σ W.H Q)
    (h3 : ∀ (W : Wd) (x y : D) (u v : V) (G1 G2 : List Addr), WOk W → R X.K W x u G1 → R X.K W y v G2 → ∀ d, o x y = some d → ∀ Q : VK, (∀ v W' G, Ext W W' → R X.K W' d v G → Q v W'.H) → r u v W.H Q)
    (σ : L2.St) (W : Wd) (ρ μ : List D) (F : List Addr) (S : Sta X.K W σ ρ μ F) (d : D) (hd : q2 o f g ρ μ = some d) (Q : VK) (q : ∀ v W' G, Ext W W' → R X.K W' d v G → Q v W'.H) : tOp r ta tb σ W.H Q := by
  obtain ⟨x, e1, hd⟩ := bind_some hd
  obtain ⟨y, e2, hd⟩ := bind_some hd
  refine h1 σ W ρ μ F S x e1 _ fun u W1 G1 x1 r1 => ?_
  refine h2 σ W1 ρ μ F (S.ext x1) y e2 _ fun v W2 G2 x2 r2 => ?_
  exact h3 W2 x y u v G1 G2 x2.ok (R_ext x2 x r1) r2 d hd _ fun z W3 G3 x3 r3 => q z W3 G3 ((x1.trans x2).trans x3) r3
theorem pq_op {op : Operator} {o : D → D → Option D} (h : OpD X (binaryOp op) o) (ha : PQ X a f) (hb : PQ X b g) : PQ X (.BinOp a op b pos) (q2 o f g) := by
  obtain ⟨r, hr, h3⟩ := h
  obtain ⟨ta, pa, h1⟩ := ha
  obtain ⟨tb, pb, h2⟩ := hb
  exact ⟨_, pe_op hr pa pb, run2 h1 h2 h3⟩
theorem pq_cmp {op : CmpOp} {o : D → D → Option D} (h : OpD X (compareOp op) o) (ha : PQ X a f) (hb : PQ X b g) (hm : behindInMarks op b = false) : PQ X (.Compare a [op] [b] pos) (q2 o f g) := by
  obtain ⟨r, hr, h3⟩ := h
  obtain ⟨ta, pa, h1⟩ := ha
  obtain ⟨tb, pb, h2⟩ := hb
  exact ⟨_, pe_cmpR hr pa pb hm, run2 h1 h2 h3⟩
/-- a truth out of a value -/
def qB (f : FQ) : FB := fun ρ μ => match f ρ μ with
  | some (.bl b) => some b
  | _ => none
theorem qB_some {f : FQ} {ρ μ : List D} {b : Bool} (h : qB f ρ μ = some b) : f ρ μ = some (.bl b) := by
  unfold qB at h
  cases e : f ρ μ with
  | none => rw [e] at h; cases h
  | some d =>
    rw [e] at h
    cases d <;> first
      | (cases h; done)
      | (have z := Option.some.inj h; subst z; rfl)
theorem pb_val (ha : PQ X a f) (he : ∀ whole, isTrue a X.env whole = (do let v ← whole; standAt a.pos; holding [v] (truthy v)) := by intro _; rfl) : PB X a (qB f) := by
  obtain ⟨ta, pa, h1⟩ := ha
  refine ⟨_, pt_val pa he, fun σ W ρ μ F S b hb Q q => ?_⟩
  refine h1 σ W ρ μ F S _ (qB_some hb) _ fun u W1 G1 x1 r1 => ?_
  exact ⟨b, r1.1, q W1 x1⟩
theorem pb_cmp {op : CmpOp} {o : D → D → Option D} (h : OpD X (compareOp op) o) (ha : PQ X a f) (hb : PQ X b g) (hm : behindInMarks op b = false) : PB X (.Compare a [op] [b] pos) (qB (q2 o f g)) := by
  obtain ⟨r, hr, h3⟩ := h
  obtain ⟨ta, pa, h1⟩ := ha
  obtain ⟨tb, pb, h2⟩ := hb
  refine ⟨_, pt_cmpR hr pa pb hm, fun σ W ρ μ F S b hb Q q => ?_⟩
  refine run2 h1 h2 h3 σ W ρ μ F S _ (qB_some hb) _ fun u W1 G1 x1 r1 => ?_
  exact ⟨b, r1.1, q W1 x1⟩
/-! ### two comparisons in a chain -/
def q3 (o o' : D → D → Option D) (f g h : FQ) : FQ := fun ρ μ => (f ρ μ).bind fun x => (g ρ μ).bind fun y => match o x y with
  | some (.bl true) => (h ρ μ).bind fun z => o' y z
  | some (.bl false) => some (.bl false)
  | _ => none
theorem run3 {op op' : CmpOp} {o o' : D → D → Option D} (H1 : OpD X (compareOp op) o) (H2 : OpD X (compareOp op') o') (ha : PQ X a f) (hb : PQ X b g) (hc : PQ X c h) :
    ∃ r r' ta tb tc, OpR X (compareOp op) r ∧ OpR X (compareOp op') r' ∧ PE X a ta ∧ PE X b tb ∧ PE X c tc ∧
      ∀ (σ : L2.St) (W : Wd) (ρ μ : List D) (F : List Addr), Sta X.K W σ ρ μ F → ∀ d, q3 o o' f g h ρ μ = some d → ∀ Q : VK, (∀ v W' G, Ext W W' → R X.K W' d v G → Q v W'.H) → tChain r r' ta tb tc σ W.H Q := by
  obtain ⟨r, hr, h3⟩ := H1
  obtain ⟨r', hr', h4⟩ := H2
  obtain ⟨ta, pa, h1⟩ := ha
  obtain ⟨tb, pb, h2⟩ := hb
  obtain ⟨tc, pc, h5⟩ := hc
  refine ⟨r, r', ta, tb, tc, hr, hr', pa, pb, pc, fun σ W ρ μ F S d hd Q q => ?_⟩
  obtain ⟨x, e1, hd⟩ := bind_some hd
  obtain ⟨y, e2, hd⟩ := bind_some hd
  refine h1 σ W ρ μ F S x e1 _ fun u W1 G1 x1 r1 => ?_
  refine h2 σ W1 ρ μ F (S.ext x1) y e2 _ fun v W2 G2 x2 r2 => ?_
  cases e3 : o x y with
  | none => rw [e3] at hd; cases hd
  | some k =>
    rw [e3] at hd
    refine h3 W2 x y u v G1 G2 x2.ok (R_ext x2 x r1) r2 k e3 _ fun z W3 G3 x3 r3 => ?_
    cases k with
    | bl t =>
      refine ⟨t, r3.1, ?_⟩
      cases t with
      | true =>
        rw [if_pos rfl]
        obtain ⟨w, e4, hd⟩ := bind_some hd
        refine h5 σ W3 ρ μ F (((S.ext x1).ext x2).ext x3) w e4 _ fun t' W4 G4 x4 r4 => ?_
        exact h4 W4 y w v t' G2 G4 x4.ok (R_ext (x3.trans x4) y r2) r4 d hd _ fun z' W5 G5 x5 r5 => q z' W5 G5 ((((x1.trans x2).trans x3).trans x4).trans x5) r5
      | false =>
        rw [if_neg Bool.false_ne_true]
        cases hd
        exact q _ W3 [] ((x1.trans x2).trans x3) ⟨rfl, rfl⟩
    | _ => cases hd
end
end Fw
/-! # more quiet expressions -/
namespace Fw
open PySem PySem.Spec PyProof.Rows L2
open Evl (Ex)
section
variable {X : Cx} {e a b c : Expr} {es : List Expr} {f g h : FQ} {t u : FB} {pos : Pos}
theorem pq_chain {op op' : CmpOp} {o o' : D → D → Option D} (H1 : OpD X (compareOp op) o) (H2 : OpD X (compareOp op') o') (ha : PQ X a f) (hb : PQ X b g) (hc : PQ X c h)
    (hm : lastMarks [op, op'] [b, c] = false := by with_unfolding_all rfl) : PQ X (.Compare a [op, op'] [b, c] pos) (q3 o o' f g h) := by
  obtain ⟨r, r', ta, tb, tc, hr, hr', pa, pb, pc, k⟩ := run3 H1 H2 ha hb hc
  exact ⟨_, pe_chain hr hr' pa pb pc hm, k⟩
theorem pb_chain {op op' : CmpOp} {o o' : D → D → Option D} (H1 : OpD X (compareOp op) o) (H2 : OpD X (compareOp op') o') (ha : PQ X a f) (hb : PQ X b g) (hc : PQ X c h)
    (hm : lastMarks [op, op'] [b, c] = false := by with_unfolding_all rfl) : PB X (.Compare a [op, op'] [b, c] pos) (qB (q3 o o' f g h)) := by
  obtain ⟨r, r', ta, tb, tc, hr, hr', pa, pb, pc, k⟩ := run3 H1 H2 ha hb hc
  refine ⟨_, pt_chain hr hr' pa pb pc hm, fun σ W ρ μ F S b hb Q q => ?_⟩
  exact k σ W ρ μ F S _ (qB_some hb) _ fun u W1 G1 x1 r1 => ⟨b, r1.1, q W1 x1⟩
/-! ### and, or, not -/
def bAnd (t u : FB) : FB := fun ρ μ => (t ρ μ).bind fun x => if x = true then u ρ μ else some false
def bOr (t u : FB) : FB := fun ρ μ => (t ρ μ).bind fun x => if x = true then some true else u ρ μ
def bNot (t : FB) : FB := fun ρ μ => (t ρ μ).map not
theorem PWB.pb (h : PWB X e t) : PB X e t := by
  obtain ⟨tt, p, k⟩ := h
  exact ⟨tt, p.pt, k⟩
theorem pw1_and (h : PB X a t) : PWB X (.BoolOp .And [a] pos) t := by
  obtain ⟨tt, p, k⟩ := h
  exact ⟨tt, pw_and1 p, k⟩
theorem pw1_or (h : PB X a t) : PWB X (.BoolOp .Or [a] pos) t := by
  obtain ⟨tt, p, k⟩ := h
  exact ⟨tt, pw_or1 p, k⟩
theorem pwb_and (ha : PB X a t) (hb : PWB X (.BoolOp .And (b :: es) pos) u) : PWB X (.BoolOp .And (a :: b :: es) pos) (bAnd t u) := by
  obtain ⟨t1, p1, k1⟩ := ha
  obtain ⟨t2, p2, k2⟩ := hb
  refine ⟨_, pw_and p1 p2, fun σ W ρ μ F S b hb Q q => ?_⟩
  obtain ⟨x, e1, hb⟩ := bind_some hb
  refine k1 σ W ρ μ F S x e1 _ fun W1 x1 => ?_
  cases x with
  | true =>
    rw [if_pos rfl] at hb ⊢
    exact k2 σ W1 ρ μ F (S.ext x1) b hb Q fun W2 x2 => q W2 (x1.trans x2)
  | false =>
    rw [if_neg Bool.false_ne_true] at hb ⊢
    cases hb
    exact q W1 x1
theorem pwb_or (ha : PB X a t) (hb : PWB X (.BoolOp .Or (b :: es) pos) u) : PWB X (.BoolOp .Or (a :: b :: es) pos) (bOr t u) := by
  obtain ⟨t1, p1, k1⟩ := ha
  obtain ⟨t2, p2, k2⟩ := hb
  refine ⟨_, pw_or p1 p2, fun σ W ρ μ F S b hb Q q => ?_⟩
  obtain ⟨x, e1, hb⟩ := bind_some hb
  refine k1 σ W ρ μ F S x e1 _ fun W1 x1 => ?_
  cases x with
  | true =>
    rw [if_pos rfl] at hb ⊢
    cases hb
    exact q W1 x1
  | false =>
    rw [if_neg Bool.false_ne_true] at hb ⊢
    exact k2 σ W1 ρ μ F (S.ext x1) b hb Q fun W2 x2 => q W2 (x1.trans x2)
theorem pb_not (ha : PB X a t) : PB X (.UnaryOp .Not a pos) (bNot t) := by
  obtain ⟨t1, p1, k1⟩ := ha
  refine ⟨_, pt_not p1, fun σ W ρ μ F S b hb Q q => ?_⟩
  unfold bNot at hb
  cases e : t ρ μ with
  | none => rw [e] at hb; cases hb
  | some x =>
    rw [e] at hb
    have z : (!x) = b := Option.some.inj hb
    subst z
    exact k1 σ W ρ μ F S x e _ fun W1 x1 => q W1 x1
/-- as values: the operands before the last are truths -/
def qAnd (f g : FQ) : FQ := fun ρ μ => match f ρ μ with
  | some (.bl true) => g ρ μ
  | some (.bl false) => some (.bl false)
  | _ => none
def qOr (f g : FQ) : FQ := fun ρ μ => match f ρ μ with
  | some (.bl false) => g ρ μ
  | some (.bl true) => some (.bl true)
  | _ => none
def qNot (f : FQ) : FQ := fun ρ μ => match f ρ μ with
  | some (.bl b) => some (.bl (!b))
  | _ => none
theorem pq_one {op} (h : PQ X a f) : PQ X (.BoolOp op [a] pos) f := by
  obtain ⟨t, p, k⟩ := h
  exact ⟨t, pe_one p, k⟩
theorem pq_and (ha : PQ X a f) (hb : PQ X (.BoolOp .And (b :: es) pos) g) : PQ X (.BoolOp .And (a :: b :: es) pos) (qAnd f g) := by
  obtain ⟨t1, p1, k1⟩ := ha
  obtain ⟨t2, p2, k2⟩ := hb
  refine ⟨_, pe_and p1 p2, fun σ W ρ μ F S d hd Q q => ?_⟩
  unfold qAnd at hd
  cases e : f ρ μ with
  | none => rw [e] at hd; cases hd
  | some x =>
    rw [e] at hd
    refine k1 σ W ρ μ F S x e _ fun v W1 G1 x1 r1 => ?_
    cases x with
    | bl c =>
      refine ⟨c, r1.1, ?_⟩
      cases c with
      | true =>
        rw [if_pos rfl]
        exact k2 σ W1 ρ μ F (S.ext x1) d hd Q fun v W2 G x2 r2 => q v W2 G (x1.trans x2) r2
      | false =>
        rw [if_neg Bool.false_ne_true]
        cases hd
        exact q _ W1 [] x1 ⟨rfl, rfl⟩
    | _ => cases hd
theorem pq_or (ha : PQ X a f) (hb : PQ X (.BoolOp .Or (b :: es) pos) g) : PQ X (.BoolOp .Or (a :: b :: es) pos) (qOr f g) := by
  obtain ⟨t1, p1, k1⟩ := ha
  obtain ⟨t2, p2, k2⟩ := hb
  refine ⟨_, pe_or p1 p2, fun σ W ρ μ F S d hd Q q => ?_⟩
  unfold qOr at hd
  cases e : f ρ μ with
  | none => rw [e] at hd; cases hd
  | some x =>
    rw [e] at hd
    refine k1 σ W ρ μ F S x e _ fun v W1 G1 x1 r1 => ?_
    cases x with
    | bl c =>
      refine ⟨c, r1.1, ?_⟩
      cases c with
      | true =>
        rw [if_pos rfl]
        cases hd
        exact q _ W1 [] x1 ⟨rfl, rfl⟩
      | false =>
        rw [if_neg Bool.false_ne_true]
        exact k2 σ W1 ρ μ F (S.ext x1) d hd Q fun v W2 G x2 r2 => q v W2 G (x1.trans x2) r2
    | _ => cases hd
theorem pq_not (ha : PQ X a f) : PQ X (.UnaryOp .Not a pos) (qNot f) := by
  obtain ⟨t1, p1, k1⟩ := ha
  refine ⟨_, pe_not p1, fun σ W ρ μ F S d hd Q q => ?_⟩
  unfold qNot at hd
  cases e : f ρ μ with
  | none => rw [e] at hd; cases hd
  | some x =>
    rw [e] at hd
    refine k1 σ W ρ μ F S x e _ fun v W1 G1 x1 r1 => ?_
    cases x with
    | bl c =>
      cases hd
      exact ⟨c, r1.1, q _ W1 [] x1 ⟨rfl, rfl⟩⟩
    | _ => cases hd
def qIf (t : FB) (f g : FQ) : FQ := fun ρ μ => (t ρ μ).bind fun x => if x = true then f ρ μ else g ρ μ
theorem pq_if (hc : PB X c t) (ha : PQ X a f) (hb : PQ X b g) : PQ X (.IfExp c a b pos) (qIf t f g) := by
  obtain ⟨t0, p0, k0⟩ := hc
  obtain ⟨t1, p1, k1⟩ := ha
  obtain ⟨t2, p2, k2⟩ := hb
  refine ⟨_, pe_ifExp p0 p1 p2, fun σ W ρ μ F S d hd Q q => ?_⟩
  obtain ⟨x, e1, hd⟩ := bind_some hd
  refine k0 σ W ρ μ F S x e1 _ fun W1 x1 => ?_
  cases x with
  | true =>
    rw [if_pos rfl] at hd ⊢
    exact k1 σ W1 ρ μ F (S.ext x1) d hd Q fun v W2 G x2 r2 => q v W2 G (x1.trans x2) r2
  | false =>
    rw [if_neg Bool.false_ne_true] at hd ⊢
    exact k2 σ W1 ρ μ F (S.ext x1) d hd Q fun v W2 G x2 r2 => q v W2 G (x1.trans x2) r2
/-! ### arguments, tuples, lists -/
def aNil : FA := fun _ _ => some []
def aCons (f : FQ) (k : FA) : FA := fun ρ μ => (f ρ μ).bind fun d => (k ρ μ).map fun ds => d :: ds
theorem paq_nil : PAQ X [] aNil := ⟨_, pa_nil, fun σ W ρ μ F S ds hd Q q => by
  cases hd
  exact q [] W [] (Ext.refl S.ok) ⟨rfl, rfl⟩⟩
theorem paq_cons {k : FA} (ha : PQ X e f) (hr : PAQ X es k) (hs : starEach (e :: es) X.env = (false, eval e X.env) :: starEach es X.env := by rfl) : PAQ X (e :: es) (aCons f k) := by
  obtain ⟨t1, p1, k1⟩ := ha
  obtain ⟨t2, p2, k2⟩ := hr
  refine ⟨_, pa_cons p1 p2 hs, fun σ W ρ μ F S ds hd Q q => ?_⟩
  obtain ⟨d, e1, hd⟩ := bind_some hd
  cases e2 : k ρ μ with
  | none => rw [e2] at hd; cases hd
  | some dr =>
    rw [e2] at hd
    cases hd
    refine k1 σ W ρ μ F S d e1 _ fun v W1 G1 x1 r1 => ?_
    refine k2 σ W1 ρ μ F (S.ext x1) dr e2 _ fun vs W2 G2 x2 r2 => ?_
    exact q _ W2 _ (x1.trans x2) ⟨v, vs, G1, G2, rfl, R_ext x2 d r1, r2, rfl⟩
/-- the lengths that are let by -/
def LIM : Nat := 1000000
theorem lim_ok {n : Nat} (h : n ≤ LIM) : n ≤ sizeLine := Nat.le_trans h (by decide)
theorem lim_lt {n : Nat} (h : n ≤ LIM) : n < sizeLine := Nat.lt_of_le_of_lt h (by decide)
def qTup (k : FA) : FQ := fun ρ μ => (k ρ μ).bind fun ds => if ds.length ≤ 100 then some (.tup ds) else none
theorem pq_tup {k : FA} {x1} (h : PAQ X es k) : PQ X (.Tuple es x1 pos) (qTup k) := by
  obtain ⟨t1, p1, k1⟩ := h
  refine ⟨_, pe_tup p1, fun σ W ρ μ F S d hd Q q => ?_⟩
  obtain ⟨ds, e1, hd⟩ := bind_some hd
  by_cases hl : ds.length ≤ 100
  · rw [if_pos hl] at hd
    cases hd
    refine k1 σ W ρ μ F S ds e1 _ fun vs W1 G1 x1 r1 => ⟨by rw [RL_len r1]; exact lim_ok (Nat.le_trans hl (by decide)), fun p hp => ?_⟩
    exact q _ (W1.put p (.tup vs)) G1 (x1.trans (Ext.put x1.ok hp)) (R_newT x1.ok hp r1)
  · rw [if_neg hl] at hd
    cases hd
/-- all of them data -/
def aData (k : FA) : FA := fun ρ μ => (k ρ μ).bind fun ds => if dataL ds = true ∧ ds.length ≤ 100 then some ds else none
theorem pn_lst {k : FA} (h : PAQ X es k) : PN X (.List es pos) (aData k) := by
  obtain ⟨t1, p1, k1⟩ := h
  refine ⟨_, pe_lst p1, fun σ W ρ μ F S d hd Q q => ?_⟩
  obtain ⟨ds, e1, hd⟩ := bind_some hd
  by_cases hl : dataL ds = true ∧ ds.length ≤ 100
  · rw [if_pos hl] at hd
    cases hd
    refine k1 σ W ρ μ F S d e1 _ fun vs W1 G1 x1 r1 => ⟨by rw [RL_len r1]; exact lim_ok (Nat.le_trans hl.2 (by decide)), fun p hp => ?_⟩
    have z := RL_data d hl.1 r1
    subst z
    exact q p (W1.put p (.lst vs)) ⟨x1.trans (Ext.put x1.ok hp), Evl.fresh_back x1.ex hp, fun z => x1.ok p z hp, vs, upd_same, RL_ext (Ext.put x1.ok hp) d r1⟩
  · rw [if_neg hl] at hd
    cases hd
/-- a new list as a value -/
def qN (k : FA) : FQ := fun ρ μ => (k ρ μ).map D.lst
theorem NewL.frz {K : PySem.W.Frag} {W W' : Wd} {ds : List D} {p : Addr} (h : NewL K W W' ds p) : Ext W ⟨W'.H, fun a => W'.Fr a ∨ a = p, W'.m⟩ ∧ R K ⟨W'.H, fun a => W'.Fr a ∨ a = p, W'.m⟩ (.lst ds) (.ref p) [] := by
  obtain ⟨x, new, nofr, vs, h1, h2⟩ := h
  refine ⟨⟨x.ex, fun a q => .inl (x.fr a q), fun a q => ?_, x.m, fun a q => ?_⟩, ?_⟩
  · rcases q with q | q
    · exact x.nf a q
    · exact .inr (by rw [q]; exact new)
  · rcases q with q | q
    · exact x.ok a q
    · show W'.H a ≠ none
      rw [q, h1]
      exact fun z => nomatch z
  · have lt : Lt W' ⟨W'.H, fun a => W'.Fr a ∨ a = p, W'.m⟩ := ⟨fun _ _ z => z, fun _ _ z => ⟨z.1, Or.inl z.2⟩, fun _ _ _ _ z z' => ⟨z, Or.inl z'⟩, fun _ _ z => z⟩
    exact ⟨p, vs, rfl, Or.inl ⟨Or.inl h1, Or.inr rfl⟩, RL_lt lt ds h2, rfl⟩
theorem PN.pq {k : FA} (h : PN X e k) : PQ X e (qN k) := by
  obtain ⟨t1, p1, k1⟩ := h
  refine ⟨_, p1, fun σ W ρ μ F S d hd Q q => ?_⟩
  unfold qN at hd
  cases e1 : k ρ μ with
  | none => rw [e1] at hd; cases hd
  | some ds =>
    rw [e1] at hd
    cases hd
    refine k1 σ W ρ μ F S ds e1 _ fun p W1 n => ?_
    obtain ⟨x, r⟩ := n.frz
    exact q _ ⟨W1.H, fun a => W1.Fr a ∨ a = p, W1.m⟩ [] x r
/-! ### items, slices -/
def IxD (X : Cx) (o : D → D → Option D) : Prop := ∃ r : R2, IxR X r ∧ ∀ (W : Wd) (x y : D) (u v : V) (G1 G2 : List Addr), WOk W → R X.K W x u G1 → R X.K W y v G2 → ∀ d, o x y = some d →
  ∀ Q : VK, (∀ v W' G, Ext W W' → R X.K W' d v G → Q v W'.H) → r u v W.H Q
theorem pq_ixr {o : D → D → Option D} (h : IxD X o) (ha : PQ X a f) (hb : PQ X b g) (hs : PlainIx b) : PQ X (.Subscript a b pos) (q2 o f g) := by
  obtain ⟨r, hr, h3⟩ := h
  obtain ⟨ta, pa, h1⟩ := ha
  obtain ⟨tb, pb, h2⟩ := hb
  exact ⟨_, pe_ix hr pa pb hs, run2 h1 h2 h3⟩
def ixAt {α : Type} (xs : List α) (i : Int) : Option α := if 0 ≤ i then xs[i.toNat]? else if -(xs.length : Int) ≤ i then xs[(i + xs.length).toNat]? else none
theorem ixAt_ok {α : Type} {xs : List α} {i : Int} {x : α} (h : ixAt xs i = some x) : atI xs i = some x := by
  unfold ixAt at h
  unfold atI ixN
  by_cases h0 : 0 ≤ i
  · rw [if_pos h0] at h ⊢
    have hl := (List.getElem?_eq_some_iff.mp h).1
    rw [if_pos (by omega)]
    exact h
  · rw [if_neg h0] at h ⊢
    by_cases h1 : -(xs.length : Int) ≤ i
    · rw [if_pos h1] at h ⊢
      exact h
    · rw [if_neg h1] at h
      cases h
theorem ixAt_map {α β : Type} (f : α → β) (xs : List α) (i : Int) : ixAt (xs.map f) i = (ixAt xs i).map f := by
  unfold ixAt
  rw [List.length_map]
  split
  · rw [List.getElem?_map]
  · split
    · rw [List.getElem?_map]
    · rfl
def dIx : D → D → Option D
  | .tup ds, .int i => ixAt ds i
  | .lst ds, .int i => ixAt ds i
  | .ml ds, .int i => ixAt ds i
  | .str s, .int i => if s.length ≤ LIM then (ixAt s i).map fun c => .str [c] else none
  | _, _ => none
theorem RL_ixAt {K : PySem.W.Frag} {W : Wd} {ds : List D} {vs : List V} {F : List Addr} {i : Int} {d : D} (h : RL K W ds vs F) (e : ixAt ds i = some d) : ∃ v G, atI vs i = some v ∧ R K W d v G := by
  have hl := RL_len h
  unfold ixAt at e
  have key : ∀ j : Nat, ds[j]? = some d → ∃ v G, vs[j]? = some v ∧ R K W d v G := fun j q => by
    obtain ⟨v, G, h1, h2, _⟩ := RL_get h q
    exact ⟨v, G, h1, h2⟩
  split at e
  · obtain ⟨v, G, h1, h2⟩ := key _ e
    refine ⟨v, G, ixAt_ok ?_, h2⟩
    unfold ixAt
    rw [if_pos (by assumption)]
    exact h1
  · split at e
    · obtain ⟨v, G, h1, h2⟩ := key _ e
      refine ⟨v, G, ixAt_ok ?_, h2⟩
      unfold ixAt
      rw [if_neg (by assumption), hl, if_pos (by assumption)]
      exact h1
    · cases e
theorem ixd_all : IxD X dIx := by
  refine ⟨_, ix_seq, fun W x y u v G1 G2 ok r1 r2 d hd Q q => ?_⟩
  cases y with
  | int i =>
    obtain ⟨rfl, _⟩ := r2
    cases x with
    | tup ds =>
      obtain ⟨a, vs, rfl, h2, h3⟩ := r1
      obtain ⟨w, G, e1, e2⟩ := RL_ixAt h3 hd
      exact .inr (.inl ⟨a, vs, i, w, rfl, rfl, h2, e1, q w W G (Ext.refl ok) e2⟩)
    | lst ds =>
      obtain ⟨a, vs, rfl, h2, h3, _⟩ := r1
      obtain ⟨w, G, e1, e2⟩ := RL_ixAt h3 hd
      exact .inl ⟨a, vs, i, w, rfl, rfl, h2.sq, e1, q w W G (Ext.refl ok) e2⟩
    | ml ds =>
      obtain ⟨a, vs, F', rfl, h2, h3, _⟩ := r1
      obtain ⟨w, G, e1, e2⟩ := RL_ixAt h3 hd
      exact .inl ⟨a, vs, i, w, rfl, rfl, Evl.sq_of h2, e1, q w W G (Ext.refl ok) e2⟩
    | str s =>
      obtain ⟨rfl, _⟩ := r1
      have hd2 : (if s.length ≤ LIM then (ixAt s i).map (fun c => D.str [c]) else none) = some d := hd
      by_cases hl : s.length ≤ LIM
      · rw [if_pos hl] at hd2
        cases e : ixAt s i with
        | none => rw [e] at hd2; cases hd2
        | some c =>
          rw [e] at hd2
          cases hd2
          exact .inr (.inr ⟨tr s, i, c, rfl, rfl, (by show s.toArray.size ≤ _; rw [List.size_toArray]; exact lim_ok hl), (by show atI s.toArray.toList i = some c; exact ixAt_ok e), q _ W [] (Ext.refl ok) ⟨rfl, rfl⟩⟩)
      · rw [if_neg hl] at hd2
        cases hd2
    | _ => cases hd
  | _ => cases x <;> cases hd
theorem pq_ix (ha : PQ X a f) (hb : PQ X b g) (hs : PlainIx b := by exact fun _ _ => rfl) : PQ X (.Subscript a b pos) (q2 dIx f g) := pq_ixr ixd_all ha hb hs
end
end Fw
/-! # operators on trees -/
namespace Fw
open PySem PySem.Spec PyProof.Rows L2
open Evl (Ex)
section
variable {X : Cx} {K : PySem.W.Frag}
/-! ### lists and their addresses -/
def asL : D → Option (List D)
  | .lst ds => some ds
  | .ml ds => if dataL ds = true then some ds else none
  | _ => none
theorem R_asL {W : Wd} {d : D} {ds : List D} {v : V} {G : List Addr} (h : asL d = some ds) (r : R K W d v G) : ∃ a vs, v = .ref a ∧ SqL K W.H a vs ∧ RL K W ds vs [] := by
  cases d with
  | lst es =>
    cases h
    obtain ⟨a, vs, h1, h2, h3, _⟩ := r
    exact ⟨a, vs, h1, h2.sq, h3⟩
  | ml es =>
    have h2 : (if dataL es = true then some es else none) = some ds := h
    by_cases hl : dataL es = true
    · rw [if_pos hl] at h2
      cases h2
      obtain ⟨a, vs, F', h1, h2, h3, _⟩ := r
      have z := RL_data ds hl h3
      subst z
      exact ⟨a, vs, h1, Evl.sq_of h2, h3⟩
    · rw [if_neg hl] at h2
      cases h2
  | _ => cases h
/-- list + list, each of them as it can be read -/
def rCatR (K : PySem.W.Frag) : R2 := fun x y H Q => ∃ l b xs zs, x = .ref l ∧ y = .ref b ∧ SqL K H l xs ∧ SqL K H b zs ∧ xs.length + zs.length ≤ sizeLine ∧ ∀ p, H p = none → Q (.ref p) (upd H p (.lst (xs ++ zs)))
theorem op_catR : OpR X (binaryOp .Add) (rCatR X.K) := by
  intro pins s σ H x y v u Q I rx ry h
  obtain ⟨l, b, xs, zs, rfl, rfl, hH, hB, hz, q⟩ := h
  cases rx
  cases ry
  obtain ⟨its, r, ⟨⟨c1, d1, t1, s1⟩, n, e, hc, hd, ht⟩, z⟩ := I.list hH
  obtain ⟨its2, r2, ⟨⟨c2, d2, t2, s2⟩, n2, e2, hc2, hd2, ht2⟩, z2⟩ := I.list hB
  simp only at hc hd ht hc2 hd2 ht2
  subst hc hd ht hc2 hd2 ht2
  have l1 := r.length
  have l2 := r2.length
  have ea : its.toArray ++ its2.toArray = (its ++ its2).toArray := by simp
  refine concat_meets ⟨_, e, rfl⟩ ⟨_, e2, rfl⟩ noFill_list_add seq_list_add PySem.F.slot_list_add PySem.F.entry_list_add (PySem.F.args_list_add_2 _ _) (list_addW l b its.toArray its2.toArray n n2 none none s1 s2 (by rw [List.size_toArray, List.size_toArray]; omega)) ⟨e, e2, ?_⟩
  rw [ea]
  exact ⟨.ref _, _, I.lnew (t' := s.toks) (r.append r2) (by rw [List.length_append]; omega), rfl, q _ I.fresh⟩
/-! ### + -/
def dAdd : D → D → Option D
  | .int i, .int j => some (.int (i + j))
  | .str a, .str b => if a.length + b.length ≤ LIM then some (.str (a ++ b)) else none
  | .tup a, .tup b => if a.length + b.length ≤ LIM ∧ dataL a = true ∧ dataL b = true then some (.tup (a ++ b)) else none
  | x, y => (asL x).bind fun a => (asL y).bind fun b => if a.length + b.length ≤ LIM then some (.lst (a ++ b)) else none
theorem tr_append (a b : List Nat) : tr a ++ tr b = tr (a ++ b) := by
  show Str.append (tr a) (tr b) = tr (a ++ b)
  unfold Str.append
  simp
theorem tr_length (a : List Nat) : (tr a).length = a.length := by
  show a.toArray.size = _
  rw [List.size_toArray]
theorem tr_inj {a b : List Nat} (h : tr a = tr b) : a = b := by
  have z : a.toArray = b.toArray := congrArg Str.cps h
  simpa using z
theorem opd_add : OpD X (binaryOp .Add) dAdd := by
  refine ⟨_, (op_add.or (op_add_str.or (op_catA.or op_catR))), fun W x y u v G1 G2 ok r1 r2 d hd Q q => ?_⟩
  have lists : ∀ {a b : List D}, asL x = some a → asL y = some b → (if a.length + b.length ≤ LIM then some (D.lst (a ++ b)) else none) = some d → rCatR X.K u v W.H Q := fun {a b} e1 e2 hd => by
    obtain ⟨p, vs, rfl, h2, h3⟩ := R_asL e1 r1
    obtain ⟨p', vs', rfl, h2', h3'⟩ := R_asL e2 r2
    by_cases hl : a.length + b.length ≤ LIM
    · rw [if_pos hl] at hd
      cases hd
      refine ⟨p, p', vs, vs', rfl, rfl, h2, h2', by rw [RL_len h3, RL_len h3']; exact lim_ok hl, fun z hz => ?_⟩
      exact q _ (W.frz z (vs ++ vs')) [] (Ext.frz ok hz) (R_newL ok hz (RL_app h3 h3'))
    · rw [if_neg hl] at hd
      cases hd
  have viaL : ((asL x).bind fun a => (asL y).bind fun b => if a.length + b.length ≤ LIM then some (D.lst (a ++ b)) else none) = some d → rCatR X.K u v W.H Q := fun h => by
    obtain ⟨a, e1, h⟩ := bind_some h
    obtain ⟨b, e2, h⟩ := bind_some h
    exact lists e1 e2 h
  cases x with
  | int i =>
    cases y with
    | int j =>
      cases hd
      obtain ⟨rfl, _⟩ := r1
      obtain ⟨rfl, _⟩ := r2
      exact .inl ⟨i, j, rfl, rfl, q _ W [] (Ext.refl ok) ⟨rfl, rfl⟩⟩
    | _ => cases hd
  | str a =>
    cases y with
    | str b =>
      obtain ⟨rfl, _⟩ := r1
      obtain ⟨rfl, _⟩ := r2
      have hd2 : (if a.length + b.length ≤ LIM then some (D.str (a ++ b)) else none) = some d := hd
      by_cases hl : a.length + b.length ≤ LIM
      · rw [if_pos hl] at hd2
        cases hd2
        exact .inr (.inl ⟨tr a, tr b, rfl, rfl, by rw [tr_length, tr_length]; exact lim_ok hl, q _ W [] (Ext.refl ok) ⟨by rw [tr_append], rfl⟩⟩)
      · rw [if_neg hl] at hd2
        cases hd2
    | _ => cases hd
  | tup a =>
    cases y with
    | tup b =>
      have hd2 : (if a.length + b.length ≤ LIM ∧ dataL a = true ∧ dataL b = true then some (D.tup (a ++ b)) else none) = some d := hd
      by_cases hl : a.length + b.length ≤ LIM ∧ dataL a = true ∧ dataL b = true
      · rw [if_pos hl] at hd2
        cases hd2
        obtain ⟨p, vs, rfl, h2, h3⟩ := r1
        obtain ⟨p', vs', rfl, h2', h3'⟩ := r2
        have z1 := RL_data a hl.2.1 h3
        have z2 := RL_data b hl.2.2 h3'
        subst z1
        subst z2
        have ln := RL_len h3
        have ln' := RL_len h3'
        refine .inr (.inr (.inl ⟨p, p', vs, vs', rfl, rfl, h2, h2', by rw [ln, ln']; exact lim_ok hl.1, fun e => ?_, fun e1 e2 => ?_, fun e1 e2 z hz => ?_⟩))
        · have ea : a = [] := by
            rw [e] at ln
            exact List.length_eq_zero_iff.mp ln.symm
          subst ea
          exact q _ W [] (Ext.refl ok) ⟨p', vs', rfl, h2', h3'⟩
        · have eb : b = [] := by
            rw [e2] at ln'
            exact List.length_eq_zero_iff.mp ln'.symm
          subst eb
          rw [List.append_nil] at q
          exact q _ W [] (Ext.refl ok) ⟨p, vs, rfl, h2, h3⟩
        · exact q _ (W.put z (.tup (vs ++ vs'))) [] (Ext.put ok hz) (R_newT ok hz (RL_app h3 h3'))
      · rw [if_neg hl] at hd2
        cases hd2
    | _ => cases hd
  | lst a =>
    have hd2 : ((asL (.lst a)).bind fun a => (asL y).bind fun b => if a.length + b.length ≤ LIM then some (D.lst (a ++ b)) else none) = some d := by cases y <;> exact hd
    exact .inr (.inr (.inr (viaL hd2)))
  | ml a =>
    have hd2 : ((asL (.ml a)).bind fun a => (asL y).bind fun b => if a.length + b.length ≤ LIM then some (D.lst (a ++ b)) else none) = some d := by cases y <;> exact hd
    exact .inr (.inr (.inr (viaL hd2)))
  | _ => cases y <;> cases hd
/-! ### ints -/
def dInt (C : Int → Int → Bool) (g : Int → Int → D) : D → D → Option D
  | .int i, .int j => if C i j = true then some (g i j) else none
  | _, _ => none
theorem opd_int {op : Value → Value → Sem Value} {P : Int → Int → Prop} {f : Int → Int → V} {C : Int → Int → Bool} {g : Int → Int → D} (h : OpR X op (rI P f)) (hc : ∀ i j, C i j = true → P i j) (hg : ∀ (W : Wd) i j, R X.K W (g i j) (f i j) []) : OpD X op (dInt C g) := by
  refine ⟨_, h, fun W x y u v G1 G2 ok r1 r2 d hd Q q => ?_⟩
  cases x with
  | int i =>
    cases y with
    | int j =>
      obtain ⟨rfl, _⟩ := r1
      obtain ⟨rfl, _⟩ := r2
      have hd2 : (if C i j = true then some (g i j) else none) = some d := hd
      by_cases hl : C i j = true
      · rw [if_pos hl] at hd2
        cases hd2
        exact ⟨i, j, rfl, rfl, hc i j hl, q _ W [] (Ext.refl ok) (hg W i j)⟩
      · rw [if_neg hl] at hd2
        cases hd2
    | _ => cases hd
  | _ => cases y <;> cases hd
theorem opd_int0 {op : Value → Value → Sem Value} {f : Int → Int → V} {g : Int → Int → D} (h : OpR X op (rI0 f)) (hg : ∀ (W : Wd) i j, R X.K W (g i j) (f i j) []) : OpD X op (dInt (fun _ _ => true) g) := by
  refine ⟨_, h, fun W x y u v G1 G2 ok r1 r2 d hd Q q => ?_⟩
  cases x with
  | int i =>
    cases y with
    | int j =>
      obtain ⟨rfl, _⟩ := r1
      obtain ⟨rfl, _⟩ := r2
      cases hd
      exact ⟨i, j, rfl, rfl, q _ W [] (Ext.refl ok) (hg W i j)⟩
    | _ => cases hd
  | _ => cases y <;> cases hd
abbrev dSub := dInt (fun _ _ => true) fun i j => .int (i - j)
def cMul (i j : Int) : Bool := decide ((-18446744073709551616 < i ∧ i < 18446744073709551616) ∨ (-18446744073709551616 < j ∧ j < 18446744073709551616))
abbrev dMul := dInt cMul fun i j => .int (i * j)
abbrev dMod := dInt (fun _ j => decide (0 < j)) fun i j => .int (i % j)
abbrev dFdiv := dInt (fun _ j => decide (0 < j ∧ j < 1073741824)) fun i j => .int (i / j)
theorem opd_sub : OpD X (binaryOp .Sub) dSub := opd_int0 op_sub fun _ _ _ => ⟨rfl, rfl⟩
theorem opd_mul : OpD X (binaryOp .Mult) dMul := opd_int op_mul (fun i j h => by
  have z : (-18446744073709551616 < i ∧ i < 18446744073709551616) ∨ (-18446744073709551616 < j ∧ j < 18446744073709551616) := of_decide_eq_true h
  unfold CMul
  omega) fun _ _ _ => ⟨rfl, rfl⟩
theorem opd_mod : OpD X (binaryOp .Mod) dMod := opd_int op_mod (fun i j h => of_decide_eq_true h) fun _ _ _ => ⟨rfl, rfl⟩
theorem opd_fdiv : OpD X (binaryOp .FloorDiv) dFdiv := opd_int op_fdiv (fun i j h => by
  have z : 0 < j ∧ j < 1073741824 := of_decide_eq_true h
  exact z) fun _ _ _ => ⟨rfl, rfl⟩
abbrev dPow := dInt (fun i j => decide (0 ≤ j ∧ j ≤ 1000 ∧ i.natAbs < 18446744073709551616)) fun i j => .int (i ^ j.toNat)
theorem opd_pow : OpD X (binaryOp .Pow) dPow := opd_int op_pow (fun i j h => by
  obtain ⟨h1, h2, h3⟩ := of_decide_eq_true h
  exact ⟨h1, by omega, h3⟩) fun _ _ _ => ⟨rfl, rfl⟩
/-! ### comparisons by order -/
theorem opd_or {op : Value → Value → Sem Value} {o o' : D → D → Option D} (h : OpD X op o) (h' : OpD X op o') : OpD X op (fun x y => match o x y with | some d => some d | none => o' x y) := by
  obtain ⟨r, hr, k⟩ := h
  obtain ⟨r', hr', k'⟩ := h'
  refine ⟨_, hr.or hr', fun W x y u v G1 G2 ok r1 r2 d hd Q q => ?_⟩
  dsimp only at hd
  cases e : o x y with
  | some d0 =>
    rw [e] at hd
    cases hd
    exact .inl (k W x y u v G1 G2 ok r1 r2 _ e Q q)
  | none =>
    rw [e] at hd
    exact .inr (k' W x y u v G1 G2 ok r1 r2 _ hd Q q)
theorem opd_is {op : Value → Value → Sem Value} {o o' : D → D → Option D} (h : OpD X op o) (e : ∀ x y d, o' x y = some d → o x y = some d) : OpD X op o' := by
  obtain ⟨r, hr, k⟩ := h
  exact ⟨r, hr, fun W x y u v G1 G2 ok r1 r2 d hd Q q => k W x y u v G1 G2 ok r1 r2 d (e x y d hd) Q q⟩
/-- both texts -/
def dStr2 (g : List Nat → List Nat → D) : D → D → Option D
  | .str a, .str b => some (g a b)
  | _, _ => none
theorem opd_str2 {op : Value → Value → Sem Value} {f : Str → Str → V} {g : List Nat → List Nat → D} (h : OpR X op (fun x y H Q => ∃ i j, x = .str i ∧ y = .str j ∧ Q (f i j) H)) (hg : ∀ (W : Wd) a b, R X.K W (g a b) (f (tr a) (tr b)) []) : OpD X op (dStr2 g) := by
  refine ⟨_, h, fun W x y u v G1 G2 ok r1 r2 d hd Q q => ?_⟩
  cases x with
  | str i =>
    cases y with
    | str j =>
      obtain ⟨rfl, _⟩ := r1
      obtain ⟨rfl, _⟩ := r2
      cases hd
      exact ⟨_, _, rfl, rfl, q _ W [] (Ext.refl ok) (hg W i j)⟩
    | _ => cases hd
  | _ => cases y <;> cases hd
def dLt : D → D → Option D
  | .int i, .int j => some (.bl (decide (i < j)))
  | .str a, .str b => some (.bl (decide (a < b)))
  | _, _ => none
def dLe : D → D → Option D
  | .int i, .int j => some (.bl (decide (i ≤ j)))
  | .str a, .str b => some (.bl (!decide (b < a)))
  | _, _ => none
def dGt : D → D → Option D
  | .int i, .int j => some (.bl (decide (j < i)))
  | .str a, .str b => some (.bl (decide (b < a)))
  | _, _ => none
def dGe : D → D → Option D
  | .int i, .int j => some (.bl (decide (j ≤ i)))
  | .str a, .str b => some (.bl (!decide (a < b)))
  | _, _ => none
theorem opd_lt : OpD X (compareOp .Lt) dLt := opd_is (opd_or (opd_int0 (g := fun i j => .bl (decide (i < j))) op_lt fun _ _ _ => ⟨rfl, rfl⟩) (opd_str2 (g := fun a b => .bl (decide (a < b))) op_lt_str fun _ _ _ => ⟨rfl, rfl⟩))
  fun x y d h => by cases x <;> cases y <;> first | exact h | cases h
theorem opd_le : OpD X (compareOp .LtE) dLe := opd_is (opd_or (opd_int0 (g := fun i j => .bl (decide (i ≤ j))) op_le fun _ _ _ => ⟨rfl, rfl⟩) (opd_str2 (g := fun a b => .bl (!decide (b < a))) op_le_str fun _ _ _ => ⟨rfl, rfl⟩))
  fun x y d h => by cases x <;> cases y <;> first | exact h | cases h
theorem opd_gt : OpD X (compareOp .Gt) dGt := opd_is (opd_or (opd_int0 (g := fun i j => .bl (decide (j < i))) op_gt fun _ _ _ => ⟨rfl, rfl⟩) (opd_str2 (g := fun a b => .bl (decide (b < a))) op_gt_str fun _ _ _ => ⟨rfl, rfl⟩))
  fun x y d h => by cases x <;> cases y <;> first | exact h | cases h
theorem opd_ge : OpD X (compareOp .GtE) dGe := opd_is (opd_or (opd_int0 (g := fun i j => .bl (decide (j ≤ i))) op_ge fun _ _ _ => ⟨rfl, rfl⟩) (opd_str2 (g := fun a b => .bl (!decide (a < b))) op_ge_str fun _ _ _ => ⟨rfl, rfl⟩))
  fun x y d h => by cases x <;> cases y <;> first | exact h | cases h
/-! ### equality -/
def atom : D → Option V
  | .non => some .non
  | .bl b => some (.bl b)
  | .int i => some (.int i)
  | .str s => some (.str (tr s))
  | _ => none
theorem R_atom {W : Wd} {d : D} {u v : V} {G : List Addr} (h : atom d = some u) (r : R K W d v G) : v = u := by
  cases d <;> first
    | (cases h; exact r.1)
    | cases h
mutual
def toP : D → Option PyData
  | .non => some .none
  | .bl b => some (.bool b)
  | .int i => some (.int i)
  | .str s => some (.str (tr s))
  | .tup ds => (toPL ds).map .tuple
  | .lst ds => (toPL ds).map .list
  | .ml ds => (toPL ds).map .list
  | _ => none
def toPL : List D → Option (List PyData)
  | [] => some []
  | d :: ds => (toP d).bind fun p => (toPL ds).map fun ps => p :: ps
end
theorem map_some {α β : Type} {o : Option α} {k : α → β} {z : β} (h : o.map k = some z) : ∃ x, o = some x ∧ k x = z := by
  cases o with
  | none => cases h
  | some x => exact ⟨x, rfl, Option.some.inj h⟩
mutual
theorem R_dp {W : Wd} : ∀ (d : D) {p : PyData} {v : V} {G : List Addr}, toP d = some p → R K W d v G → Dp K W.H v p
  | .non, _, _, _, h, r => by cases h; rw [r.1]; exact .non
  | .bl b, _, _, _, h, r => by cases h; rw [r.1]; exact .bl b
  | .int i, _, _, _, h, r => by cases h; rw [r.1]; exact .int i
  | .str s, _, _, _, h, r => by cases h; rw [r.1]; exact .str _
  | .tup ds, _, _, _, h, r => by
    obtain ⟨ps, e, z⟩ := map_some h
    obtain ⟨a, vs, h1, h2, h3⟩ := r
    rw [← z, h1]
    exact .tup h2 (RL_dp ds e h3)
  | .lst ds, _, _, _, h, r => by
    obtain ⟨ps, e, z⟩ := map_some h
    obtain ⟨a, vs, h1, h2, h3, _⟩ := r
    rw [← z, h1]
    exact .lst h2.sq (RL_dp ds e h3)
  | .ml ds, _, _, _, h, r => by
    obtain ⟨ps, e, z⟩ := map_some h
    obtain ⟨a, vs, F', h1, h2, h3, _⟩ := r
    rw [← z, h1]
    exact .lst (Evl.sq_of h2) (RL_dp ds e h3)
  | .obj _ _ _, _, _, _, h, _ => by cases h
  | .ref _, _, _, _, h, _ => by cases h
  | .un, _, _, _, h, _ => by cases h
theorem RL_dp {W : Wd} : ∀ (ds : List D) {ps : List PyData} {vs : List V} {G : List Addr}, toPL ds = some ps → RL K W ds vs G → DpAll K W.H vs ps
  | [], _, _, _, h, r => by
    cases h
    rw [r.1]
    exact .nil
  | d :: ds, _, _, _, h, r => by
    obtain ⟨p, e1, h⟩ := bind_some h
    obtain ⟨ps, e2, z⟩ := map_some h
    obtain ⟨v, vs', F1, F2, h1, h2, h3, _⟩ := r
    rw [← z, h1]
    exact .cons (R_dp d e1 h2) (RL_dp ds e2 h3)
end
def eqDB (x y : D) : Option Bool := match atom x, atom y with
  | some u, some v => if scal u v = true then some (decide (u = v)) else none
  | _, _ => (toP x).bind fun p => (toP y).bind fun q => if SeqAt.shaped p = true ∧ SeqAt.shaped q = true then some (PyData.eqv p q) else none
def dEq (x y : D) : Option D := (eqDB x y).map D.bl
def dNe (x y : D) : Option D := (eqDB x y).map fun b => D.bl (!b)
theorem opd_eq {k : Nat} (hr : Room k X.A) : OpD X (compareOp .Eq) dEq := by
  refine ⟨_, op_eq.or (op_eqD hr.units), fun W x y u v G1 G2 ok r1 r2 d hd Q q => ?_⟩
  obtain ⟨b, hb, z⟩ := map_some hd
  subst z
  have alt : ((toP x).bind fun p => (toP y).bind fun q => if SeqAt.shaped p = true ∧ SeqAt.shaped q = true then some (PyData.eqv p q) else none) = some b → rEqD X.K u v W.H Q := fun h => by
    obtain ⟨p, e1, h⟩ := bind_some h
    obtain ⟨p', e2, h⟩ := bind_some h
    by_cases hs : SeqAt.shaped p = true ∧ SeqAt.shaped p' = true
    · rw [if_pos hs] at h
      cases h
      exact ⟨p, p', R_dp x e1 r1, R_dp y e2 r2, hs.1, hs.2, q _ W [] (Ext.refl ok) ⟨rfl, rfl⟩⟩
    · rw [if_neg hs] at h
      cases h
  unfold eqDB at hb
  cases ea : atom x with
  | none => rw [ea] at hb; exact .inr (alt hb)
  | some a =>
    cases ec : atom y with
    | none => rw [ea, ec] at hb; exact .inr (alt hb)
    | some c =>
      rw [ea, ec] at hb
      have hb2 : (if scal a c = true then some (decide (a = c)) else none) = some b := hb
      by_cases hs : scal a c = true
      · rw [if_pos hs] at hb2
        cases hb2
        rw [R_atom ea r1, R_atom ec r2]
        exact .inl ⟨hs, q _ W [] (Ext.refl ok) ⟨rfl, rfl⟩⟩
      · rw [if_neg hs] at hb2
        cases hb2
theorem opd_ne {k : Nat} (hr : Room k X.A) : OpD X (compareOp .NotEq) dNe := by
  refine ⟨_, op_ne.or (op_neD hr.units), fun W x y u v G1 G2 ok r1 r2 d hd Q q => ?_⟩
  obtain ⟨b, hb, z⟩ := map_some hd
  subst z
  have alt : ((toP x).bind fun p => (toP y).bind fun q => if SeqAt.shaped p = true ∧ SeqAt.shaped q = true then some (PyData.eqv p q) else none) = some b → rNeD X.K u v W.H Q := fun h => by
    obtain ⟨p, e1, h⟩ := bind_some h
    obtain ⟨p', e2, h⟩ := bind_some h
    by_cases hs : SeqAt.shaped p = true ∧ SeqAt.shaped p' = true
    · rw [if_pos hs] at h
      cases h
      exact ⟨p, p', R_dp x e1 r1, R_dp y e2 r2, hs.1, hs.2, q _ W [] (Ext.refl ok) ⟨rfl, rfl⟩⟩
    · rw [if_neg hs] at h
      cases h
  unfold eqDB at hb
  cases ea : atom x with
  | none => rw [ea] at hb; exact .inr (alt hb)
  | some a =>
    cases ec : atom y with
    | none => rw [ea, ec] at hb; exact .inr (alt hb)
    | some c =>
      rw [ea, ec] at hb
      have hb2 : (if scal a c = true then some (decide (a = c)) else none) = some b := hb
      by_cases hs : scal a c = true
      · rw [if_pos hs] at hb2
        cases hb2
        rw [R_atom ea r1, R_atom ec r2]
        exact .inl ⟨hs, q _ W [] (Ext.refl ok) ⟨rfl, rfl⟩⟩
      · rw [if_neg hs] at hb2
        cases hb2
/-! ### is None, is a truth -/
def isNonD : D → Bool
  | .non => true
  | _ => false
theorem R_isNon {W : Wd} {d : D} {v : V} {G : List Addr} (r : R K W d v G) : decide (v = .non) = isNonD d := by
  cases d with
  | non => rw [r.1]; exact decide_eq_true rfl
  | bl _ => rw [r.1]; exact decide_eq_false fun z => nomatch z
  | int _ => rw [r.1]; exact decide_eq_false fun z => nomatch z
  | str _ => rw [r.1]; exact decide_eq_false fun z => nomatch z
  | tup _ => obtain ⟨a, vs, rfl, _⟩ := r; exact decide_eq_false fun z => nomatch z
  | lst _ => obtain ⟨a, vs, rfl, _⟩ := r; exact decide_eq_false fun z => nomatch z
  | ml _ => obtain ⟨a, vs, F', rfl, _⟩ := r; exact decide_eq_false fun z => nomatch z
  | obj _ _ _ => obtain ⟨a, dx, vs, F', rfl, _⟩ := r; exact decide_eq_false fun z => nomatch z
  | fo _ _ _ => obtain ⟨a, dx, vs, rfl, _⟩ := r; exact decide_eq_false fun z => nomatch z
  | ref _ => obtain ⟨a, rfl, _⟩ := r; exact decide_eq_false fun z => nomatch z
  | un => exact r.elim
def isDB : D → D → Option Bool
  | x, .non => some (isNonD x)
  | .bl a, .bl b => some (decide (a = b))
  | _, _ => none
def dIs (x y : D) : Option D := (isDB x y).map D.bl
def dIsNot (x y : D) : Option D := (isDB x y).map fun b => D.bl (!b)
end
end Fw
/-! # is, in, slices, built-ins, methods of texts -/
namespace Fw
open PySem PySem.Spec PyProof.Rows L2
open Evl (Ex)
section
variable {X : Cx} {K : PySem.W.Frag}
theorem opd_is_ : OpD X (compareOp .Is) dIs := by
  refine ⟨_, (op_isN (X := X)).or op_isBl, fun W x y u v G1 G2 ok r1 r2 d hd Q q => ?_⟩
  obtain ⟨b, hb, z⟩ := map_some hd
  subst z
  cases y with
  | non =>
    have hb2 : some (isNonD x) = some b := by cases x <;> exact hb
    cases hb2
    refine .inl ⟨r2.1, q _ W [] (Ext.refl ok) ⟨by rw [R_isNon r1], rfl⟩⟩
  | bl c =>
    cases x with
    | bl a =>
      cases hb
      exact .inr ⟨a, c, r1.1, r2.1, q _ W [] (Ext.refl ok) ⟨rfl, rfl⟩⟩
    | _ => cases hb
  | _ => cases x <;> cases hb
theorem opd_isnot : OpD X (compareOp .IsNot) dIsNot := by
  refine ⟨_, (op_notN (X := X)).or op_notBl, fun W x y u v G1 G2 ok r1 r2 d hd Q q => ?_⟩
  obtain ⟨b, hb, z⟩ := map_some hd
  subst z
  cases y with
  | non =>
    have hb2 : some (isNonD x) = some b := by cases x <;> exact hb
    cases hb2
    refine .inl ⟨r2.1, q _ W [] (Ext.refl ok) ⟨by rw [R_isNon r1], rfl⟩⟩
  | bl c =>
    cases x with
    | bl a =>
      cases hb
      exact .inr ⟨a, c, r1.1, r2.1, q _ W [] (Ext.refl ok) ⟨rfl, rfl⟩⟩
    | _ => cases hb
  | _ => cases x <;> cases hb
/-! ### in -/
def atoms : List D → Option (List V)
  | [] => some []
  | d :: ds => (atom d).bind fun u => (atoms ds).map fun us => u :: us
theorem R_atoms {W : Wd} : ∀ {ds : List D} {us vs : List V} {G : List Addr}, atoms ds = some us → RL K W ds vs G → vs = us
  | [], _, _, _, h, r => by
    cases h
    exact r.1
  | d :: ds, _, _, _, h, r => by
    obtain ⟨u, e1, h⟩ := bind_some h
    obtain ⟨us, e2, z⟩ := map_some h
    obtain ⟨v, vs', F1, F2, h1, h2, h3, _⟩ := r
    rw [← z, h1, R_atom e1 h2, R_atoms e2 h3]
theorem flat_atom {d : D} {u : V} (h : atom d = some u) : flatV u = true := by
  cases d <;> first
    | (cases h; rfl)
    | cases h
theorem flat_atoms : ∀ {ds : List D} {us : List V}, atoms ds = some us → us.all flatV = true
  | [], _, h => by
    cases h
    rfl
  | d :: ds, _, h => by
    obtain ⟨u, e1, h⟩ := bind_some h
    obtain ⟨us, e2, z⟩ := map_some h
    rw [← z, List.all_cons, flat_atom e1, flat_atoms e2]
    rfl
/-- the items of a list or a tuple -/
def seqD : D → Option (List D)
  | .lst ds => some ds
  | .ml ds => some ds
  | .tup ds => some ds
  | _ => none
theorem R_seq {W : Wd} {d : D} {ds : List D} {v : V} {G : List Addr} (h : seqD d = some ds) (r : R K W d v G) : ∃ a vs G', v = .ref a ∧ (SqL K W.H a vs ∨ SqT K W.H a vs) ∧ RL K W ds vs G' := by
  cases d with
  | lst es =>
    cases h
    obtain ⟨a, vs, h1, h2, h3, _⟩ := r
    exact ⟨a, vs, _, h1, .inl h2.sq, h3⟩
  | ml es =>
    cases h
    obtain ⟨a, vs, F', h1, h2, h3, _⟩ := r
    exact ⟨a, vs, _, h1, .inl (Evl.sq_of h2), h3⟩
  | tup es =>
    cases h
    obtain ⟨a, vs, h1, h2, h3⟩ := r
    exact ⟨a, vs, _, h1, .inr h2, h3⟩
  | _ => cases h
def inSeq (x y : D) : Option Bool := (seqD y).bind fun ds => (atom x).bind fun u => (atoms ds).map fun us => inV u us
def inDB (x y : D) : Option Bool := match x, y with
  | .str [c], .str z => some (decide (c ∈ z))
  | _, _ => inSeq x y
def dIn (x y : D) : Option D := (inDB x y).map D.bl
def dNotIn (x y : D) : Option D := (inDB x y).map fun b => D.bl (!b)
theorem inSeq_ok {W : Wd} {x y : D} {u v : V} {G1 G2 : List Addr} {b : Bool} (h : inSeq x y = some b) (r1 : R K W x u G1) (r2 : R K W y v G2) :
    ∃ p xs, v = .ref p ∧ (SqL K W.H p xs ∨ SqT K W.H p xs) ∧ flatV u = true ∧ xs.all flatV = true ∧ inV u xs = b := by
  obtain ⟨ds, e1, h⟩ := bind_some h
  obtain ⟨a, e2, h⟩ := bind_some h
  obtain ⟨us, e3, z⟩ := map_some h
  obtain ⟨p, vs, G', h1, h2, h3⟩ := R_seq e1 r2
  have ev := R_atoms e3 h3
  have eu := R_atom e2 r1
  subst ev
  subst eu
  exact ⟨p, vs, h1, h2, flat_atom e2, flat_atoms e3, z⟩
theorem inDB_cases {x y : D} {b : Bool} (h : inDB x y = some b) : (∃ c z, x = .str [c] ∧ y = .str z ∧ decide (c ∈ z) = b) ∨ inSeq x y = some b := by
  unfold inDB at h
  split at h
  · exact .inl ⟨_, _, rfl, rfl, Option.some.inj h⟩
  · exact .inr h
theorem opd_in : OpD X (compareOp .In) dIn := by
  refine ⟨_, (op_in_sign (X := X)).or op_in_seq, fun W x y u v G1 G2 ok r1 r2 d hd Q q => ?_⟩
  obtain ⟨b, hb, z⟩ := map_some hd
  subst z
  rcases inDB_cases hb with ⟨c, z, rfl, rfl, e⟩ | h
  · exact .inl ⟨c, tr z, r1.1, r2.1, q _ W [] (Ext.refl ok) ⟨by rw [← e] <;> rfl, rfl⟩⟩
  · obtain ⟨p, xs, h1, h2, h3, h4, h5⟩ := inSeq_ok h r1 r2
    exact .inr ⟨p, xs, h1, h2, h3, h4, q _ W [] (Ext.refl ok) ⟨by rw [← h5] <;> rfl, rfl⟩⟩
theorem opd_notin : OpD X (compareOp .NotIn) dNotIn := by
  refine ⟨_, (op_notIn_sign (X := X)).or op_notIn_seq, fun W x y u v G1 G2 ok r1 r2 d hd Q q => ?_⟩
  obtain ⟨b, hb, z⟩ := map_some hd
  subst z
  rcases inDB_cases hb with ⟨c, z, rfl, rfl, e⟩ | h
  · exact .inl ⟨c, tr z, r1.1, r2.1, q _ W [] (Ext.refl ok) ⟨by rw [← e] <;> rfl, rfl⟩⟩
  · obtain ⟨p, xs, h1, h2, h3, h4, h5⟩ := inSeq_ok h r1 r2
    exact .inr ⟨p, xs, h1, h2, h3, h4, q _ W [] (Ext.refl ok) ⟨by rw [← h5] <;> rfl, rfl⟩⟩
/-! ### slices -/
abbrev FO := List D → List D → Option (Option Int)
def POQ (X : Cx) (e : Option Expr) (f : FO) : Prop := ∃ to : TO, PO X e to ∧ ∀ (σ : L2.St) (W : Wd) (ρ μ : List D) (F : List Addr), Sta X.K W σ ρ μ F → ∀ o, f ρ μ = some o →
  ∀ Q : Option Int → Hp → Prop, (∀ W', Ext W W' → Q o W'.H) → to σ W.H Q
def oNone : FO := fun _ _ => some none
def oSome (f : FQ) : FO := fun ρ μ => match f ρ μ with
  | some (.int i) => some (some i)
  | _ => none
theorem poq_none : POQ X none oNone := ⟨_, po_none, fun σ W ρ μ F S o ho Q q => by
  cases ho
  exact q W (Ext.refl S.ok)⟩
theorem poq_some {e : Expr} {f : FQ} (h : PQ X e f) : POQ X (some e) (oSome f) := by
  obtain ⟨t1, p1, k1⟩ := h
  refine ⟨_, po_some p1, fun σ W ρ μ F S o ho Q q => ?_⟩
  unfold oSome at ho
  cases e1 : f ρ μ with
  | none => rw [e1] at ho; cases ho
  | some d =>
    rw [e1] at ho
    refine k1 σ W ρ μ F S d e1 _ fun v W1 G1 x1 r1 => ?_
    cases d with
    | int i =>
      cases ho
      exact ⟨i, r1.1, q W1 x1⟩
    | _ => cases ho
def cut {α : Type} (xs : List α) (lo hi : Option Int) : List α := (xs.drop (HT.sIx xs.length 0 lo)).take (HT.sIx xs.length xs.length hi - HT.sIx xs.length 0 lo)
def dSl (x : D) (lo hi : Option Int) : Option D := match x with
  | .str s => if s.length ≤ LIM then some (.str (cut s lo hi)) else none
  | .tup ds => if dataL ds = true then some (.tup (cut ds lo hi)) else none
  | x => (asL x).map fun ds => .lst (cut ds lo hi)
def qSl (f : FQ) (lo hi : FO) : FQ := fun ρ μ => (f ρ μ).bind fun x => (lo ρ μ).bind fun l => (hi ρ μ).bind fun h => dSl x l h
theorem RL_cut {W : Wd} {ds : List D} {vs : List V} {lo hi : Option Int} (h : RL K W ds vs []) : RL K W (cut ds lo hi) (cutV vs lo hi) [] := by
  have hl := RL_len h
  unfold cut cutV
  rw [hl]
  exact RL_take (RL_drop h)
theorem cut_all {α : Type} {xs : List α} {lo hi : Option Int} (h : HT.sIx xs.length 0 lo = 0 ∧ HT.sIx xs.length xs.length hi = xs.length) : cut xs lo hi = xs := by
  unfold cut
  rw [h.1, h.2, List.drop_zero, Nat.sub_zero, List.take_length]
theorem pq_sl {e : Expr} {lo hi : Option Expr} {f : FQ} {l h : FO} {pos p2 : Pos} (he : PQ X e f) (hl : POQ X lo l) (hh : POQ X hi h) : PQ X (.Subscript e (.Slice lo hi none p2) pos) (qSl f l h) := by
  obtain ⟨t1, p1, k1⟩ := he
  obtain ⟨t2, p2', k2⟩ := hl
  obtain ⟨t3, p3, k3⟩ := hh
  refine ⟨_, pe_slice (sl_list.or (sl_tupA.or sl_str)) p1 p2' p3, fun σ W ρ μ F S d hd Q q => ?_⟩
  obtain ⟨x, e1, hd⟩ := bind_some hd
  obtain ⟨li, e2, hd⟩ := bind_some hd
  obtain ⟨hi', e3, hd⟩ := bind_some hd
  refine k1 σ W ρ μ F S x e1 _ fun v W1 G1 x1 r1 => ?_
  refine k2 σ W1 ρ μ F (S.ext x1) li e2 _ fun W2 x2 => ?_
  refine k3 σ W2 ρ μ F ((S.ext x1).ext x2) hi' e3 _ fun W3 x3 => ?_
  have r3 := R_ext (x2.trans x3) x r1
  have x13 := (x1.trans x2).trans x3
  have viaL : ((asL x).map fun ds => D.lst (cut ds li hi')) = some d → rSlL X.K v li hi' W3.H Q := fun hd => by
    obtain ⟨ds, e4, z⟩ := map_some hd
    subst z
    obtain ⟨a, vs, rfl, h2, h3⟩ := R_asL e4 r3
    exact ⟨a, vs, rfl, h2, fun p hp => q _ (W3.frz p (cutV vs li hi')) [] (x13.trans (Ext.frz x3.ok hp)) (R_newL x3.ok hp (RL_cut h3))⟩
  cases x with
  | str s =>
    have hd2 : (if s.length ≤ LIM then some (D.str (cut s li hi')) else none) = some d := hd
    by_cases hl : s.length ≤ LIM
    · rw [if_pos hl] at hd2
      cases hd2
      refine .inr (.inr ⟨tr s, r3.1, by rw [tr_length]; exact lim_ok hl, q _ W3 [] x13 ⟨?_, rfl⟩⟩)
      show V.str (cutS (tr s) li hi') = V.str (tr (cut s li hi'))
      unfold cutS cut
      rw [tr_length]
    · rw [if_neg hl] at hd2
      cases hd2
  | tup ds =>
    have hd2 : (if dataL ds = true then some (D.tup (cut ds li hi')) else none) = some d := hd
    by_cases hl : dataL ds = true
    · rw [if_pos hl] at hd2
      cases hd2
      obtain ⟨a, vs, rfl, h2, h3⟩ := r3
      have z := RL_data ds hl h3
      subst z
      have ln := RL_len h3
      refine .inr (.inl ⟨a, vs, rfl, h2, fun hw => ?_, fun hw p hp => ?_⟩)
      · rw [ln] at hw
        rw [cut_all hw] at q
        exact q _ W3 [] x13 ⟨a, vs, rfl, h2, h3⟩
      · exact q _ (W3.put p (.tup (cutV vs li hi'))) [] (x13.trans (Ext.put x3.ok hp)) (R_newT x3.ok hp (RL_cut h3))
    · rw [if_neg hl] at hd2
      cases hd2
  | lst ds => exact .inl (viaL hd)
  | ml ds => exact .inl (viaL hd)
  | _ => cases hd
/-! ### built-ins -/
def CallD (X : Cx) (f : Value) (o : List D → Option D) : Prop := ∃ r : List V → Hp → VK → Prop, CallR X f r ∧ ∀ (W : Wd) (ds : List D) (vs : List V) (G : List Addr), WOk W → RL X.K W ds vs G → ∀ d, o ds = some d →
  ∀ Q : VK, (∀ v W' G, Ext W W' → R X.K W' d v G → Q v W'.H) → r vs W.H Q
def qCall (o : List D → Option D) (k : FA) : FQ := fun ρ μ => (k ρ μ).bind o
theorem runC {t : TA} {k : FA} {o : List D → Option D} {r : List V → Hp → VK → Prop}
    (k1 : ∀ (σ : L2.St) (W : Wd) (ρ μ : List D) (F : List Addr), Sta X.K W σ ρ μ F → ∀ ds, k ρ μ = some ds → ∀ Q : List V → Hp → Prop, (∀ vs W' G, Ext W W' → RL X.K W' ds vs G → Q vs W'.H) → t σ W.H Q)
    (k2 : ∀ (W : Wd) (ds : List D) (vs : List V) (G : List Addr), WOk W → RL X.K W ds vs G → ∀ d, o ds = some d → ∀ Q : VK, (∀ v W' G, Ext W W' → R X.K W' d v G → Q v W'.H) → r vs W.H Q)
    (σ : L2.St) (W : Wd) (ρ μ : List D) (F : List Addr) (S : Sta X.K W σ ρ μ F) (d : D) (hd : qCall o k ρ μ = some d) (Q : VK) (q : ∀ v W' G, Ext W W' → R X.K W' d v G → Q v W'.H) : tCB r t σ W.H Q := by
  obtain ⟨ds, e1, hd⟩ := bind_some hd
  refine k1 σ W ρ μ F S ds e1 _ fun vs W1 G1 x1 r1 => ?_
  exact k2 W1 ds vs G1 x1.ok r1 d hd _ fun v W2 G2 x2 r2 => q v W2 G2 (x1.trans x2) r2
theorem pq_callB {id : String} {x : Str} {p pos : Pos} {e : Expr} {es : List Expr} {k : FA} {o : List D → Option D} (h : CallD X (.builtin id) o) (hm : X.mg x = none) (hv : bootBuiltins x = some (.builtin id)) (ha : PAQ X (e :: es) k) (hg : Gl X x := by rfl)
    (hn : x ≠ "__name__" := by decide) (hdb : (x == ("__debug__" : Str)) = false := by decide) (he : starEach (e :: es) X.env = (false, eval e X.env) :: starEach es X.env := by rfl) (hpl : (backTo pos (starEach es X.env)).any (·.1) = false := by rfl) : PQ X (.Call (.Name x p) (e :: es) [] pos) (qCall o k) := by
  obtain ⟨r, hr, k2⟩ := h
  obtain ⟨t, pt, k1⟩ := ha
  exact ⟨_, pe_callB hr hg hm hv pt hn hdb he hpl, runC k1 k2⟩
theorem pq_callTy {T : String} {x : Str} {p pos : Pos} {e : Expr} {es : List Expr} {k : FA} {o : List D → Option D} (h : CallD X (.type T) o) (hm : X.mg x = none) (hv : bootBuiltins x = some (.type T)) (ha : PAQ X (e :: es) k) (hg : Gl X x := by rfl)
    (hn : x ≠ "__name__" := by decide) (hdb : (x == ("__debug__" : Str)) = false := by decide) (he : starEach (e :: es) X.env = (false, eval e X.env) :: starEach es X.env := by rfl) (hpl : (backTo pos (starEach es X.env)).any (·.1) = false := by rfl) : PQ X (.Call (.Name x p) (e :: es) [] pos) (qCall o k) := by
  obtain ⟨r, hr, k2⟩ := h
  obtain ⟨t, pt, k1⟩ := ha
  exact ⟨_, pe_callTy hr hg hm hv pt hn hdb he hpl, runC k1 k2⟩
/-- one argument -/
def o1 (g : D → Option D) : List D → Option D
  | [d] => g d
  | _ => none
def o2 (g : D → D → Option D) : List D → Option D
  | [d, e] => g d e
  | _ => none
theorem RL_one {W : Wd} {d : D} {vs : List V} {G : List Addr} (h : RL K W [d] vs G) : ∃ v, vs = [v] ∧ R K W d v G := by
  obtain ⟨v, vs', F1, F2, h1, h2, h3, h4⟩ := h
  obtain ⟨e1, e2⟩ := h3
  rw [h1, e1]
  rw [e2, List.append_nil] at h4
  exact ⟨v, rfl, by rw [h4]; exact h2⟩
theorem RL_two {W : Wd} {d e : D} {vs : List V} {G : List Addr} (h : RL K W [d, e] vs G) : ∃ u v G1 G2, vs = [u, v] ∧ R K W d u G1 ∧ R K W e v G2 := by
  obtain ⟨u, vs', F1, F2, h1, h2, h3, h4⟩ := h
  obtain ⟨v, e1, h5⟩ := RL_one h3
  exact ⟨u, v, F1, F2, by rw [h1, e1], h2, h5⟩
def dLen : D → Option D
  | .str s => if s.length ≤ LIM then some (.int s.length) else none
  | .tup ds => some (.int ds.length)
  | .lst ds => some (.int ds.length)
  | .ml ds => some (.int ds.length)
  | _ => none
theorem cd_len : CallD X (.builtin "len") (o1 dLen) := by
  refine ⟨_, call_len, fun W ds vs G ok r d hd Q q => ?_⟩
  match ds, hd with
  | [x], hd =>
    obtain ⟨v, rfl, r1⟩ := RL_one r
    have hd : dLen x = some d := hd
    cases x with
    | str s =>
      have hd2 : (if s.length ≤ LIM then some (D.int s.length) else none) = some d := hd
      by_cases hl : s.length ≤ LIM
      · rw [if_pos hl] at hd2
        cases hd2
        obtain ⟨rfl, _⟩ := r1
        exact ⟨_, s.length, rfl, ⟨by rw [tr_length]; exact lim_ok hl, (tr_length s).symm⟩, q _ W [] (Ext.refl ok) ⟨rfl, rfl⟩⟩
      · rw [if_neg hl] at hd2
        cases hd2
    | tup es =>
      cases hd
      obtain ⟨a, ws, rfl, h2, h3⟩ := r1
      exact ⟨_, es.length, rfl, .inr ⟨ws, h2, (RL_len h3).symm⟩, q _ W [] (Ext.refl ok) ⟨rfl, rfl⟩⟩
    | lst es =>
      cases hd
      obtain ⟨a, ws, rfl, h2, h3, _⟩ := r1
      exact ⟨_, es.length, rfl, .inl ⟨ws, h2.sq, (RL_len h3).symm⟩, q _ W [] (Ext.refl ok) ⟨rfl, rfl⟩⟩
    | ml es =>
      cases hd
      obtain ⟨a, ws, F', rfl, h2, h3, _⟩ := r1
      exact ⟨_, es.length, rfl, .inl ⟨ws, Evl.sq_of h2, (RL_len h3).symm⟩, q _ W [] (Ext.refl ok) ⟨rfl, rfl⟩⟩
    | _ => cases hd
def boolsD : List D → Option (List Bool)
  | [] => some []
  | .bl b :: ds => (boolsD ds).map fun bs => b :: bs
  | _ => none
theorem R_bools {W : Wd} : ∀ {ds : List D} {bs : List Bool} {vs : List V} {G : List Addr}, boolsD ds = some bs → RL K W ds vs G → vs = bs.map V.bl
  | [], _, _, _, h, r => by
    cases h
    exact r.1
  | d :: ds, bs, _, _, h, r => by
    obtain ⟨v, vs', F1, F2, h1, h2, h3, _⟩ := r
    cases d with
    | bl b =>
      obtain ⟨us, e2, z⟩ := map_some (show (boolsD ds).map (fun bs => b :: bs) = some bs from h)
      rw [← z, h1, h2.1, R_bools e2 h3]
      rfl
    | _ => cases h
def intsD : List D → Option (List Int)
  | [] => some []
  | .int b :: ds => (intsD ds).map fun bs => b :: bs
  | _ => none
theorem R_ints {W : Wd} : ∀ {ds : List D} {bs : List Int} {vs : List V} {G : List Addr}, intsD ds = some bs → RL K W ds vs G → vs = bs.map V.int
  | [], _, _, _, h, r => by
    cases h
    exact r.1
  | d :: ds, bs, _, _, h, r => by
    obtain ⟨v, vs', F1, F2, h1, h2, h3, _⟩ := r
    cases d with
    | int b =>
      obtain ⟨us, e2, z⟩ := map_some (show (intsD ds).map (fun bs => b :: bs) = some bs from h)
      rw [← z, h1, h2.1, R_ints e2 h3]
      rfl
    | _ => cases h
def strsD : List D → Option (List (List Nat))
  | [] => some []
  | .str b :: ds => (strsD ds).map fun bs => b :: bs
  | _ => none
theorem R_strs {W : Wd} : ∀ {ds : List D} {bs : List (List Nat)} {vs : List V} {G : List Addr}, strsD ds = some bs → RL K W ds vs G → vs = (bs.map tr).map V.str
  | [], _, _, _, h, r => by
    cases h
    exact r.1
  | d :: ds, bs, _, _, h, r => by
    obtain ⟨v, vs', F1, F2, h1, h2, h3, _⟩ := r
    cases d with
    | str b =>
      obtain ⟨us, e2, z⟩ := map_some (show (strsD ds).map (fun bs => b :: bs) = some bs from h)
      rw [← z, h1, h2.1, R_strs e2 h3]
      rfl
    | _ => cases h
theorem cd_all (hc : X.calm = true) : CallD X (.builtin "all") (o1 fun x => (asL x).bind fun ds => (boolsD ds).map fun bs => .bl (bs.all id)) := by
  refine ⟨_, cr_all hc, fun W ds vs G ok r d hd Q q => ?_⟩
  match ds, hd with
  | [x], hd =>
    obtain ⟨v, rfl, r1⟩ := RL_one r
    obtain ⟨es, e1, hd⟩ := bind_some (show (asL x).bind (fun ds => (boolsD ds).map fun bs => D.bl (bs.all id)) = some d from hd)
    obtain ⟨bs, e2, z⟩ := map_some hd
    obtain ⟨a, ws, rfl, h2, h3⟩ := R_asL e1 r1
    rw [R_bools e2 h3] at h2
    subst z
    exact ⟨a, bs, rfl, h2, q _ W [] (Ext.refl ok) ⟨rfl, rfl⟩⟩
theorem cd_any (hc : X.calm = true) : CallD X (.builtin "any") (o1 fun x => (asL x).bind fun ds => (boolsD ds).map fun bs => .bl (bs.any id)) := by
  refine ⟨_, cr_any hc, fun W ds vs G ok r d hd Q q => ?_⟩
  match ds, hd with
  | [x], hd =>
    obtain ⟨v, rfl, r1⟩ := RL_one r
    obtain ⟨es, e1, hd⟩ := bind_some (show (asL x).bind (fun ds => (boolsD ds).map fun bs => D.bl (bs.any id)) = some d from hd)
    obtain ⟨bs, e2, z⟩ := map_some hd
    obtain ⟨a, ws, rfl, h2, h3⟩ := R_asL e1 r1
    rw [R_bools e2 h3] at h2
    subst z
    exact ⟨a, bs, rfl, h2, q _ W [] (Ext.refl ok) ⟨rfl, rfl⟩⟩
theorem cd_sum (hc : X.calm = true) : CallD X (.builtin "sum") (o1 fun x => (asL x).bind fun ds => (intsD ds).map fun bs => .int bs.sum) := by
  refine ⟨_, cr_sum hc, fun W ds vs G ok r d hd Q q => ?_⟩
  match ds, hd with
  | [x], hd =>
    obtain ⟨v, rfl, r1⟩ := RL_one r
    obtain ⟨es, e1, hd⟩ := bind_some (show (asL x).bind (fun ds => (intsD ds).map fun bs => D.int bs.sum) = some d from hd)
    obtain ⟨bs, e2, z⟩ := map_some hd
    obtain ⟨a, ws, rfl, h2, h3⟩ := R_asL e1 r1
    rw [R_ints e2 h3] at h2
    subst z
    exact ⟨a, bs, rfl, h2, q _ W [] (Ext.refl ok) ⟨rfl, rfl⟩⟩
/-- tuple(a list | a tuple) -/
def dTuple : D → Option D
  | .tup ds => some (.tup ds)
  | x => (asL x).map .tup
theorem cd_tuple : CallD X (.type "tuple") (o1 dTuple) := by
  refine ⟨_, call_tuple_of, fun W ds vs G ok r d hd Q q => ?_⟩
  match ds, hd with
  | [x], hd =>
    obtain ⟨v, rfl, r1⟩ := RL_one r
    have viaL : (asL x).map D.tup = some d → ∃ p ys, [v] = [.ref p] ∧ ((SqL X.K W.H p ys ∧ ∀ l, W.H l = none → Q (.ref l) (upd W.H l (.tup ys))) ∨ (SqT X.K W.H p ys ∧ Q (.ref p) W.H)) := fun hd => by
      obtain ⟨es, e1, z⟩ := map_some hd
      subst z
      obtain ⟨a, ws, rfl, h2, h3⟩ := R_asL e1 r1
      exact ⟨a, ws, rfl, .inl ⟨h2, fun l hl => q _ (W.put l (.tup ws)) [] (Ext.put ok hl) (R_newT ok hl h3)⟩⟩
    cases x with
    | tup es =>
      cases hd
      obtain ⟨a, ws, rfl, h2, h3⟩ := r1
      exact ⟨a, ws, rfl, .inr ⟨h2, q _ W G (Ext.refl ok) ⟨a, ws, rfl, h2, h3⟩⟩⟩
    | _ => exact viaL hd
theorem cd_str : CallD X (.type "str") (o1 fun x => match x with | .int i => if i.natAbs.log2 < 1920 then some (.str (ofS (toString i))) else none | _ => none) := by
  refine ⟨_, call_str_int, fun W ds vs G ok r d hd Q q => ?_⟩
  match ds, hd with
  | [x], hd =>
    obtain ⟨v, rfl, r1⟩ := RL_one r
    cases x with
    | int i =>
      have hd2 : (if i.natAbs.log2 < 1920 then some (D.str (ofS (toString i))) else none) = some d := hd
      by_cases hl : i.natAbs.log2 < 1920
      · rw [if_pos hl] at hd2
        cases hd2
        obtain ⟨rfl, _⟩ := r1
        exact ⟨i, rfl, hl, q _ W [] (Ext.refl ok) ⟨congrArg V.str (tr_ofS _), rfl⟩⟩
      · rw [if_neg hl] at hd2
        cases hd2
    | _ => cases hd
def dDivmod : D → D → Option D
  | .int i, .int j => if 0 < j ∧ j < 1073741824 then some (.tup [.int (i / j), .int (i % j)]) else none
  | _, _ => none
theorem cd_divmod : CallD X (.builtin "divmod") (o2 dDivmod) := by
  refine ⟨_, call_divmod, fun W ds vs G ok r d hd Q q => ?_⟩
  match ds, hd with
  | [x, y], hd =>
    obtain ⟨u, v, G1, G2, rfl, r1, r2⟩ := RL_two r
    cases x with
    | int i =>
      cases y with
      | int j =>
        have hd2 : (if 0 < j ∧ j < 1073741824 then some (D.tup [.int (i / j), .int (i % j)]) else none) = some d := hd
        by_cases hl : 0 < j ∧ j < 1073741824
        · rw [if_pos hl] at hd2
          cases hd2
          obtain ⟨rfl, _⟩ := r1
          obtain ⟨rfl, _⟩ := r2
          exact ⟨i, j, rfl, hl, fun p hp => q _ (W.put p (.tup [.int (i / j), .int (i % j)])) [] (Ext.put ok hp) (R_newT ok hp ⟨_, _, [], [], rfl, ⟨rfl, rfl⟩, ⟨_, _, [], [], rfl, ⟨rfl, rfl⟩, ⟨rfl, rfl⟩, rfl⟩, rfl⟩)⟩
        · rw [if_neg hl] at hd2
          cases hd2
      | _ => cases hd
    | _ => cases y <;> cases hd
theorem cd_min (hc : X.calm = true) : CallD X (.builtin "min") (o2 fun x y => match x, y with | .int i, .int j => some (.int (if j < i then j else i)) | _, _ => none) := by
  refine ⟨_, call_min2 hc, fun W ds vs G ok r d hd Q q => ?_⟩
  match ds, hd with
  | [x, y], hd =>
    obtain ⟨u, v, G1, G2, rfl, r1, r2⟩ := RL_two r
    cases x with
    | int i =>
      cases y with
      | int j =>
        cases hd
        obtain ⟨rfl, _⟩ := r1
        obtain ⟨rfl, _⟩ := r2
        exact ⟨i, j, rfl, q _ W [] (Ext.refl ok) ⟨rfl, rfl⟩⟩
      | _ => cases hd
    | _ => cases y <;> cases hd
theorem cd_max (hc : X.calm = true) : CallD X (.builtin "max") (o2 fun x y => match x, y with | .int i, .int j => some (.int (if j > i then j else i)) | _, _ => none) := by
  refine ⟨_, call_max2 hc, fun W ds vs G ok r d hd Q q => ?_⟩
  match ds, hd with
  | [x, y], hd =>
    obtain ⟨u, v, G1, G2, rfl, r1, r2⟩ := RL_two r
    cases x with
    | int i =>
      cases y with
      | int j =>
        cases hd
        obtain ⟨rfl, _⟩ := r1
        obtain ⟨rfl, _⟩ := r2
        exact ⟨i, j, rfl, q _ W [] (Ext.refl ok) ⟨rfl, rfl⟩⟩
      | _ => cases hd
    | _ => cases y <;> cases hd
/-! ### isinstance of a built-in class -/
def tyN : D → Option String
  | .non => some "NoneType"
  | .bl _ => some "bool"
  | .int _ => some "int"
  | .str _ => some "str"
  | .lst _ => some "list"
  | .ml _ => some "list"
  | .tup _ => some "tuple"
  | _ => none
theorem R_ty {W : Wd} {d : D} {n : String} {v : V} {G : List Addr} (h : tyN d = some n) (r : R K W d v G) : TyX K W.H v (.type n) := by
  cases d with
  | non => cases h; rw [r.1]; exact .base .non
  | bl b => cases h; rw [r.1]; exact .base (.bl b)
  | int i => cases h; rw [r.1]; exact .base (.int i)
  | str s => cases h; rw [r.1]; exact .base (.str _)
  | lst ds =>
    cases h
    obtain ⟨a, vs, rfl, h2, _⟩ := r
    rcases h2.sq (K := K) with (h2 | ⟨o, h2⟩) | ⟨o, its, n, h2, h3, _⟩
    · exact .base (.lst h2)
    · exact .base (.frz h2)
    · exact .kList h2 h3
  | ml ds =>
    cases h
    obtain ⟨a, vs, F', rfl, h2, _⟩ := r
    exact .base (.lst h2)
  | tup ds =>
    cases h
    obtain ⟨a, vs, rfl, h2, _⟩ := r
    rcases h2 with (h2 | ⟨o, h2⟩) | ⟨o, its, n, h2, h3, _⟩
    · exact .base (.tup h2)
    · exact .fTuple h2
    · exact .kTuple h2 h3
  | _ => cases h
/-- a built-in class by its name in a call -/
def qIsi (T : String) (f : FQ) : FQ := fun ρ μ => (f ρ μ).bind fun d => (tyN d).bind fun n => (kitB n T).map D.bl
theorem pq_isi {T : String} {x : Str} {px p pos : Pos} {e : Expr} {f : FQ} (he : PQ X e f) (hmi : X.mg "isinstance" = none) (hmx : X.mg x = none) (hv : bootBuiltins x = some (.type T)) (hgi : Gl X "isinstance" := by rfl) (hg : Gl X x := by rfl)
    (hvi : bootBuiltins "isinstance" = some (.builtin "isinstance") := by decide +kernel) (hn : x ≠ "__name__" := by decide) (hd : (x == ("__debug__" : Str)) = false := by decide)
    (hs1 : starEach [e, .Name x px] X.env = (false, eval e X.env) :: starEach [.Name x px] X.env := by rfl) (hs2 : starEach [.Name x px] X.env = (false, eval (.Name x px) X.env) :: starEach [] X.env := by rfl) (hpl : (backTo pos (starEach [.Name x px] X.env)).any (·.1) = false := by rfl) :
    PQ X (.Call (.Name "isinstance" p) [e, .Name x px] [] pos) (qIsi T f) := by
  obtain ⟨t, pt, k1⟩ := he
  refine ⟨_, pe_callB call_isi hgi hmi hvi (pa_cons pt (pa_cons (pe_bltn (v := .ty T) hg hmx hv rfl hn hd) pa_nil hs2) hs1) (by decide) (by decide) hs1 hpl, fun σ W ρ μ F S d hd Q q => ?_⟩
  obtain ⟨x', e1, hd⟩ := bind_some hd
  obtain ⟨n, e2, hd⟩ := bind_some hd
  obtain ⟨b, e3, z⟩ := map_some hd
  subst z
  refine k1 σ W ρ μ F S x' e1 _ fun v W1 G1 x1 r1 => ?_
  exact ⟨v, .ty T, .type n, .type T, b, rfl, .ty T, R_ty e2 r1, kit_ty e3, q _ W1 [] x1 ⟨rfl, rfl⟩⟩
end
end Fw
/-! # what is walked, targets, comprehensions, calls of quiet defs, methods of texts -/
namespace Fw
open PySem PySem.Spec PyProof.Rows L2
open Evl (Ex)
/-- J yields ds, one by one, in every world that is Rel to W0 -/
structure ItD (K : PySem.W.Frag) (J : It) (W0 : Wd) (ds : List D) (Rel : Wd → Wd → Prop) : Prop where
  go : ∀ i W, Rel W0 W → i < ds.length → J.go i W.H
  st : ∀ i W, Rel W0 W → ds.length ≤ i → J.stop i W.H
  yl : ∀ i W x H', Rel W0 W → WOk W → i < ds.length → J.yld i W.H x H' → ∃ W' d, W'.H = H' ∧ ds[i]? = some d ∧ Ext W W' ∧ R K W' d x []
/-- walked while nothing changes; while what stands still stays -/
def PIQ (X : Cx) (tg e : Expr) (f : FA) : Prop := ∃ wi : TI, PI X tg e wi ∧ ∀ (σ : L2.St) (W : Wd) (ρ μ : List D) (F : List Addr), Sta X.K W σ ρ μ F → ∀ ds, f ρ μ = some ds →
  ∀ Q : It → Hp → Prop, (∀ J W', Ext W W' → ItD X.K J W' ds Ext → Q J W'.H) → wi σ W.H Q
def PIF (X : Cx) (tg e : Expr) (f : FA) : Prop := ∃ wi : TI, PI X tg e wi ∧ ∀ (σ : L2.St) (W : Wd) (ρ μ : List D) (F : List Addr), Sta X.K W σ ρ μ F → ∀ ds, f ρ μ = some ds →
  ∀ Q : It → Hp → Prop, (∀ J W', Ext W W' → ItD X.K J W' ds Lt → Q J W'.H) → wi σ W.H Q
theorem PIF.piq {X : Cx} {tg e : Expr} {f : FA} (h : PIF X tg e f) : PIQ X tg e f := by
  obtain ⟨wi, p, k⟩ := h
  exact ⟨wi, p, fun σ W ρ μ F S ds hd Q q => k σ W ρ μ F S ds hd Q fun J W' x it => q J W' x ⟨fun i W2 r => it.go i W2 r.lt, fun i W2 r => it.st i W2 r.lt, fun i W2 y H' r => it.yl i W2 y H' r.lt⟩⟩
/-! ### lists, tuples, texts -/
def iAny (K : PySem.W.Frag) (tl : TE) : TI := fun σ H Q => tl σ H fun x H1 => (∃ a xs, x = .ref a ∧ SqL K H1 a xs ∧ Q (Itl K a) H1) ∨ (∃ a xs, x = .ref a ∧ SqT K H1 a xs ∧ Q (Itt K a) H1) ∨ (∃ z, x = .str z ∧ Q (Its z) H1)
theorem pi_any {X : Cx} {tg l : Expr} {tl : TE} (hl : PE X l tl) : PI X tg l (iAny X.K tl) := by
  refine ⟨fun pins s σ H Rk I h => thn (hl.run pins s σ H _ I h) ?_⟩
  rintro v s1 ⟨x, H1, I1, r1, ⟨a, xs, rfl, hq, q⟩ | ⟨a, xs, rfl, hq, q⟩ | ⟨z, rfl, q⟩⟩
  · cases r1
    obtain ⟨its, rv, pl, hz⟩ := I1.list hq
    exact wpAny_pyIter_list pl.isList (pi_one (tk := s1.toks) I1 _ (turn_list a _) ⟨_, Heap.get?_push_size _ rfl, rfl, rfl⟩ q)
  · cases r1
    obtain ⟨its, rv, pl, hz⟩ := I1.tuple hq
    exact wpAny_pyIter_tuple (show s1.heap.IsTuple a its.toArray from pl) (pi_one (tk := s1.toks) I1 _ (turn_tuple a _) ⟨_, Heap.get?_push_size _ rfl, rfl, rfl⟩ q)
  · obtain ⟨t, rfl⟩ := r1
    cases ha : z.cps.all (· < 128)
    · exact wpAny_pyIter_wide ha (pi_one (tk := s1.toks) I1 _ (turn_str _ z t "str_iterator" (.inr rfl)) ⟨_, Heap.get?_push_size _ rfl, rfl, rfl⟩ q)
    · exact wpAny_pyIter_ascii ha (pi_one (tk := s1.toks) I1 _ (turn_str _ z t "str_ascii_iterator" (.inl rfl)) ⟨_, Heap.get?_push_size _ rfl, rfl, rfl⟩ q)
section
variable {K : PySem.W.Frag} {W0 : Wd}
theorem it_list {Rel : Wd → Wd → Prop} {a : Addr} {vs : List V} {ds : List D} (hs : ∀ W, Rel W0 W → SqL K W.H a vs) (hr : ∀ W, Rel W0 W → RL K W ds vs []) : ItD K (Itl K a) W0 ds Rel where
  go := fun i W r hi => by
    have hl := RL_len (hr W r)
    exact ⟨vs, vs[i]'(by omega), hs W r, by simp [hl, hi]⟩
  st := fun i W r hi => ⟨vs, hs W r, by rw [RL_len (hr W r)]; exact hi⟩
  yl := fun i W x H' r ok hi y => by
    obtain ⟨e, y⟩ := y
    have y1 := y vs (hs W r)
    obtain ⟨v, G, q1, q2, q3⟩ := RL_get (hr W r) (List.getElem?_eq_getElem hi)
    rw [y1] at q1
    cases q1
    have z : G = [] := List.eq_nil_iff_forall_not_mem.mpr fun b hb => by
      have := q3 b hb
      cases this
    subst z
    exact ⟨W, _, e.symm, List.getElem?_eq_getElem hi, Ext.refl ok, q2⟩
theorem it_tup {Rel : Wd → Wd → Prop} {a : Addr} {vs : List V} {ds : List D} (hs : ∀ W, Rel W0 W → SqT K W.H a vs) (hr : ∀ W, Rel W0 W → RL K W ds vs []) : ItD K (Itt K a) W0 ds Rel where
  go := fun i W r hi => by
    have hl := RL_len (hr W r)
    exact ⟨vs, vs[i]'(by omega), hs W r, by simp [hl, hi]⟩
  st := fun i W r hi => ⟨vs, hs W r, by rw [RL_len (hr W r)]; exact hi⟩
  yl := fun i W x H' r ok hi y => by
    obtain ⟨e, y⟩ := y
    have y1 := y vs (hs W r)
    obtain ⟨v, G, q1, q2, q3⟩ := RL_get (hr W r) (List.getElem?_eq_getElem hi)
    rw [y1] at q1
    cases q1
    have z : G = [] := List.eq_nil_iff_forall_not_mem.mpr fun b hb => by
      have := q3 b hb
      cases this
    subst z
    exact ⟨W, _, e.symm, List.getElem?_eq_getElem hi, Ext.refl ok, q2⟩
theorem it_str {Rel : Wd → Wd → Prop} {z : List Nat} : ItD K (Its (tr z)) W0 (z.map fun c => .str [c]) Rel where
  go := fun i W r hi => by
    rw [List.length_map] at hi
    show i < z.toArray.size
    rw [List.size_toArray]
    exact hi
  st := fun i W r hi => by
    rw [List.length_map] at hi
    show z.toArray.size ≤ i
    rw [List.size_toArray]
    exact hi
  yl := fun i W x H' r ok hi y => by
    rw [List.length_map] at hi
    obtain ⟨e, c, h1, rfl⟩ := y
    have h2 : z.toArray[i]? = some c := h1
    rw [List.getElem?_toArray] at h2
    exact ⟨W, .str [c], e.symm, by rw [List.getElem?_map, h2]; rfl, Ext.refl ok, rfl, rfl⟩
end
/-- the items of what stands still | of any such thing -/
def itemsF : D → Option (List D)
  | .lst ds => some ds
  | .tup ds => if dataL ds = true then some ds else none
  | .str s => some (s.map fun c => .str [c])
  | _ => none
def itemsQ : D → Option (List D)
  | .ml ds => if dataL ds = true then some ds else none
  | d => itemsF d
def aF (f : FQ) : FA := fun ρ μ => (f ρ μ).bind itemsF
def aQ (f : FQ) : FA := fun ρ μ => (f ρ μ).bind itemsQ
section
variable {X : Cx} {tg e : Expr} {f : FQ}
theorem items_run {Rel : Wd → Wd → Prop} (hR : ∀ {W W' : Wd}, Rel W W' → Lt W W') {W : Wd} {d : D} {ds : List D} {v : V} {G : List Addr} (hd : itemsF d = some ds) (r : R X.K W d v G) (Q : It → Hp → Prop) (q : ∀ J, ItD X.K J W ds Rel → Q J W.H) :
    (∃ a xs, v = .ref a ∧ SqL X.K W.H a xs ∧ Q (Itl X.K a) W.H) ∨ (∃ a xs, v = .ref a ∧ SqT X.K W.H a xs ∧ Q (Itt X.K a) W.H) ∨ (∃ z, v = .str z ∧ Q (Its z) W.H) := by
  cases d with
  | lst es =>
    cases hd
    obtain ⟨a, vs, rfl, h2, h3, _⟩ := r
    exact .inl ⟨a, vs, rfl, h2.sq, q _ (it_list (fun W2 r2 => (h2.lt (hR r2)).sq) fun W2 r2 => RL_lt (hR r2) _ h3)⟩
  | tup es =>
    have hd2 : (if dataL es = true then some es else none) = some ds := hd
    by_cases hl : dataL es = true
    · rw [if_pos hl] at hd2
      cases hd2
      obtain ⟨a, vs, rfl, h2, h3⟩ := r
      have z := RL_data ds hl h3
      subst z
      exact .inr (.inl ⟨a, vs, rfl, h2, q _ (it_tup (fun W2 r2 => (hR r2).sqT h2) fun W2 r2 => RL_lt (hR r2) _ h3)⟩)
    · rw [if_neg hl] at hd2
      cases hd2
  | str s =>
    cases hd
    obtain ⟨rfl, _⟩ := r
    exact .inr (.inr ⟨_, rfl, q _ it_str⟩)
  | _ => cases hd
theorem pif_any (h : PQ X e f) : PIF X tg e (aF f) := by
  obtain ⟨t1, p1, k1⟩ := h
  refine ⟨_, pi_any p1, fun σ W ρ μ F S ds hd Q q => ?_⟩
  obtain ⟨d, e1, hd⟩ := bind_some hd
  refine k1 σ W ρ μ F S d e1 _ fun v W1 G1 x1 r1 => ?_
  exact items_run (Rel := Lt) (fun r => r) hd r1 Q fun J it => q J W1 x1 it
theorem piq_any (h : PQ X e f) : PIQ X tg e (aQ f) := by
  obtain ⟨t1, p1, k1⟩ := h
  refine ⟨_, pi_any p1, fun σ W ρ μ F S ds hd Q q => ?_⟩
  obtain ⟨d, e1, hd⟩ := bind_some hd
  refine k1 σ W ρ μ F S d e1 _ fun v W1 G1 x1 r1 => ?_
  cases d with
  | ml es =>
    have hd2 : (if dataL es = true then some es else none) = some ds := hd
    by_cases hl : dataL es = true
    · rw [if_pos hl] at hd2
      cases hd2
      obtain ⟨a, vs, F', rfl, h2, h3, _⟩ := r1
      have z := RL_data ds hl h3
      subst z
      exact .inl ⟨a, vs, rfl, Evl.sq_of h2, q _ W1 x1 (it_list (fun W2 r2 => Evl.sq_of (r2.ex _ _ h2)) fun W2 r2 => RL_ext r2 _ h3)⟩
    · rw [if_neg hl] at hd2
      cases hd2
  | _ => exact items_run (Rel := Ext) (fun r => r.lt) (by exact hd) r1 Q fun J it => q J W1 x1 it
/-! ### ranges -/
def rangeD (lo hi : Int) : List D := (List.range (hi - lo).toNat).map fun (i : Nat) => .int (lo + (i : Int))
def small62 (i : Int) : Bool := decide (-4611686018427387904 ≤ i ∧ i < 4611686018427387904)
def aR1 (f : FQ) : FA := fun ρ μ => match f ρ μ with
  | some (.int j) => if small62 j = true then some (rangeD 0 j) else none
  | _ => none
def aR2 (f g : FQ) : FA := fun ρ μ => match f ρ μ, g ρ μ with
  | some (.int i), some (.int j) => if small62 i = true ∧ small62 j = true then some (rangeD i j) else none
  | _, _ => none
theorem it_range {K : PySem.W.Frag} {W0 : Wd} {Rel : Wd → Wd → Prop} {lo hi : Int} : ItD K (Itr lo (hi - lo).toNat) W0 (rangeD lo hi) Rel where
  go := fun i W r h => by
    unfold rangeD at h
    rw [List.length_map, List.length_range] at h
    exact h
  st := fun i W r h => by
    unfold rangeD at h
    rw [List.length_map, List.length_range] at h
    exact h
  yl := fun i W x H' r ok h y => by
    obtain ⟨e, rfl⟩ := y
    unfold rangeD at h ⊢
    rw [List.length_map, List.length_range] at h
    exact ⟨W, .int (lo + (i : Int)), e.symm, by rw [List.getElem?_map, List.getElem?_range h]; rfl, Ext.refl ok, rfl, rfl⟩
theorem sm62 {i : Int} (h : small62 i = true) : -(2 ^ 62) ≤ i ∧ i < 2 ^ 62 := by
  have z : -4611686018427387904 ≤ i ∧ i < 4611686018427387904 := of_decide_eq_true h
  omega
theorem pif_range1 {a : Expr} {p pos : Pos} (ha : PQ X a f) (hm : X.mg "range" = none) (hg : Gl X "range" := by rfl) (hs : starEach [a] X.env = [(false, eval a X.env)] := by rfl) : PIF X tg (.Call (.Name "range" p) [a] [] pos) (aR1 f) := by
  obtain ⟨t1, p1, k1⟩ := ha
  refine ⟨_, pi_range1 hg hm (pa_cons p1 pa_nil hs) hs, fun σ W ρ μ F S ds hd Q q => ?_⟩
  unfold aR1 at hd
  cases e1 : f ρ μ with
  | none => rw [e1] at hd; cases hd
  | some d =>
    rw [e1] at hd
    refine k1 σ W ρ μ F S d e1 _ fun v W1 G1 x1 r1 => ?_
    cases d with
    | int j =>
      have hd2 : (if small62 j = true then some (rangeD 0 j) else none) = some ds := hd
      by_cases hl : small62 j = true
      · rw [if_pos hl] at hd2
        cases hd2
        have z := sm62 hl
        have z2 : j.toNat = (j - 0).toNat := by rw [Int.sub_zero]
        refine ⟨j, congrArg (fun z => [z]) r1.1, z.1, z.2, ?_⟩
        rw [z2]
        exact q _ W1 x1 it_range
      · rw [if_neg hl] at hd2
        cases hd2
    | _ => cases hd
theorem pif_range2 {a b : Expr} {g : FQ} {p pos : Pos} (ha : PQ X a f) (hb : PQ X b g) (hm : X.mg "range" = none) (hg : Gl X "range" := by rfl) (hs : starEach [a, b] X.env = [(false, eval a X.env), (false, eval b X.env)] := by rfl)
    (hs2 : starEach [b] X.env = [(false, eval b X.env)] := by rfl) : PIF X tg (.Call (.Name "range" p) [a, b] [] pos) (aR2 f g) := by
  obtain ⟨t1, p1, k1⟩ := ha
  obtain ⟨t2, p2, k2⟩ := hb
  refine ⟨_, pi_range2 hg hm (pa_cons p1 (pa_cons p2 pa_nil hs2) (hs.trans (congrArg _ hs2.symm))) hs hs2, fun σ W ρ μ F S ds hd Q q => ?_⟩
  unfold aR2 at hd
  cases e1 : f ρ μ with
  | none => rw [e1] at hd; cases hd
  | some d =>
    cases e2 : g ρ μ with
    | none => rw [e1, e2] at hd; cases d <;> cases hd
    | some d' =>
      rw [e1, e2] at hd
      refine k1 σ W ρ μ F S d e1 _ fun v W1 G1 x1 r1 => ?_
      refine k2 σ W1 ρ μ F (S.ext x1) d' e2 _ fun v' W2 G2 x2 r2 => ?_
      cases d with
      | int i =>
        cases d' with
        | int j =>
          have hd2 : (if small62 i = true ∧ small62 j = true then some (rangeD i j) else none) = some ds := hd
          by_cases hl : small62 i = true ∧ small62 j = true
          · rw [if_pos hl] at hd2
            cases hd2
            have z1 := sm62 hl.1
            have z2 := sm62 hl.2
            obtain ⟨rfl, _⟩ := r1
            obtain ⟨rfl, _⟩ := r2
            exact ⟨i, j, rfl, ⟨z1.1, z1.2, z2.1, z2.2⟩, q _ W2 (x1.trans x2) it_range⟩
          · rw [if_neg hl] at hd2
            cases hd2
        | _ => cases hd
      | _ => cases d' <;> cases hd
/-! ### targets -/
def PGD (X : Cx) (tg : Expr) (vs : List Nat) (t : D → List D → Option (List D)) : Prop := ∃ g : TG, PG X tg g ∧ ∀ (σ : L2.St) (W : Wd) (ρ μ : List D) (F : List Addr) (d : D) (v : V), Sta X.K W σ ρ μ F → R X.K W d v [] → ∀ ρ', t d ρ = some ρ' →
  ∀ Q : L2.St → Hp → Prop, (∀ σ' F', Sta X.K W σ' ρ' μ F' → (∀ a ∈ F', a ∈ F) → wipe σ' vs = wipe σ vs → Q σ' W.H) → g v σ W.H Q
def tgN (i : Nat) : D → List D → Option (List D) := fun d ρ => if data d = true then some (ρ.set i d) else none
theorem data_ne {d : D} (h : data d = true) : d ≠ .un := fun z => by rw [z] at h; cases h
theorem R1_of {K : PySem.W.Frag} {W : Wd} {d : D} {v : V} {G : List Addr} (r : R K W d v G) : R1 K W d (some v) G := R1_iff.mpr (.inr ⟨v, rfl, r⟩)
theorem wipe_set : ∀ {vs : List Nat} {i : Nat} {o : Option V} {σ : L2.St}, i ∈ vs → wipe (σ.set i o) vs = wipe σ vs
  | [], i, o, σ, h => by cases h
  | v :: vs, i, o, σ, h => by
    show (wipe (σ.set i o) vs).set v none = (wipe σ vs).set v none
    by_cases e : i ∈ vs
    · rw [wipe_set e]
    · have ev : i = v := by
        rcases List.mem_cons.mp h with h | h
        · exact h
        · exact absurd h e
      subst ev
      have comm : ∀ (us : List Nat) (τ : L2.St), i ∉ us → wipe (τ.set i o) us = (wipe τ us).set i o := by
        intro us
        induction us with
        | nil => intro τ _; rfl
        | cons u us ih =>
          intro τ hu
          show (wipe (τ.set i o) us).set u none = ((wipe τ us).set u none).set i o
          rw [ih τ fun z => hu (List.mem_cons_of_mem _ z)]
          exact List.set_comm _ _ fun z => hu (by rw [z]; exact List.mem_cons_self ..)
      rw [comm vs σ e, List.set_set]
theorem wipe_idem : ∀ (vs : List Nat) (σ : L2.St), wipe (wipe σ vs) vs = wipe σ vs := by
  intro vs σ
  have key : ∀ (us : List Nat) (τ : L2.St), (∀ u ∈ us, u ∈ vs) → wipe (wipe τ us) vs = wipe τ vs := by
    intro us
    induction us with
    | nil => intro τ _; rfl
    | cons u us ih =>
      intro τ h
      show wipe ((wipe τ us).set u none) vs = wipe τ vs
      rw [wipe_set (h u (List.mem_cons_self ..)), ih τ fun z hz => h z (List.mem_cons_of_mem _ hz)]
  exact key vs σ fun u hu => hu
theorem pgd_name {vs : List Nat} {i : Nat} {x : Str} {pos : Pos} (h : PG X (.Name x pos) (gName i)) (hi : i ∈ vs := by decide) : PGD X (.Name x pos) vs (tgN i) := by
  refine ⟨_, h, fun σ W ρ μ F d v S r ρ' hr Q q => ?_⟩
  unfold tgN at hr
  by_cases hl : data d = true
  · rw [if_pos hl] at hr
    cases hr
    obtain ⟨F', S', sub⟩ := S.set (i := i) (R1_of r)
    exact q _ F' S' sub (wipe_set hi)
  · rw [if_neg hl] at hr
    cases hr
/-- several names out of a tuple -/
def tgs : List Nat → List D → List D → Option (List D)
  | [], [], ρ => some ρ
  | i :: is, d :: ds, ρ => (tgN i d ρ).bind fun ρ' => tgs is ds ρ'
  | _, _, _ => none
def tgT (is : List Nat) : D → List D → Option (List D) := fun d ρ => match d with
  | .tup ds => tgs is ds ρ
  | _ => none
def gNames : List Nat → TGs
  | [] => gNil
  | i :: is => gCons (gName i) (gNames is)
theorem tgs_run {K : PySem.W.Frag} {vs : List Nat} : ∀ (is : List Nat) {ds : List D} {us : List V} {σ : L2.St} {W : Wd} {ρ μ ρ' : List D} {F : List Addr}, (∀ i ∈ is, i ∈ vs) → Sta K W σ ρ μ F → RL K W ds us [] → tgs is ds ρ = some ρ' →
    ∀ Q : L2.St → Hp → Prop, (∀ σ' F', Sta K W σ' ρ' μ F' → (∀ a ∈ F', a ∈ F) → wipe σ' vs = wipe σ vs → Q σ' W.H) → gNames is us σ W.H Q
  | [], [], us, σ, W, ρ, μ, ρ', F, _, S, r, h, Q, q => by
    cases h
    exact ⟨r.1, q σ F S (fun a h => h) rfl⟩
  | [], _ :: _, _, _, _, _, _, _, _, _, _, _, h, _, _ => by cases h
  | i :: is, [], us, σ, W, ρ, μ, ρ', F, _, S, r, h, Q, q => by cases h
  | i :: is, d :: ds, us, σ, W, ρ, μ, ρ', F, hv, S, r, h, Q, q => by
    obtain ⟨ρ1, e1, h⟩ := bind_some (show (tgN i d ρ).bind (fun ρ' => tgs is ds ρ') = some ρ' from h)
    obtain ⟨v, us', F1, F2, h1, h2, h3, h4⟩ := r
    obtain ⟨rfl, rfl⟩ := List.append_eq_nil_iff.mp h4.symm
    unfold tgN at e1
    by_cases hl : data d = true
    · rw [if_pos hl] at e1
      cases e1
      obtain ⟨F', S', sub⟩ := S.set (i := i) (R1_of h2)
      refine ⟨v, us', h1, ?_⟩
      exact tgs_run is (fun j hj => hv j (List.mem_cons_of_mem _ hj)) S' h3 h Q fun σ' F'' S'' sub' w => q σ' F'' S'' (fun a ha => sub a (sub' a ha)) (w.trans (wipe_set (hv i (List.mem_cons_self ..))))
    · rw [if_neg hl] at e1
      cases e1
theorem pgd_tup {vs is : List Nat} {es : List Expr} {k : Nat} {pos : Pos} (hc : X.calm = true) (h : PGs X es (gNames is)) (hv : ∀ i ∈ is, i ∈ vs) (hn : (assignEach es X.env).length = is.length := by rfl) (hst : (assignEach es X.env).findIdx? (·.1) = none := by rfl) : PGD X (.Tuple es k pos) vs (tgT is) := by
  refine ⟨_, pg_tup hc h hn hst, fun σ W ρ μ F d v S r ρ' hr Q q => ?_⟩
  cases d with
  | tup ds =>
    have hr2 : tgs is ds ρ = some ρ' := hr
    obtain ⟨a, us, rfl, h2, h3⟩ := r
    refine ⟨a, us, rfl, h2, ?_, tgs_run is hv S h3 hr2 Q q⟩
    rw [RL_len h3]
    have len : ∀ (is : List Nat) (ds ρ : List D), tgs is ds ρ = some ρ' → ds.length = is.length := by
      intro is
      induction is with
      | nil =>
        intro ds ρ h
        cases ds with
        | nil => rfl
        | cons _ _ => cases h
      | cons i is ih =>
        intro ds ρ h
        cases ds with
        | nil => cases h
        | cons d ds =>
          obtain ⟨ρ1, _, h⟩ := bind_some (show (tgN i d ρ).bind (fun ρ' => tgs is ds ρ') = some ρ' from h)
          rw [List.length_cons, List.length_cons, ih ds ρ1 h]
    exact len is ds ρ hr2
  | _ => cases hr
end
end Fw
/-! # comprehensions, calls of quiet defs, methods of texts -/
namespace Fw
open PySem PySem.Spec PyProof.Rows L2
theorem passN {X : Cx} : Passes (L2N.CX X.prog X.w) X E0 := L2N.passes_call (W := fun _ _ _ _ => False) (fun _ _ ⟨_, _, _, _, _, _, _, _, _, _, _, _, _, _, _, _, w⟩ => w.elim) fun _ _ _ _ z => z
theorem takesN0 {X : Cx} : L2N.Takes X (fun _ _ _ _ => False) := fun _ _ ⟨_, _, _, _, _, _, _, _, _, _, _, _, _, _, _, _, w⟩ => w.elim
open Evl (Ex)
/-! ### the readings by their mirrors alone -/
def tEv (K : PySem.W.Frag) (f : FQ) : TE := fun σ H Q => ∃ (W : Wd) (ρ μ : List D) (F : List Addr) (d : D), W.H = H ∧ Sta K W σ ρ μ F ∧ f ρ μ = some d ∧ ∀ v W' G, Ext W W' → R K W' d v G → Q v W'.H
def tBv (K : PySem.W.Frag) (f : FB) : TT := fun σ H Q => ∃ (W : Wd) (ρ μ : List D) (F : List Addr) (b : Bool), W.H = H ∧ Sta K W σ ρ μ F ∧ f ρ μ = some b ∧ ∀ W', Ext W W' → Q b W'.H
def gTv (K : PySem.W.Frag) (vs : List Nat) (t : D → List D → Option (List D)) : TG := fun v σ H Q => ∃ (W : Wd) (ρ μ : List D) (F : List Addr) (d : D) (ρ' : List D), W.H = H ∧ Sta K W σ ρ μ F ∧ R K W d v [] ∧ t d ρ = some ρ' ∧
  ∀ σ' F', Sta K W σ' ρ' μ F' → (∀ a ∈ F', a ∈ F) → wipe σ' vs = wipe σ vs → Q σ' W.H
section
variable {X : Cx} {e tg : Expr} {f : FQ} {t : FB}
theorem PQ.can (h : PQ X e f) : PE X e (tEv X.K f) := by
  obtain ⟨te, p, k⟩ := h
  refine ⟨fun pins s σ H Q I ⟨W, ρ, μ, F, d, hH, S, hd, q⟩ => ?_⟩
  subst hH
  exact p.run pins s σ _ Q I (k σ W ρ μ F S d hd Q q)
theorem PB.can (h : PB X e t) : PT X e (tBv X.K t) := by
  obtain ⟨te, p, k⟩ := h
  refine ⟨fun pins s σ H Q I ⟨W, ρ, μ, F, d, hH, S, hd, q⟩ => ?_⟩
  subst hH
  exact p.run pins s σ _ Q I (k σ W ρ μ F S d hd Q q)
theorem PGD.can {vs : List Nat} {g : D → List D → Option (List D)} (h : PGD X tg vs g) : PG X tg (gTv X.K vs g) := by
  obtain ⟨tt, p, k⟩ := h
  refine ⟨fun pins s σ H v u Q I r ⟨W, ρ, μ, F, d, ρ', hH, S, rv, hd, q⟩ => ?_⟩
  subst hH
  exact p.run pins s σ _ v u Q I r (k σ W ρ μ F d v S rv ρ' hd Q q)
/-- a comprehension's tests: none or one -/
def bYes : FB := fun _ _ => some true
def PTsB (X : Cx) (es : List Expr) (t : FB) : Prop := PTs X es (tBv X.K t)
theorem ptsb_nil : PTsB X [] bYes := by
  refine ⟨fun pins s σ H Q I ⟨W, ρ, μ, F, d, hH, S, hd, q⟩ => ?_⟩
  subst hH
  cases hd
  exact pts_nil.run pins s σ _ Q I (q W (Ext.refl S.ok))
theorem ptsb_one {c : Expr} (h : PB X c t) : PTsB X [c] t := pts_one h.can
end
def wipeD (ρ : List D) : List Nat → List D
  | [] => ρ
  | v :: vs => (wipeD ρ vs).set v .un
theorem Sta.wipe {K : PySem.W.Frag} {W : Wd} {μ : List D} : ∀ (vs : List Nat) {σ : L2.St} {ρ : List D} {F : List Addr}, Sta K W σ ρ μ F → ∃ F', Sta K W (L2.wipe σ vs) (wipeD ρ vs) μ F'
  | [], _, _, F, S => ⟨F, S⟩
  | v :: vs, _, _, F, S => by
    obtain ⟨F1, S1⟩ := Sta.wipe vs S
    obtain ⟨F2, S2, _⟩ := S1.set (i := v) (d := .un) (o := none) rfl
    exact ⟨F2, S2⟩
def lcL (g : D → List D → Option (List D)) (t : FB) (f : FQ) (ρ μ : List D) : List D → Option (List D)
  | [] => some []
  | d :: ds => (g d ρ).bind fun ρ' => (t ρ' μ).bind fun b => if b = true then (f ρ' μ).bind fun y => if data y = true then (lcL g t f ρ μ ds).map fun r => y :: r else none else lcL g t f ρ μ ds
def qLc (it : FA) (g : D → List D → Option (List D)) (vs : List Nat) (t : FB) (f : FQ) : FA := fun ρ μ => (it ρ μ).bind fun ds => if ds.length ≤ LIM then lcL g t f (wipeD ρ vs) μ ds else none
theorem Lt.upd_lst {W : Wd} {p : Addr} {xs ys : List V} (h : W.H p = some (.lst xs)) (hf : ¬ W.Fr p) : Lt W ⟨upd W.H p (.lst ys), W.Fr, W.m⟩ := by
  have ne : ∀ a o, Rd W.H a o → (∀ zs, o ≠ .lst zs) → a ≠ p := fun a o r n z => by
    subst z
    rcases r with r | ⟨ob, r⟩
    · rw [h] at r
      exact n _ (Option.some.inj r).symm
    · rw [h] at r
      cases r
  refine ⟨fun a zs r => ?_, fun a zs r => ?_, fun a C dx fs r r' => ⟨?_, r'⟩, fun _ _ z => z⟩
  · have z := ne a _ r fun _ q => nomatch q
    unfold Rd at r ⊢
    show upd W.H p _ a = _ ∨ ∃ o, upd W.H p _ a = _
    rw [upd_ne z]
    exact r
  · have z : a ≠ p := fun z => hf (z ▸ r.2)
    refine ⟨?_, r.2⟩
    have r1 := r.1
    unfold Rd at r1 ⊢
    show upd W.H p _ a = _ ∨ ∃ o, upd W.H p _ a = _
    rw [upd_ne z]
    exact r1
  · show upd W.H p _ a = _
    rw [upd_ne fun z => by subst z; rw [h] at r; cases r]
    exact r
section
variable {X : Cx} {elt tg iter : Expr} {ifs : List Expr} {scope : Scope} {own : List (Str × Nat)} {pos : Pos} {it : FA} {g : D → List D → Option (List D)} {t : FB} {f : FQ}
/-- the reading of a comprehension, whatever comes behind -/
theorem lc_run {K : PySem.W.Frag} {wi : TI} {vs : List Nat} {it : FA}
    (k0 : ∀ (σ : L2.St) (W : Wd) (ρ μ : List D) (F : List Addr), Sta K W σ ρ μ F → ∀ ds, it ρ μ = some ds → ∀ Q : It → Hp → Prop, (∀ J W', Ext W W' → ItD K J W' ds Ext → Q J W'.H) → wi σ W.H Q)
    (σ : L2.St) (W : Wd) (ρ μ : List D) (F : List Addr) (S : Sta K W σ ρ μ F) (out : List D) (hd : qLc it g vs t f ρ μ = some out) (Q : VK) (q : ∀ p W', NewL K W W' out p → Q (.ref p) W'.H) :
    tLc wi (gTv K vs g) (tBv K t) (tEv K f) vs σ W.H Q := by
  obtain ⟨ds, e1, hd⟩ := bind_some hd
  by_cases hlim : ds.length ≤ LIM
  case neg => rw [if_neg hlim] at hd; cases hd
  rw [if_pos hlim] at hd
  refine k0 σ W ρ μ F S ds e1 _ fun J W1 x1 itd => ?_
  intro Dl hDl
  obtain ⟨Fw, Sw⟩ := Sta.wipe vs (S.ext x1)
  refine ⟨fun i m H => m = ds.length - i ∧ i ≤ ds.length ∧ ∃ (W2 : Wd) (acc : List V) (done rest : List D), W2.H = H ∧ Ext W1 W2 ∧ ¬ W2.Fr Dl ∧ W2.H Dl = some (.lst acc) ∧ RL K W2 done acc [] ∧ lcL g t f (wipeD ρ vs) μ (ds.drop i) = some rest ∧ out = done ++ rest ∧ done.length ≤ i, ⟨_, rfl, Nat.zero_le _, ?_⟩, ?_⟩
  · exact ⟨W1.put Dl (.lst []), [], [], out, rfl, Ext.put x1.ok hDl, fun z => x1.ok Dl z hDl, upd_same, ⟨rfl, rfl⟩, hd, rfl, Nat.le_refl _⟩
  · rintro i m H ⟨rfl, hi, W2, acc, done, rest, rfl, x2, hf, hacc, hrl, hrest, hout, hdl⟩
    by_cases hlt : i < ds.length
    · refine .inr ⟨itd.go i W2 x2 hlt, ?_⟩
      have ed : ds.drop i = ds[i] :: ds.drop (i + 1) := List.drop_eq_getElem_cons hlt
      rw [ed] at hrest
      obtain ⟨ρ', e2, hrest⟩ := bind_some (show (g ds[i] (wipeD ρ vs)).bind _ = some rest from hrest)
      obtain ⟨b, e3, hrest⟩ := bind_some hrest
      refine ⟨fun H' => i + 1 ≤ ds.length ∧ ∃ (W2 : Wd) (acc : List V) (done rest : List D), W2.H = H' ∧ Ext W1 W2 ∧ ¬ W2.Fr Dl ∧ W2.H Dl = some (.lst acc) ∧ RL K W2 done acc [] ∧ lcL g t f (wipeD ρ vs) μ (ds.drop (i + 1)) = some rest ∧ out = done ++ rest ∧ done.length ≤ i + 1,
        fun H' n => ⟨ds.length - (i + 1), by omega, rfl, n⟩, fun x H' hy => ?_⟩
      obtain ⟨W3, d, hW3, hd3, x3, r3⟩ := itd.yl i W2 x H' x2 x2.ok hlt hy
      subst hW3
      rw [List.getElem?_eq_getElem hlt] at hd3
      cases hd3
      have nf3 : ∀ {W5 : Wd}, Ext W2 W5 → ¬ W5.Fr Dl := fun x z => by
        rcases x.nf Dl z with z | z
        · exact hf z
        · rw [hacc] at z
          cases z
      refine ⟨W3, wipeD ρ vs, μ, Fw, ds[i], ρ', rfl, (Sw.ext x2).ext x3, r3, e2, fun σ' F' S' _ hw => ⟨hw.trans (wipe_idem vs σ), ?_⟩⟩
      refine ⟨W3, ρ', μ, F', b, rfl, S', e3, fun W4 x4 => ?_⟩
      cases b with
      | true =>
        rw [if_pos rfl] at hrest ⊢
        obtain ⟨y, e4, hrest⟩ := bind_some hrest
        by_cases hdy : data y = true
        case neg => rw [if_neg hdy] at hrest; cases hrest
        rw [if_pos hdy] at hrest
        obtain ⟨rest', e5, z⟩ := map_some hrest
        refine ⟨W4, ρ', μ, F', y, rfl, S'.ext x4, e4, fun v W5 G x5 r5 => ?_⟩
        have zG := R_data y hdy r5
        subst zG
        have x25 := (x3.trans x4).trans x5
        have hacc5 := x25.ex _ _ hacc
        have la : acc.length = done.length := RL_len hrl
        refine ⟨acc, hacc5, lim_lt (by omega), by omega, ⟨upd W5.H Dl (.lst (acc ++ [v])), W5.Fr, W5.m⟩, acc ++ [v], done ++ [y], rest', rfl, ?_, (show ¬ W5.Fr Dl from nf3 x25), upd_same, ?_, e5, ?_, ?_⟩
        · have x15 := x2.trans x25
          refine ⟨fun a o h => ?_, x15.fr, x15.nf, x15.m, fun a h => ?_⟩
          · show upd W5.H Dl _ a = _
            rw [upd_ne (ne_of_none h hDl)]
            exact x15.ex a o h
          · show upd W5.H Dl _ a ≠ none
            by_cases ea : a = Dl
            · rw [ea, upd_same]
              exact fun z => nomatch z
            · rw [upd_ne ea]
              exact x15.ok a h
        · have lt5 : Lt W5 ⟨upd W5.H Dl (.lst (acc ++ [v])), W5.Fr, W5.m⟩ := Lt.upd_lst hacc5 (nf3 x25)
          exact RL_app (G := []) (RL_lt lt5 done (RL_ext x25 done hrl)) ⟨v, [], [], [], rfl, R_lt lt5 y r5, ⟨rfl, rfl⟩, rfl⟩
        · rw [hout, ← z, List.append_assoc]
          rfl
        · rw [List.length_append]
          show done.length + 1 ≤ i + 1
          omega
      | false =>
        rw [if_neg Bool.false_ne_true] at hrest ⊢
        have x24 := x3.trans x4
        exact ⟨by omega, W4, acc, done, rest, rfl, x2.trans x24, nf3 x24, x24.ex _ _ hacc, RL_ext x24 done hrl, hrest, hout, by omega⟩
    · refine .inl ⟨itd.st i W2 x2 (by omega), ?_⟩
      have e : ds.drop i = [] := List.drop_eq_nil_of_le (by omega)
      rw [e] at hrest
      cases hrest
      rw [List.append_nil] at hout
      subst hout
      exact q Dl W2 ⟨x1.trans x2, Evl.fresh_back x1.ex hDl, hf, acc, hacc, hrl⟩
theorem pn_lc (hc : X.calm = true) (hN : X.N.Nodup) (hi : PIQ X tg iter it) (ok : BlkOk X.N X.env.scope scope own)
    (hg : ∀ (s : Shared) (H : Hp) (C : Addr) (cl : List (Str × Addr)) (fp : List Addr), PGD (X.blk s H scope (compEnvC scope cl C X.env) fp) tg (own.map (·.2)) g)
    (ht : ∀ (s : Shared) (H : Hp) (C : Addr) (cl : List (Str × Addr)) (fp : List Addr), PTsB (X.blk s H scope (compEnvC scope cl C X.env) fp) ifs t)
    (he : ∀ (s : Shared) (H : Hp) (C : Addr) (cl : List (Str × Addr)) (fp : List Addr), PQ (X.blk s H scope (compEnvC scope cl C X.env) fp) elt f)
    (hs : ∀ x, foldedSetIterable iter X.env x = pure x := by intro _; rfl) : PN X (.ListComp elt [⟨tg, iter, ifs, 0⟩] scope pos) (qLc it g (own.map (·.2)) t f) := by
  obtain ⟨wi, p0, k0⟩ := hi
  refine ⟨_, pe_lc (g := gTv X.K (own.map (·.2)) g) (tt := tBv X.K t) (te := tEv X.K f) hc hN p0 ok (fun s H C cl fp => (hg s H C cl fp).can) (fun s H C cl fp => ht s H C cl fp) (fun s H C cl fp => (he s H C cl fp).can) hs, fun σ W ρ μ F S out hd Q q => ?_⟩
  exact lc_run k0 σ W ρ μ F S out hd Q q
end
/-! ### quiet defs -/
def spQ (K : PySem.W.Frag) (n : Nat) (run : List D → Option D) : Sp := fun vs H Q _ => ∃ (W : Wd) (ds : List D) (d : D), W.H = H ∧ W.m = [] ∧ WOk W ∧ RL K W ds vs [] ∧ dataL ds = true ∧ ds.length = n ∧ run ds = some d ∧ data d = true ∧ ∀ v W', Ext W W' → R K W' d v [] → Q v W'.H
/-- the module's def x is quiet and computes run; dd: the defaults that fill up -/
def OkQ (P : Program) (w : World) (K : PySem.W.Frag) (mg : Str → Option Value) (base : Heap) (x : Str) (k n : Nat) (dd : List D) (run : List D → Option D) : Prop :=
  ∃ (f : Addr) (fd : FuncData) (ps : List Str) (dvs : List V) (us : List Value), FnOk P w K mg base (L2N.CX P w) k f fd ps (spQ K n run) ∧ Binds K fd ps us ∧ Vals dvs us ∧ (∀ W : Wd, RL K W dd dvs []) ∧ dataL dd = true ∧ mg x = some (.ref f) ∧ PySem.W.keepIn K (.ref f) = true
def qRun (n : Nat) (dd : List D) (run : List D → Option D) (k : FA) : FQ := fun ρ μ => (k ρ μ).bind fun ds => if dataL ds = true ∧ (ds ++ dd).length = n then (run (ds ++ dd)).bind fun d => if data d = true then some d else none else none
theorem dataL_app {ds es : List D} (h : dataL ds = true) (g : dataL es = true) : dataL (ds ++ es) = true := by
  rw [dataL_all] at h g ⊢
  rw [List.all_append, h, g]
  rfl
/-- into a quiet def and back: it sees nothing of what is shared -/
theorem call_back {K : PySem.W.Frag} {n : Nat} {run : List D → Option D} {W : Wd} {ds dd : List D} {vs : List V} {d : D} {Q : VK} {E : XK} (h1 : dataL ds = true) (h2 : dataL dd = true) (ok : WOk W) (r : RL K W (ds ++ dd) vs []) (hn : (ds ++ dd).length = n) (hr : run (ds ++ dd) = some d) (hd : data d = true)
    (q : ∀ v W', Ext W W' → R K W' d v [] → Q v W'.H) : spQ K n run vs W.H Q E :=
  ⟨⟨W.H, W.Fr, []⟩, ds ++ dd, d, rfl, rfl, ok, RL_m _ (dataL_app h1 h2) r, dataL_app h1 h2, hn, hr, hd, fun v W' x rv => q v ⟨W'.H, W'.Fr, W.m⟩ ⟨x.ex, x.fr, x.nf, rfl, x.ok⟩ (R_m d hd rv)⟩
section
variable {X : Cx} {e : Expr} {es : List Expr} {x : Str} {p pos : Pos} {k n : Nat} {dd : List D} {run : List D → Option D} {kf : FA}
theorem pq_call (O : OkQ X.prog X.w X.K X.mg X.base x k n dd run) (hr : Room k X.A) (ha : PAQ X (e :: es) kf) (hg : Gl X x := by rfl) (hdb : (x == ("__debug__" : Str)) = false := by decide)
    (he : starEach (e :: es) X.env = (false, eval e X.env) :: starEach es X.env := by rfl) (hpl : (backTo pos (starEach es X.env)).any (·.1) = false := by rfl) : PQ X (.Call (.Name x p) (e :: es) [] pos) (qRun n dd run kf) := by
  obtain ⟨f, fd, ps, dvs, us, hF, hb, hv, hdd, hdt, hm, hk⟩ := O
  obtain ⟨t, pt, k1⟩ := ha
  refine ⟨_, pe_call hF hr hg hm hk hb hv passN pt hdb he hpl, fun σ W ρ μ F S d hd Q q => ?_⟩
  obtain ⟨ds, e1, hd⟩ := bind_some hd
  by_cases hl : dataL ds = true ∧ (ds ++ dd).length = n
  case neg => rw [if_neg hl] at hd; cases hd
  rw [if_pos hl] at hd
  obtain ⟨d', e2, hd⟩ := bind_some hd
  by_cases hdd2 : data d' = true
  case neg => rw [if_neg hdd2] at hd; cases hd
  rw [if_pos hdd2] at hd
  cases hd
  refine k1 σ W ρ μ F S ds e1 _ fun vs W1 G1 x1 r1 => ?_
  have z := RL_data ds hl.1 r1
  subst z
  exact call_back hl.1 hdt x1.ok (RL_app r1 (hdd W1)) hl.2 e2 hdd2 fun v W2 x2 r2 => q v W2 [] (x1.trans x2) r2
theorem pq_call0 (O : OkQ X.prog X.w X.K X.mg X.base x k n dd run) (hr : Room k X.A) (hg : Gl X x := by rfl) (hdb : (x == ("__debug__" : Str)) = false := by decide) : PQ X (.Call (.Name x p) [] [] pos) (qRun n dd run aNil) := by
  obtain ⟨f, fd, ps, dvs, us, hF, hb, hv, hdd, hdt, hm, hk⟩ := O
  refine ⟨_, pe_call0 hF hr hg hm hk hb hv passN hdb, fun σ W ρ μ F S d hd Q q => ?_⟩
  obtain ⟨ds, e1, hd⟩ := bind_some hd
  cases e1
  by_cases hl : dataL ([] : List D) = true ∧ (([] : List D) ++ dd).length = n
  case neg => rw [if_neg hl] at hd; cases hd
  rw [if_pos hl] at hd
  obtain ⟨d', e2, hd⟩ := bind_some hd
  by_cases hdd2 : data d' = true
  case neg => rw [if_neg hdd2] at hd; cases hd
  rw [if_pos hdd2] at hd
  cases hd
  show spQ X.K n run ([] ++ dvs) W.H Q E0
  exact call_back (E := E0) (ds := []) rfl hdt S.ok (hdd W) hl.2 e2 hdd2 fun v W2 x2 r2 => q v W2 [] x2 r2
end
/-! ### methods of texts -/
/-- s.m(e): by the signs -/
def MtD (X : Cx) (id : String) (o : List Nat → List D → Option D) : Prop := ∃ r : V → List V → Hp → VK → Prop, MtR X id r ∧ ∀ (W : Wd) (s : List Nat) (ds : List D) (vs : List V) (G : List Addr), WOk W → RL X.K W ds vs G → ∀ d, o s ds = some d →
  ∀ Q : VK, (∀ v W' G, Ext W W' → R X.K W' d v G → Q v W'.H) → r (.str (tr s)) vs W.H Q
def qM0 (o : List Nat → List D → Option D) (f : FQ) : FQ := fun ρ μ => match f ρ μ with
  | some (.str s) => o s []
  | _ => none
def qM1 (o : List Nat → List D → Option D) (f g : FQ) : FQ := fun ρ μ => match f ρ μ with
  | some (.str s) => (g ρ μ).bind fun d => o s [d]
  | _ => none
section
variable {X : Cx} {a e : Expr} {f g : FQ} {name : Str} {apos pos : Pos} {id : String} {o : List Nat → List D → Option D}
theorem pq_m0 (h : MtD X id o) (slot : Slot "str" name id) (ty : typeOf (.builtin id) = pure (.type "method_descriptor")) (ha : PQ X a f) (hbase : attributeBase a name X.env (eval a X.env) = eval a X.env := by rfl) (hline : (apos.endLine == pos.line) = true := by rfl) : PQ X (.Call (.Attribute a name apos) [] [] pos) (qM0 o f) := by
  obtain ⟨r, hr, k2⟩ := h
  obtain ⟨t1, p1, k1⟩ := ha
  refine ⟨_, pe_m0 slot ty hr p1 hbase hline, fun σ W ρ μ F S d hd Q q => ?_⟩
  unfold qM0 at hd
  cases e1 : f ρ μ with
  | none => rw [e1] at hd; cases hd
  | some x =>
    rw [e1] at hd
    refine k1 σ W ρ μ F S x e1 _ fun v W1 G1 x1 r1 => ?_
    cases x with
    | str s =>
      obtain ⟨rfl, _⟩ := r1
      exact ⟨⟨_, rfl⟩, k2 W1 s [] [] [] x1.ok ⟨rfl, rfl⟩ d hd Q fun v W2 G x2 r2 => q v W2 G (x1.trans x2) r2⟩
    | _ => cases hd
theorem pq_m1 (h : MtD X id o) (slot : Slot "str" name id) (ty : typeOf (.builtin id) = pure (.type "method_descriptor")) (ha : PQ X a f) (he : PQ X e g) (hs : starEach [e] X.env = [(false, eval e X.env)] := by rfl) (hbase : attributeBase a name X.env (eval a X.env) = eval a X.env := by rfl) (hline : (apos.endLine == pos.line) = true := by rfl) :
    PQ X (.Call (.Attribute a name apos) [e] [] pos) (qM1 o f g) := by
  obtain ⟨r, hr, k2⟩ := h
  obtain ⟨t1, p1, k1⟩ := ha
  obtain ⟨t3, p3, k3⟩ := he
  refine ⟨_, pe_m1 slot ty hr p1 p3 hs hbase hline, fun σ W ρ μ F S d hd Q q => ?_⟩
  unfold qM1 at hd
  cases e1 : f ρ μ with
  | none => rw [e1] at hd; cases hd
  | some x =>
    rw [e1] at hd
    refine k1 σ W ρ μ F S x e1 _ fun v W1 G1 x1 r1 => ?_
    cases x with
    | str s =>
      obtain ⟨rfl, _⟩ := r1
      obtain ⟨y, e2, hd⟩ := bind_some (show (g ρ μ).bind (fun d => o s [d]) = some d from hd)
      refine ⟨⟨_, rfl⟩, k3 σ W1 ρ μ F (S.ext x1) y e2 _ fun u W2 G2 x2 r2 => ?_⟩
      exact k2 W2 s [y] [u] (G2 ++ []) x2.ok ⟨u, [], G2, [], rfl, r2, ⟨rfl, rfl⟩, rfl⟩ d hd Q fun v W3 G x3 r3 => q v W3 G ((x1.trans x2).trans x3) r3
    | _ => cases hd
/-- both texts -/
def oStr (h : List Nat → List Nat → D) : List Nat → List D → Option D
  | s, [.str t] => some (h s t)
  | _, _ => none
theorem mtd_str {h : Str → Str → V} {g : List Nat → List Nat → D} (r : MtR X id (fun x xs H Q => ∃ a b, x = .str a ∧ xs = [.str b] ∧ Q (h a b) H)) (hg : ∀ (W : Wd) s t, R X.K W (g s t) (h (tr s) (tr t)) []) : MtD X id (oStr g) := by
  refine ⟨_, r, fun W s ds vs G ok rl d hd Q q => ?_⟩
  match ds, hd with
  | [.str t], hd =>
    cases hd
    obtain ⟨v, rfl, r1⟩ := RL_one rl
    obtain ⟨rfl, _⟩ := r1
    exact ⟨tr s, tr t, rfl, rfl, q _ W [] (Ext.refl ok) (hg W s t)⟩
theorem mtd_find : MtD X "str.find" (oStr fun s t => .int (Txt.find (tr s) (tr t))) := mtd_str mt_find fun _ _ _ => ⟨rfl, rfl⟩
theorem mtd_starts : MtD X "str.startswith" (oStr fun s t => .bl (Txt.startswith (tr s) (tr t))) := mtd_str mt_startswith fun _ _ _ => ⟨rfl, rfl⟩
theorem mtd_ends : MtD X "str.endswith" (oStr fun s t => .bl (Txt.endswith (tr s) (tr t))) := mtd_str mt_endswith fun _ _ _ => ⟨rfl, rfl⟩
/-- sep.join(texts) -/
def joinLen (s : List Nat) (ts : List (List Nat)) : Nat := (ts.map (·.length)).sum + ts.length * s.length
def oJoin (s : List Nat) : List D → Option D
  | [x] => (seqD x).bind fun ds => (strsD ds).bind fun ts => if joinLen s ts ≤ LIM then some (.str (TL.joinL s ts)) else none
  | _ => none
theorem tl_tr (s : List Nat) : TL.tl (tr s) = s := rfl
theorem map_tl_tr (ts : List (List Nat)) : (ts.map tr).map TL.tl = ts := by
  rw [List.map_map]
  exact List.map_id _
theorem mtd_join : MtD X "str.join" oJoin := by
  refine ⟨_, mt_join, fun W s ds vs G ok rl d hd Q q => ?_⟩
  match ds, hd with
  | [x], hd =>
    obtain ⟨v, rfl, r1⟩ := RL_one rl
    obtain ⟨es, e1, hd⟩ := bind_some (show (seqD x).bind (fun ds => (strsD ds).bind fun ts => if joinLen s ts ≤ LIM then some (D.str (TL.joinL s ts)) else none) = some d from hd)
    obtain ⟨ts, e2, hd⟩ := bind_some hd
    by_cases hl : joinLen s ts ≤ LIM
    case neg => rw [if_neg hl] at hd; cases hd
    rw [if_pos hl] at hd
    cases hd
    obtain ⟨a, us, G', rfl, h2, h3⟩ := R_seq e1 r1
    rw [R_strs e2 h3] at h2
    refine ⟨tr s, a, ts.map tr, rfl, rfl, h2, ?_, q _ W [] (Ext.refl ok) ⟨?_, rfl⟩⟩
    · have e : ((ts.map tr).map (·.length)).sum + (ts.map tr).length * (tr s).length = joinLen s ts := by
        unfold joinLen
        rw [tr_length, List.length_map, List.map_map]
        congr 2
      rw [e]
      exact Nat.le_trans hl (by decide)
    · rw [TL.join_eq]
      refine congrArg V.str (TL.ext_tl ?_)
      rw [TL.tl_join, map_tl_tr, tl_tr, tl_tr]
end
end Fw
/-! # statements, quiet defs -/
namespace Fw
open PySem PySem.Spec PyProof.Rows L2
open Evl (Ex)
/-- how a statement ends: goes on, returns, breaks, continues, raises (the class, the fields) -/
inductive SO where
  | nx (ρ μ : List D) | rt (d : D) (ρ μ : List D) | bk (ρ μ : List D) | ct (ρ μ : List D) | ex (c : Str) (fs : List (Str × D)) (ρ μ : List D)
abbrev FS := List D → List D → Option SO
def Kept (ob : List Nat) (σ σ' : L2.St) : Prop := ∀ i ∈ ob, σ'[i]? = σ[i]?
theorem Kept.refl {ob : List Nat} {σ : L2.St} : Kept ob σ σ := fun _ _ => rfl
theorem Kept.trans {ob : List Nat} {σ σ' σ'' : L2.St} (h : Kept ob σ σ') (g : Kept ob σ' σ'') : Kept ob σ σ'' := fun i hi => (g i hi).trans (h i hi)
theorem Kept.set {ob : List Nat} {σ : L2.St} {i : Nat} {o : Option V} (h : i ∉ ob) : Kept ob σ (σ.set i o) := fun j hj => List.getElem?_set_ne (fun z => h (by rw [z]; exact hj))
/-- an exception's own fields, at its dict -/
def ExAt (K : PySem.W.Frag) (W : Wd) (fs : List (Str × D)) (dx : Option Addr) : Prop := (fs = [] ∧ dx = none) ∨ (∃ x d a v, fs = [(x, d)] ∧ dx = some a ∧ W.H a = some (.xd [(x, v)]) ∧ R K W d v [])
def Goes (K : PySem.W.Frag) (ob : List Nat) (Wx : WX) (E : Ends) (σ : L2.St) (W : Wd) (F : List Addr) : SO → Prop
  | .nx ρ' μ' => ∀ σ' W' F', Sta K W' σ' ρ' μ' F' → Mv W W' F F' → Kept ob σ σ' → E.nx σ' W'.H
  | .bk ρ' μ' => ∀ σ' W' F', Sta K W' σ' ρ' μ' F' → Mv W W' F F' → Kept ob σ σ' → E.bk σ' W'.H
  | .ct ρ' μ' => ∀ σ' W' F', Sta K W' σ' ρ' μ' F' → Mv W W' F F' → Kept ob σ σ' → E.ct σ' W'.H
  | .rt d ρ' μ' => ∀ v σ' W' G F', R K W' d v G → Sta K W' σ' ρ' μ' F' → (G ++ F').Nodup → (∀ a ∈ G, Own W' a) → Mv W W' F (G ++ F') → Kept ob σ σ' → E.rt v W'.H
  | .ex c fs ρ' μ' => ∀ dx σ' W' F', ExAt K W' fs dx → Sta K W' σ' ρ' μ' F' → Mv W W' F F' → Kept ob σ σ' → Wx (.ref (He.ga K c)) dx σ' W'.H
def PS1 (X : Cx) (ob : List Nat) (Wx : WX) (st : Stmt) (f : FS) : Prop := ∃ ts : TS, PS X st ts ∧ ∀ (E : Ends) (σ : L2.St) (W : Wd) (ρ μ : List D) (F : List Addr), Sta X.K W σ ρ μ F → ∀ o, f ρ μ = some o → Goes X.K ob Wx E σ W F o → ts E σ W.H
def PSS (X : Cx) (ob : List Nat) (Wx : WX) (ss : List Stmt) (f : FS) : Prop := ∃ ts : TS, PSs X ss ts ∧ ∀ (E : Ends) (σ : L2.St) (W : Wd) (ρ μ : List D) (F : List Addr), Sta X.K W σ ρ μ F → ∀ o, f ρ μ = some o → Goes X.K ob Wx E σ W F o → ts E σ W.H
/-- from a later point, what was wanted at the earlier one -/
theorem Goes.after {K : PySem.W.Frag} {ob : List Nat} {Wx : WX} {E : Ends} {σ σ1 : L2.St} {W W1 : Wd} {F F1 : List Addr} {o : SO} (h : Goes K ob Wx E σ W F o) (m : Mv W W1 F F1) (kp : Kept ob σ σ1) : Goes K ob Wx E σ1 W1 F1 o := by
  cases o with
  | nx ρ' μ' => exact fun σ' W' F' S mv kp' => h σ' W' F' S (m.trans mv) (kp.trans kp')
  | bk ρ' μ' => exact fun σ' W' F' S mv kp' => h σ' W' F' S (m.trans mv) (kp.trans kp')
  | ct ρ' μ' => exact fun σ' W' F' S mv kp' => h σ' W' F' S (m.trans mv) (kp.trans kp')
  | rt d ρ' μ' => exact fun v σ' W' G F' r S nd own mv kp' => h v σ' W' G F' r S nd own (m.trans mv) (kp.trans kp')
  | ex c fs ρ' μ' => exact fun dx σ' W' F' r S mv kp' => h dx σ' W' F' r S (m.trans mv) (kp.trans kp')
theorem Ext.mvr {W W' : Wd} {F : List Addr} (e : Ext W W') : Mv W W' F F := e.mv fun _ h => h
section
variable {X : Cx} {ob : List Nat} {Wx : WX} {st : Stmt} {rest ss ss' : List Stmt} {f g : FS} {e a : Expr} {q q' : FQ} {t : FB} {pos : Pos}
/-! ### one behind the other -/
def fNext : FS := fun ρ μ => some (.nx ρ μ)
def fSeq (f g : FS) : FS := fun ρ μ => (f ρ μ).bind fun o => match o with
  | .nx ρ' μ' => g ρ' μ'
  | o => some o
theorem pss_nil' : PSS X ob Wx [] fNext := ⟨_, pss_nil, fun E σ W ρ μ F S o ho h => by
  cases ho
  exact h σ W F S (Ext.refl S.ok).mvr Kept.refl⟩
theorem seq_run {t u : TS} (k1 : ∀ (E : Ends) (σ : L2.St) (W : Wd) (ρ μ : List D) (F : List Addr), Sta X.K W σ ρ μ F → ∀ o, f ρ μ = some o → Goes X.K ob Wx E σ W F o → t E σ W.H)
    (k2 : ∀ (E : Ends) (σ : L2.St) (W : Wd) (ρ μ : List D) (F : List Addr), Sta X.K W σ ρ μ F → ∀ o, g ρ μ = some o → Goes X.K ob Wx E σ W F o → u E σ W.H)
    (E : Ends) (σ : L2.St) (W : Wd) (ρ μ : List D) (F : List Addr) (S : Sta X.K W σ ρ μ F) (o : SO) (ho : fSeq f g ρ μ = some o) (h : Goes X.K ob Wx E σ W F o) : tSeq t u E σ W.H := by
  obtain ⟨o1, e1, ho⟩ := bind_some ho
  refine k1 { E with nx := u E } σ W ρ μ F S o1 e1 ?_
  cases o1 with
  | nx ρ1 μ1 => exact fun σ1 W1 F1 S1 m1 kp => k2 E σ1 W1 ρ1 μ1 F1 S1 o ho (h.after m1 kp)
  | _ =>
    cases ho
    exact h
theorem pss_cons' (h1 : PS1 X ob Wx st f) (h2 : PSS X ob Wx rest g) : PSS X ob Wx (st :: rest) (fSeq f g) := by
  obtain ⟨t1, p1, k1⟩ := h1
  obtain ⟨t2, p2, k2⟩ := h2
  exact ⟨_, pss_cons p1 p2, seq_run k1 k2⟩
theorem pss_one' (h1 : PS1 X ob Wx st f) : PSS X ob Wx [st] f := by
  obtain ⟨t1, p1, k1⟩ := h1
  exact ⟨_, pss_one p1, k1⟩
theorem ps1_pass : PS1 X ob Wx (.Pass pos) fNext := ⟨_, ps_pass, fun E σ W ρ μ F S o ho h => by
  cases ho
  exact h σ W F S (Ext.refl S.ok).mvr Kept.refl⟩
/-! ### a name is set -/
def fSet (i : Nat) (q : FQ) : FS := fun ρ μ => (q ρ μ).bind fun d => if data d = true then some (.nx (ρ.set i d) μ) else none
theorem set_run {te : TE} {i : Nat} (k1 : ∀ (σ : L2.St) (W : Wd) (ρ μ : List D) (F : List Addr), Sta X.K W σ ρ μ F → ∀ d, q ρ μ = some d → ∀ Q : VK, (∀ v W' G, Ext W W' → R X.K W' d v G → Q v W'.H) → te σ W.H Q) (hi : i ∉ ob)
    (E : Ends) (σ : L2.St) (W : Wd) (ρ μ : List D) (F : List Addr) (S : Sta X.K W σ ρ μ F) (o : SO) (ho : fSet i q ρ μ = some o) (h : Goes X.K ob Wx E σ W F o) : tAsg te (gName i) E σ W.H := by
  obtain ⟨d, e1, ho⟩ := bind_some ho
  by_cases hd : data d = true
  case neg => rw [if_neg hd] at ho; cases ho
  rw [if_pos hd] at ho
  cases ho
  refine k1 σ W ρ μ F S d e1 _ fun v W1 G x1 r1 => ?_
  have z := R_data d hd r1
  subst z
  obtain ⟨F', S', sub⟩ := (S.ext x1).set (i := i) (R1_of r1)
  exact h _ W1 F' S' (x1.mv sub) (Kept.set hi)
theorem ps1_set {i : Nat} {x : Str} {pos' : Pos} (hN : X.N.Nodup) (hi : X.N[i]? = some x) (hx : Loc X.env.scope x) (he : PQ X e q) (hs : swapsWith e (some (.Name x pos')) pos.line X.env = pure false := by rfl) (hf : X.fn x = true ∨ X.env.scope.names.lookup x = some .local := by first | exact .inl rfl | exact .inr rfl) (ho : i ∉ ob := by decide) :
    PS1 X ob Wx (.Assign [.Name x pos'] e pos) (fSet i q) := by
  obtain ⟨te, p, k⟩ := he
  exact ⟨_, ps_set hN hi hx p hs hf, set_run k ho⟩
/-- a name gets a new list, its own -/
def fSetN (i : Nat) (k : FA) : FS := fun ρ μ => (k ρ μ).map fun ds => .nx (ρ.set i (.ml ds)) μ
theorem Sta.setN {K : PySem.W.Frag} {W W' : Wd} {σ : L2.St} {ρ μ ds : List D} {F : List Addr} {i : Nat} {p : Addr} (S : Sta K W σ ρ μ F) (n : NewL K W W' ds p) : ∃ F', Sta K W' (σ.set i (some (.ref p))) (ρ.set i (.ml ds)) μ F' ∧ Mv W W' F F' := by
  obtain ⟨x, new, nofr, vs, h1, h2⟩ := n
  have S1 := S.ext x
  obtain ⟨⟨F1, F2, q1, q2, q3⟩, nd, own, ok⟩ := S1
  have r : R K W' (.ml ds) (.ref p) [p] := ⟨p, vs, [], rfl, h1, h2, rfl⟩
  have pF : p ∉ F := fun z => by
    obtain ⟨_, w⟩ := S.own p z
    rcases w with ⟨xs, w⟩ | ⟨C, dx, fs, w⟩ <;> rw [new] at w <;> cases w
  by_cases hi : i < ρ.length
  · obtain ⟨A, B, C, e1, e2⟩ := RS_set (R1_of r) q1 hi
    have sub : (A ++ C ++ F2).Sublist F := by
      rw [q3, e1]
      exact List.Sublist.append (List.Sublist.append (List.Sublist.refl A) (List.sublist_append_right B C)) (List.Sublist.refl F2)
    have pm : (A ++ ([p] ++ C) ++ F2).Perm (p :: (A ++ C ++ F2)) := by
      rw [List.append_assoc, List.append_assoc, List.append_assoc]
      exact List.perm_middle
    refine ⟨A ++ ([p] ++ C) ++ F2, ⟨⟨_, F2, e2, q2, rfl⟩, pm.nodup_iff.mpr (List.nodup_cons.mpr ⟨fun z => pF (sub.subset z), nd.sublist sub⟩), fun a ha => ?_, ok⟩, ⟨fun a o h _ => x.ex a o h, x.fr, fun a h => (x.nf a h).elim .inl fun z => .inr (.inl z), fun a ha => ?_, ⟨[], by rw [x.m, List.append_nil]⟩⟩⟩
    · rcases List.mem_cons.mp (pm.mem_iff.mp ha) with z | z
      · subst z
        exact ⟨nofr, .inl ⟨vs, h1⟩⟩
      · exact own a (sub.subset z)
    · rcases List.mem_cons.mp (pm.mem_iff.mp ha) with z | z
      · subst z
        exact .inr new
      · exact .inl (sub.subset z)
  · have hl := RS_len q1
    rw [List.set_eq_of_length_le (by omega), List.set_eq_of_length_le (by omega)]
    exact ⟨F, ⟨⟨F1, F2, q1, q2, q3⟩, nd, own, ok⟩, x.mvr⟩
theorem setN_run {te : TE} {i : Nat} {k : FA} (k1 : ∀ (σ : L2.St) (W : Wd) (ρ μ : List D) (F : List Addr), Sta X.K W σ ρ μ F → ∀ ds, k ρ μ = some ds → ∀ Q : VK, (∀ p W', NewL X.K W W' ds p → Q (.ref p) W'.H) → te σ W.H Q) (hi : i ∉ ob)
    (E : Ends) (σ : L2.St) (W : Wd) (ρ μ : List D) (F : List Addr) (S : Sta X.K W σ ρ μ F) (o : SO) (ho : fSetN i k ρ μ = some o) (h : Goes X.K ob Wx E σ W F o) : tAsg te (gName i) E σ W.H := by
  obtain ⟨ds, e1, z⟩ := map_some ho
  subst z
  refine k1 σ W ρ μ F S ds e1 _ fun p W1 n => ?_
  obtain ⟨F', S', m⟩ := S.setN (i := i) n
  exact h _ W1 F' S' m (Kept.set hi)
theorem ps1_setN {i : Nat} {x : Str} {pos' : Pos} {k : FA} (hN : X.N.Nodup) (hi : X.N[i]? = some x) (hx : Loc X.env.scope x) (he : PN X e k) (hs : swapsWith e (some (.Name x pos')) pos.line X.env = pure false := by rfl) (hf : X.fn x = true ∨ X.env.scope.names.lookup x = some .local := by first | exact .inl rfl | exact .inr rfl) (ho : i ∉ ob := by decide) :
    PS1 X ob Wx (.Assign [.Name x pos'] e pos) (fSetN i k) := by
  obtain ⟨te, p, k1⟩ := he
  exact ⟨_, ps_set hN hi hx p hs hf, setN_run k1 ho⟩
/-- y = [.. for ..] on one line: the list is the name's own, or stands still at once -/
theorem ps1_setLc {i : Nat} {y : Str} {py : Pos} {elt tg iter : Expr} {ifs : List Expr} {scope : Scope} {own : List (Str × Nat)} {spos : Pos} {it : FA} {g : D → List D → Option (List D)} {t : FB} {q : FQ} (hc : X.calm = true) (hN : X.N.Nodup) (hy : X.N[i]? = some y) (hyl : X.env.scope.names.lookup y = some .local)
    (hsw : swapsWith (.ListComp elt [⟨tg, iter, ifs, 0⟩] scope pos) (some (.Name y py)) spos.line X.env = pure true) (hi : PIQ X tg iter it) (ok : BlkOk X.N X.env.scope scope own)
    (hg : ∀ (s : Shared) (H : Hp) (C : Addr) (cl : List (Str × Addr)) (fp : List Addr), PGD (X.blk s H scope (compEnvC scope cl C X.env) fp) tg (own.map (·.2)) g)
    (ht : ∀ (s : Shared) (H : Hp) (C : Addr) (cl : List (Str × Addr)) (fp : List Addr), PTsB (X.blk s H scope (compEnvC scope cl C X.env) fp) ifs t)
    (he : ∀ (s : Shared) (H : Hp) (C : Addr) (cl : List (Str × Addr)) (fp : List Addr), PQ (X.blk s H scope (compEnvC scope cl C X.env) fp) elt q)
    (hs : ∀ x, foldedSetIterable iter X.env x = pure x := by intro _; rfl) (ho : i ∉ ob := by decide) : PS1 X ob Wx (.Assign [.Name y py] (.ListComp elt [⟨tg, iter, ifs, 0⟩] scope pos) spos) (fSetN i (qLc it g (own.map (·.2)) t q)) := by
  obtain ⟨wi, p0, k0⟩ := hi
  exact ⟨_, ps_setLc (g := gTv X.K (own.map (·.2)) g) (tt := tBv X.K t) (te := tEv X.K q) hc hN hy hyl hsw p0 ok (fun s H C cl fp => (hg s H C cl fp).can) (fun s H C cl fp => ht s H C cl fp) (fun s H C cl fp => (he s H C cl fp).can) hs,
    setN_run (fun σ W ρ μ F S out hd Q q => lc_run k0 σ W ρ μ F S out hd Q q) ho⟩
/-! ### an own list that nobody will change any more -/
def fzAt (i : Nat) (ρ : List D) : List D := match ρ[i]? with
  | some (.ml ds) => if dataL ds = true then ρ.set i (.lst ds) else ρ
  | _ => ρ
def fFz (i : Nat) (f : FS) : FS := fun ρ μ => f (fzAt i ρ) μ
theorem RS_set' {K : PySem.W.Frag} {W W' : Wd} {d' : D} {i : Nat} : ∀ {ρ : List D} {σ : List (Option V)} {F : List Addr} {j : Nat} {d : D}, RS K W ρ σ F → ρ[j]? = some d → d ≠ .un → ∃ v A B C, σ[j]? = some (some v) ∧ F = A ++ (B ++ C) ∧ R K W d v B ∧
    ∀ (G : List Addr), R K W d' v G → RS K W (ρ.set j d') σ (A ++ (G ++ C))
  | [], _, _, j, _, _, h, _ => by simp at h
  | d0 :: ρ, _, _, 0, d, h, h1, h2 => by
    obtain ⟨o, σ', F1, F2, e1, e2, e3, e4⟩ := h
    have e : d0 = d := Option.some.inj h1
    subst e
    rw [R1_iff] at e2
    rcases e2 with ⟨q, _⟩ | ⟨v, q1, q2⟩
    · exact absurd q h2
    · subst q1
      exact ⟨v, [], F1, F2, by rw [e1]; rfl, e4, q2, fun G r => ⟨some v, σ', G, F2, e1, R1_of r, e3, rfl⟩⟩
  | d0 :: ρ, _, _, j + 1, d, h, h1, h2 => by
    obtain ⟨o, σ', F1, F2, e1, e2, e3, e4⟩ := h
    obtain ⟨v, A, B, C, q1, q2, q3, q4⟩ := RS_set' (W' := W) (d' := d') (i := i) (j := j) e3 (by simpa using h1) h2
    refine ⟨v, F1 ++ A, B, C, by rw [e1]; simpa using q1, by rw [e4, q2, List.append_assoc], q3, fun G r => ?_⟩
    exact ⟨o, σ', F1, A ++ (G ++ C), e1, e2, q4 G r, by rw [List.append_assoc]⟩
theorem Sta.fz {K : PySem.W.Frag} {W : Wd} {σ : L2.St} {ρ μ : List D} {F : List Addr} (i : Nat) (S : Sta K W σ ρ μ F) : ∃ W' F', W'.H = W.H ∧ Sta K W' σ (fzAt i ρ) μ F' ∧ Mv W W' F F' := by
  have none_ : ∃ W' F', W'.H = W.H ∧ Sta K W' σ ρ μ F' ∧ Mv W W' F F' := ⟨W, F, rfl, S, (Ext.refl S.ok).mvr⟩
  unfold fzAt
  split
  case h_2 => exact none_
  case h_1 ds heq =>
    by_cases hd : dataL ds = true
    case neg => rw [if_neg hd]; exact none_
    rw [if_pos hd]
    obtain ⟨⟨F1, F2, h1, h2, h3⟩, nd, own, ok⟩ := S
    have look : ∀ (W' : Wd), ∃ v A B C, σ[i]? = some (some v) ∧ F1 = A ++ (B ++ C) ∧ R K W (.ml ds) v B ∧ True := fun _ => by
      obtain ⟨v, A, B, C, q1, q2, q3, _⟩ := RS_set' (W' := W) (d' := .non) (i := i) (j := i) h1 heq (fun z => nomatch z)
      exact ⟨v, A, B, C, q1, q2, q3, trivial⟩
    obtain ⟨v, A, B, C, q1, q2, ⟨a, vs, F', rfl, hH, hR, hB⟩, _⟩ := look W
    have z := RL_data ds hd hR
    subst z
    subst hB
    have aF : a ∈ F := by
      rw [h3, q2]
      simp
    -- the world where a stands still
    have lt : Lt W ⟨W.H, fun b => W.Fr b ∨ b = a, W.m⟩ := ⟨fun _ _ z => z, fun _ _ z => ⟨z.1, Or.inl z.2⟩, fun _ _ _ _ z z' => ⟨z, Or.inl z'⟩, fun _ _ z => z⟩
    have same : ∀ (d : D) (v : V) (G : List Addr), R K W d v G → R K ⟨W.H, fun b => W.Fr b ∨ b = a, W.m⟩ d v G := fun d v G r => R_same lt rfl d r
    have h1' : RS K ⟨W.H, fun b => W.Fr b ∨ b = a, W.m⟩ ρ σ F1 := RS_same lt rfl h1
    obtain ⟨v', A', B', C', p1, p2, p3, p4⟩ := RS_set' (W' := W) (d' := .lst ds) (i := i) (j := i) h1' heq (fun z => nomatch z)
    rw [q1] at p1
    cases p1
    obtain ⟨a', vs', F'', e1, e2, e3, e4⟩ := p3
    cases e1
    have z2 := RL_data ds hd e3
    subst z2
    subst e4
    have r2 : R K ⟨W.H, fun b => W.Fr b ∨ b = a, W.m⟩ (.lst ds) (.ref a) [] := ⟨a, vs', rfl, Or.inl ⟨Or.inl e2, Or.inr rfl⟩, e3, rfl⟩
    have p5 := p4 [] r2
    have sub : (A' ++ ([] ++ C') ++ F2).Sublist F := by
      rw [h3, p2]
      exact List.Sublist.append (List.Sublist.append (List.Sublist.refl A') (List.Sublist.append (List.nil_sublist _) (List.Sublist.refl C'))) (List.Sublist.refl F2)
    have na : a ∉ A' ++ ([] ++ C') ++ F2 := fun z => by
      rw [h3, p2] at nd
      have pm : (A' ++ ([a] ++ C') ++ F2).Perm (a :: (A' ++ C' ++ F2)) := by
        rw [List.append_assoc, List.append_assoc, List.append_assoc]
        exact List.perm_middle
      have nd2 := pm.nodup_iff.mp nd
      rw [List.nil_append] at z
      exact (List.nodup_cons.mp nd2).1 z
    refine ⟨⟨W.H, fun b => W.Fr b ∨ b = a, W.m⟩, _, rfl, ⟨⟨_, F2, p5, RL_same lt rfl μ h2, rfl⟩, nd.sublist sub, fun b hb => ?_, fun b hb => ?_⟩, ⟨fun b o h _ => h, fun b h => .inl h, fun b h => ?_, fun b hb => .inl (sub.subset hb), ⟨[], (List.append_nil _).symm⟩⟩⟩
    · obtain ⟨w1, w2⟩ := own b (sub.subset hb)
      exact ⟨fun z => z.elim w1 fun z => na (z ▸ hb), w2⟩
    · rcases hb with hb | hb
      · exact ok b hb
      · show W.H b ≠ none
        rw [hb, hH]
        exact fun z => nomatch z
    · rcases h with h | h
      · exact .inl h
      · exact .inr (.inr (by rw [h]; exact aF))
theorem pss_fz (i : Nat) (h : PSS X ob Wx ss f) : PSS X ob Wx ss (fFz i f) := by
  obtain ⟨t1, p1, k1⟩ := h
  refine ⟨_, p1, fun E σ W ρ μ F S o ho h => ?_⟩
  obtain ⟨W', F', e, S', m⟩ := S.fz i
  have z := k1 E σ W' _ μ F' S' o ho (h.after m Kept.refl)
  rw [e] at z
  exact z
theorem ps1_fz (i : Nat) (h : PS1 X ob Wx st f) : PS1 X ob Wx st (fFz i f) := by
  obtain ⟨t1, p1, k1⟩ := h
  refine ⟨_, p1, fun E σ W ρ μ F S o ho h => ?_⟩
  obtain ⟨W', F', e, S', m⟩ := S.fz i
  have z := k1 E σ W' _ μ F' S' o ho (h.after m Kept.refl)
  rw [e] at z
  exact z
end
end Fw
/-! # more statements; a def as a whole -/
namespace Fw
open PySem PySem.Spec PyProof.Rows L2
open Evl (Ex)
/-! ### a change at one's own places -/
section
variable {K : PySem.W.Frag} {W W' : Wd}
mutual
theorem R_keep (e : Lt W W') : ∀ (d : D) {v : V} {F : List Addr}, (∀ b ∈ F, W'.H b = W.H b) → R K W d v F → R K W' d v F
  | .non, _, _, _, h => h
  | .bl _, _, _, _, h => h
  | .int _, _, _, _, h => h
  | .str _, _, _, _, h => h
  | .tup ds, _, _, k, h => by
    obtain ⟨a, vs, h1, h2, h3⟩ := h
    exact ⟨a, vs, h1, e.sqT h2, RL_keep e ds k h3⟩
  | .lst ds, _, _, k, h => by
    obtain ⟨a, vs, h1, h2, h3, h4⟩ := h
    exact ⟨a, vs, h1, h2.lt e, RL_keep e ds (fun b hb => nomatch hb) h3, h4⟩
  | .ml ds, _, _, k, h => by
    obtain ⟨a, vs, F', h1, h2, h3, h4⟩ := h
    subst h4
    exact ⟨a, vs, F', h1, by rw [k a (List.mem_cons_self ..)]; exact h2, RL_keep e ds (fun b hb => k b (List.mem_cons_of_mem _ hb)) h3, rfl⟩
  | .obj c ns ds, _, _, k, h => by
    obtain ⟨a, dx, vs, F', h1, h2, h3, h4, h5⟩ := h
    subst h5
    exact ⟨a, dx, vs, F', h1, by rw [k a (List.mem_cons_self ..)]; exact h2, h3, RL_keep e ds (fun b hb => k b (List.mem_cons_of_mem _ hb)) h4, rfl⟩
  | .fo c ns ds, _, _, k, h => by
    obtain ⟨a, dx, vs, h1, h2, h3, h4, h5, h6⟩ := h
    obtain ⟨q1, q2⟩ := e.fi _ _ _ _ h2 h3
    exact ⟨a, dx, vs, h1, q1, q2, h4, RL_keep e ds (fun b hb => nomatch hb) h5, h6⟩
  | .ref k', _, _, k, h => by
    obtain ⟨a, h1, h2, h3⟩ := h
    exact ⟨a, h1, e.m _ _ h2, h3⟩
  | .un, _, _, _, h => h.elim
theorem RL_keep (e : Lt W W') : ∀ (ds : List D) {vs : List V} {F : List Addr}, (∀ b ∈ F, W'.H b = W.H b) → RL K W ds vs F → RL K W' ds vs F
  | [], _, _, _, h => h
  | d :: ds, _, _, k, h => by
    obtain ⟨v, vs', F1, F2, h1, h2, h3, h4⟩ := h
    subst h4
    exact ⟨v, vs', F1, F2, h1, R_keep e d (fun b hb => k b (List.mem_append_left _ hb)) h2, RL_keep e ds (fun b hb => k b (List.mem_append_right _ hb)) h3, rfl⟩
end
theorem R1_keep (e : Lt W W') {d : D} {o : Option V} {F : List Addr} (k : ∀ b ∈ F, W'.H b = W.H b) (h : R1 K W d o F) : R1 K W' d o F := by
  rw [R1_iff] at h ⊢
  rcases h with h | ⟨v, h1, h2⟩
  · exact .inl h
  · exact .inr ⟨v, h1, R_keep e d k h2⟩
theorem RS_keep (e : Lt W W') : ∀ {ds : List D} {σ : List (Option V)} {F : List Addr}, (∀ b ∈ F, W'.H b = W.H b) → RS K W ds σ F → RS K W' ds σ F
  | [], _, _, _, h => h
  | d :: ds, _, _, k, h => by
    obtain ⟨o, σ', F1, F2, h1, h2, h3, h4⟩ := h
    subst h4
    exact ⟨o, σ', F1, F2, h1, R1_keep e (fun b hb => k b (List.mem_append_left _ hb)) h2, RS_keep e (fun b hb => k b (List.mem_append_right _ hb)) h3, rfl⟩
/-- one slot seen apart from the others -/
theorem RS_lens : ∀ {ρ : List D} {σ : List (Option V)} {F : List Addr} {j : Nat} {d : D}, RS K W ρ σ F → ρ[j]? = some d → d ≠ .un → ∃ v A B C, σ[j]? = some (some v) ∧ F = A ++ (B ++ C) ∧ R K W d v B ∧
    ∀ (W' : Wd) (d' : D) (G : List Addr), Lt W W' → (∀ b ∈ A ++ C, W'.H b = W.H b) → R K W' d' v G → RS K W' (ρ.set j d') σ (A ++ (G ++ C))
  | [], _, _, j, _, _, h, _ => by simp at h
  | d0 :: ρ, _, _, 0, d, h, h1, h2 => by
    obtain ⟨o, σ', F1, F2, e1, e2, e3, e4⟩ := h
    have e : d0 = d := Option.some.inj h1
    subst e
    rw [R1_iff] at e2
    rcases e2 with ⟨q, _⟩ | ⟨v, q1, q2⟩
    · exact absurd q h2
    · subst q1
      exact ⟨v, [], F1, F2, by rw [e1]; rfl, e4, q2, fun W' d' G lt k r => ⟨some v, σ', G, F2, e1, R1_of r, RS_keep lt (fun b hb => k b hb) e3, rfl⟩⟩
  | d0 :: ρ, _, _, j + 1, d, h, h1, h2 => by
    obtain ⟨o, σ', F1, F2, e1, e2, e3, e4⟩ := h
    obtain ⟨v, A, B, C, q1, q2, q3, q4⟩ := RS_lens (j := j) e3 (by simpa using h1) h2
    refine ⟨v, F1 ++ A, B, C, by rw [e1]; simpa using q1, by rw [e4, q2, List.append_assoc], q3, fun W' d' G lt k r => ?_⟩
    refine ⟨o, σ', F1, A ++ (G ++ C), e1, R1_keep lt (fun b hb => k b ?_) e2, q4 W' d' G lt (fun b hb => k b ?_) r, by rw [List.append_assoc]⟩
    · exact List.mem_append_left _ (List.mem_append_left _ hb)
    · rcases List.mem_append.mp hb with z | z
      · exact List.mem_append_left _ (List.mem_append_right _ z)
      · exact List.mem_append_right _ z
end
section
variable {X : Cx} {ob : List Nat} {Wx : WX} {st : Stmt} {rest ss ss' : List Stmt} {f g : FS} {e a : Expr} {q q' : FQ} {t : FB} {pos : Pos}
/-! ### if, return -/
def fIf (t : FB) (f g : FS) : FS := fun ρ μ => (t ρ μ).bind fun b => if b = true then f ρ μ else g ρ μ
theorem ps1_if (hc : PB X e t) (ha : PSS X ob Wx ss f) (hb : PSS X ob Wx ss' g) : PS1 X ob Wx (.If e ss ss' pos) (fIf t f g) := by
  obtain ⟨t0, p0, k0⟩ := hc
  obtain ⟨t1, p1, k1⟩ := ha
  obtain ⟨t2, p2, k2⟩ := hb
  refine ⟨_, ps_if p0 p1 p2, fun E σ W ρ μ F S o ho h => ?_⟩
  obtain ⟨b, e1, ho⟩ := bind_some ho
  refine k0 σ W ρ μ F S b e1 _ fun W1 x1 => ?_
  cases b with
  | true =>
    rw [if_pos rfl] at ho ⊢
    exact k1 E σ W1 ρ μ F (S.ext x1) o ho (h.after x1.mvr Kept.refl)
  | false =>
    rw [if_neg Bool.false_ne_true] at ho ⊢
    exact k2 E σ W1 ρ μ F (S.ext x1) o ho (h.after x1.mvr Kept.refl)
def fRet (q : FQ) : FS := fun ρ μ => (q ρ μ).bind fun d => if data d = true then some (.rt d ρ μ) else none
theorem ps1_ret (he : PQ X e q) : PS1 X ob Wx (.Return (some e) pos) (fRet q) := by
  obtain ⟨te, p, k⟩ := he
  refine ⟨_, ps_ret p, fun E σ W ρ μ F S o ho h => ?_⟩
  obtain ⟨d, e1, ho⟩ := bind_some ho
  by_cases hd : data d = true
  case neg => rw [if_neg hd] at ho; cases ho
  rw [if_pos hd] at ho
  cases ho
  refine k σ W ρ μ F S d e1 _ fun v W1 G x1 r1 => ?_
  have z := R_data d hd r1
  subst z
  exact h v σ W1 [] F r1 (S.ext x1) S.nd (fun _ hb => nomatch hb) x1.mvr Kept.refl
def fRetN : FS := fun ρ μ => some (.rt .non ρ μ)
theorem ps1_retN : PS1 X ob Wx (.Return none pos) fRetN := ⟨_, ps_retN, fun E σ W ρ μ F S o ho h => by
  cases ho
  exact h .non σ W [] F ⟨rfl, rfl⟩ S S.nd (fun _ hb => nomatch hb) (Ext.refl S.ok).mvr Kept.refl⟩
/-! ### for -/
def forL (g : D → List D → Option (List D)) (b : FS) : List D → List D → List D → Option SO
  | ρ, μ, [] => some (.nx ρ μ)
  | ρ, μ, d :: ds => (g d ρ).bind fun ρ1 => (b ρ1 μ).bind fun o => match o with
    | .nx ρ2 μ2 => forL g b ρ2 μ2 ds
    | .ct ρ2 μ2 => forL g b ρ2 μ2 ds
    | .bk ρ2 μ2 => some (.nx ρ2 μ2)
    | o => some o
def fFor (it : FA) (g : D → List D → Option (List D)) (b : FS) : FS := fun ρ μ => (it ρ μ).bind fun ds => forL g b ρ μ ds
theorem wipe_other : ∀ {vs : List Nat} {σ : L2.St} {i : Nat}, i ∉ vs → (wipe σ vs)[i]? = σ[i]?
  | [], _, _, _ => rfl
  | v :: vs, σ, i, h => by
    show ((wipe σ vs).set v none)[i]? = σ[i]?
    rw [List.getElem?_set_ne (fun z => h (by rw [z]; exact List.mem_cons_self ..)), wipe_other fun z => h (List.mem_cons_of_mem _ z)]
theorem Kept.of_wipe {vs : List Nat} {σ σ' : L2.St} (h : wipe σ' vs = wipe σ vs) (d : ∀ i ∈ ob, i ∉ vs) : Kept ob σ σ' := fun i hi => by
  rw [← wipe_other (d i hi) (σ := σ'), h, wipe_other (d i hi)]
theorem ps1_for {tg iter : Expr} {body : List Stmt} {vs : List Nat} {it : FA} {gt : D → List D → Option (List D)} {b : FS} (hp : PassesOwn (model X.prog X.w) X.A X.env X.xe) (hc : X.calm = true) (hi : PIF X tg iter it) (hg : PGD X tg vs gt) (hb : PSS X ob Wx body b)
    (hs : ∀ x, foldedSetIterable iter X.env x = pure x := by intro _; rfl) (hv : ∀ i ∈ ob, i ∉ vs := by decide) : PS1 X ob Wx (.For tg iter body [] pos) (fFor it gt b) := by
  obtain ⟨wi, p0, k0⟩ := hi
  obtain ⟨tgt, p1, k1⟩ := hg
  obtain ⟨tb, p2, k2⟩ := hb
  refine ⟨_, ps_for hp hc p0 p1 p2 hs, fun E σ W ρ μ F S o ho h => ?_⟩
  obtain ⟨ds, e1, ho⟩ := bind_some ho
  refine k0 σ W ρ μ F S ds e1 _ fun J W1 x1 itd => ?_
  have S1 := S.ext x1
  refine ⟨fun i m σ2 H => m = ds.length - i ∧ i ≤ ds.length ∧ ∃ (W2 : Wd) (ρ2 μ2 : List D) (F2 : List Addr), W2.H = H ∧ Sta X.K W2 σ2 ρ2 μ2 F2 ∧ Mv W1 W2 F F2 ∧ Kept ob σ σ2 ∧ forL gt b ρ2 μ2 (ds.drop i) = some o, ⟨_, rfl, Nat.zero_le _, W1, ρ, μ, F, rfl, S1, (Ext.refl x1.ok).mvr, Kept.refl, ho⟩, ?_⟩
  rintro i m σ2 H ⟨rfl, hil, W2, ρ2, μ2, F2, rfl, S2, mv2, kp2, ho2⟩
  have lt2 := mv2.lt S1.own
  have h2 := h.after (x1.mvr.trans mv2) kp2
  by_cases hlt : i < ds.length
  · refine .inr ⟨itd.go i W2 lt2 hlt, ?_⟩
    have ed : ds.drop i = ds[i] :: ds.drop (i + 1) := List.drop_eq_getElem_cons hlt
    rw [ed] at ho2
    obtain ⟨ρ', e2, ho2⟩ := bind_some (show (gt ds[i] ρ2).bind _ = some o from ho2)
    obtain ⟨o1, e3, ho2⟩ := bind_some ho2
    refine ⟨fun σ3 H3 => i + 1 ≤ ds.length ∧ ∃ (W2 : Wd) (ρ2 μ2 : List D) (F2 : List Addr), W2.H = H3 ∧ Sta X.K W2 σ3 ρ2 μ2 F2 ∧ Mv W1 W2 F F2 ∧ Kept ob σ σ3 ∧ forL gt b ρ2 μ2 (ds.drop (i + 1)) = some o,
      fun σ3 H3 n => ⟨ds.length - (i + 1), by omega, rfl, n⟩, fun x H' hy => ?_⟩
    obtain ⟨W3, d, hW3, hd3, x3, r3⟩ := itd.yl i W2 x H' lt2 S2.ok hlt hy
    subst hW3
    rw [List.getElem?_eq_getElem hlt] at hd3
    cases hd3
    refine k1 σ2 W3 ρ2 μ2 F2 ds[i] x (S2.ext x3) r3 ρ' e2 _ fun σ3 F3 S3 sub hw => ?_
    have kp3 : Kept ob σ2 σ3 := Kept.of_wipe hw hv
    have mv3 : Mv W2 W3 F2 F3 := x3.mv sub
    refine k2 _ σ3 W3 ρ' μ2 F3 S3 o1 e3 ?_
    cases o1 with
    | nx ρ4 μ4 => exact fun σ4 W4 F4 S4 mv4 kp4 => ⟨by omega, W4, ρ4, μ4, F4, rfl, S4, (mv2.trans mv3).trans mv4, (kp2.trans kp3).trans kp4, ho2⟩
    | ct ρ4 μ4 => exact fun σ4 W4 F4 S4 mv4 kp4 => ⟨by omega, W4, ρ4, μ4, F4, rfl, S4, (mv2.trans mv3).trans mv4, (kp2.trans kp3).trans kp4, ho2⟩
    | bk ρ4 μ4 =>
      cases ho2
      exact fun σ4 W4 F4 S4 mv4 kp4 => h2 σ4 W4 F4 S4 (mv3.trans mv4) (kp3.trans kp4)
    | rt d ρ4 μ4 =>
      cases ho2
      exact fun v σ4 W4 G F4 r S4 nd own mv4 kp4 => h2 v σ4 W4 G F4 r S4 nd own (mv3.trans mv4) (kp3.trans kp4)
    | ex c fs ρ4 μ4 =>
      cases ho2
      exact fun dx σ4 W4 F4 r S4 mv4 kp4 => h2 dx σ4 W4 F4 r S4 (mv3.trans mv4) (kp3.trans kp4)
  · refine .inl ⟨itd.st i W2 lt2 (by omega), ?_⟩
    have e : ds.drop i = [] := List.drop_eq_nil_of_le (by omega)
    rw [e] at ho2
    cases ho2
    exact h2 σ2 W2 F2 S2 (Ext.refl S2.ok).mvr Kept.refl
/-! ### while -/
def whL (t : FB) (b : FS) : Nat → List D → List D → Option SO
  | 0, _, _ => none
  | n + 1, ρ, μ => (t ρ μ).bind fun c => if c = true then (b ρ μ).bind fun o => match o with
    | .nx ρ2 μ2 => whL t b n ρ2 μ2
    | .ct ρ2 μ2 => whL t b n ρ2 μ2
    | .bk ρ2 μ2 => some (.nx ρ2 μ2)
    | o => some o
    else some (.nx ρ μ)
def fWh (fuel : List D → List D → Nat) (t : FB) (b : FS) : FS := fun ρ μ => whL t b (fuel ρ μ) ρ μ
theorem ps1_while {c : Expr} {body : List Stmt} {b : FS} (fuel : List D → List D → Nat) (hp : PassesOwn (model X.prog X.w) X.A X.env X.xe) (hc : PB X c t) (hb : PSS X ob Wx body b) : PS1 X ob Wx (.While c body [] pos) (fWh fuel t b) := by
  obtain ⟨tc, p1, k1⟩ := hc
  obtain ⟨tb, p2, k2⟩ := hb
  refine ⟨_, ps_while hp p1 p2, fun E σ W ρ μ F S o ho h => ?_⟩
  refine ⟨fun m σ2 H => ∃ (W2 : Wd) (ρ2 μ2 : List D) (F2 : List Addr), W2.H = H ∧ Sta X.K W2 σ2 ρ2 μ2 F2 ∧ Mv W W2 F F2 ∧ Kept ob σ σ2 ∧ whL t b m ρ2 μ2 = some o, ⟨fuel ρ μ, W, ρ, μ, F, rfl, S, (Ext.refl S.ok).mvr, Kept.refl, ho⟩, ?_⟩
  rintro m σ2 H ⟨W2, ρ2, μ2, F2, rfl, S2, mv2, kp2, ho2⟩
  have h2 := h.after mv2 kp2
  cases m with
  | zero => cases ho2
  | succ m =>
    obtain ⟨c1, e1, ho2⟩ := bind_some (show (t ρ2 μ2).bind _ = some o from ho2)
    refine k1 σ2 W2 ρ2 μ2 F2 S2 c1 e1 _ fun W3 x3 => ?_
    have S3 := S2.ext x3
    cases c1 with
    | true =>
      rw [if_pos rfl] at ho2 ⊢
      obtain ⟨o1, e2, ho2⟩ := bind_some ho2
      refine ⟨fun σ3 H3 => ∃ (W2 : Wd) (ρ2 μ2 : List D) (F2 : List Addr), W2.H = H3 ∧ Sta X.K W2 σ3 ρ2 μ2 F2 ∧ Mv W W2 F F2 ∧ Kept ob σ σ3 ∧ whL t b m ρ2 μ2 = some o, fun σ3 H3 n => ⟨m, Nat.lt_succ_self m, n⟩, ?_⟩
      refine k2 _ σ2 W3 ρ2 μ2 F2 S3 o1 e2 ?_
      cases o1 with
      | nx ρ4 μ4 => exact fun σ4 W4 F4 S4 mv4 kp4 => ⟨W4, ρ4, μ4, F4, rfl, S4, (mv2.trans x3.mvr).trans mv4, kp2.trans kp4, ho2⟩
      | ct ρ4 μ4 => exact fun σ4 W4 F4 S4 mv4 kp4 => ⟨W4, ρ4, μ4, F4, rfl, S4, (mv2.trans x3.mvr).trans mv4, kp2.trans kp4, ho2⟩
      | bk ρ4 μ4 =>
        cases ho2
        exact fun σ4 W4 F4 S4 mv4 kp4 => h2 σ4 W4 F4 S4 (x3.mvr.trans mv4) kp4
      | rt d ρ4 μ4 =>
        cases ho2
        exact fun v σ4 W4 G F4 r S4 nd own mv4 kp4 => h2 v σ4 W4 G F4 r S4 nd own (x3.mvr.trans mv4) kp4
      | ex c fs ρ4 μ4 =>
        cases ho2
        exact fun dx σ4 W4 F4 r S4 mv4 kp4 => h2 dx σ4 W4 F4 r S4 (x3.mvr.trans mv4) kp4
    | false =>
      rw [if_neg Bool.false_ne_true] at ho2 ⊢
      cases ho2
      exact h2 σ2 W3 F2 S3 x3.mvr Kept.refl
/-! ### a, b = e -/
def fSetT (gt : D → List D → Option (List D)) (q : FQ) : FS := fun ρ μ => (q ρ μ).bind fun d => if data d = true then (gt d ρ).map fun ρ' => .nx ρ' μ else none
theorem ps1_setT {tg : Expr} {vs : List Nat} {gt : D → List D → Option (List D)} (he : PQ X e q) (hg : PGD X tg vs gt) (hs : swapsWithSole [tg] e pos.line X.env = pure false := by rfl) (hw : swappedStores [tg] e X.env = pure none := by rfl)
    (h1 : (assignEach [tg] X.env).map (·.2) = [assign tg X.env] := by rfl) (hv : ∀ i ∈ ob, i ∉ vs := by decide) : PS1 X ob Wx (.Assign [tg] e pos) (fSetT gt q) := by
  obtain ⟨te, p, k⟩ := he
  obtain ⟨tgt, p1, k1⟩ := hg
  refine ⟨_, ps_asg p p1 hs hw h1, fun E σ W ρ μ F S o ho h => ?_⟩
  obtain ⟨d, e1, ho⟩ := bind_some ho
  by_cases hd : data d = true
  case neg => rw [if_neg hd] at ho; cases ho
  rw [if_pos hd] at ho
  obtain ⟨ρ', e2, z⟩ := map_some ho
  subst z
  refine k σ W ρ μ F S d e1 _ fun v W1 G x1 r1 => ?_
  have z := R_data d hd r1
  subst z
  exact k1 σ W1 ρ μ F d v (S.ext x1) r1 ρ' e2 _ fun σ' F' S' sub hw => h σ' W1 F' S' (x1.mv sub) (Kept.of_wipe hw hv)
/-! ### x += e -/
def fAug (i : Nat) (o : D → D → Option D) (q : FQ) : FS := fun ρ μ => (qVar i ρ μ).bind fun x => (q ρ μ).bind fun y => (o x y).bind fun d => if data x = true ∧ data d = true then some (.nx (ρ.set i d) μ) else none
theorem ps1_aug {i : Nat} {x : Str} {pos' : Pos} {op : Operator} {o : D → D → Option D} (hN : X.N.Nodup) (hi : X.N[i]? = some x) (hx : Loc X.env.scope x) (ho : OpD X (inplaceOp op) o) (he : PQ X e q) (hf : X.fn x = true ∨ X.env.scope.names.lookup x = some .local := by first | exact .inl rfl | exact .inr rfl) (hob : i ∉ ob := by decide) :
    PS1 X ob Wx (.AugAssign (.Name x pos') op e pos) (fAug i o q) := by
  obtain ⟨r, hr, kr⟩ := ho
  obtain ⟨te, p, k⟩ := he
  refine ⟨_, ps_aug hN hi hx p (ti := r) hr hf, fun E σ W ρ μ F S so hso h => ?_⟩
  obtain ⟨d0, e1, hso⟩ := bind_some hso
  obtain ⟨d1, e2, hso⟩ := bind_some hso
  obtain ⟨d, e3, hso⟩ := bind_some hso
  by_cases hd : data d0 = true ∧ data d = true
  case neg => rw [if_neg hd] at hso; cases hso
  rw [if_pos hd] at hso
  cases hso
  have hr0 : ρ[i]? = some d0 ∧ d0 ≠ .un := by
    unfold qVar at e1
    cases e : ρ[i]? with
    | none => rw [e] at e1; cases e1
    | some dd =>
      rw [e] at e1
      cases dd <;> first
        | (cases e1; done)
        | (have z := Option.some.inj e1; subst z; exact ⟨rfl, fun z => nomatch z⟩)
  obtain ⟨F1, F2, h1, h2, h3⟩ := S.ex
  obtain ⟨v0, G0, s1, s2⟩ := RS_get h1 hr0.1 hr0.2
  refine ⟨v0, s1, k σ W ρ μ F S d1 e2 _ fun v1 W1 G1 x1 r1 => ?_⟩
  refine kr W1 d0 d1 v0 v1 G0 G1 x1.ok (R_ext x1 d0 s2) r1 d e3 _ fun v W2 G x2 r2 => ?_
  have z := R_data d hd.2 r2
  subst z
  have x12 := x1.trans x2
  obtain ⟨F', S', sub⟩ := (S.ext x12).set (i := i) (R1_of r2)
  exact h _ W2 F' S' (x12.mv sub) (Kept.set hob)
def dIAdd : D → D → Option D
  | .int i, .int j => some (.int (i + j))
  | .str a, .str b => if a.length + b.length ≤ LIM then some (.str (a ++ b)) else none
  | _, _ => none
theorem opd_iadd : OpD X (inplaceOp .Add) dIAdd := by
  refine ⟨_, (iop_add (X := X)).or iop_add_str, fun W x y u v G1 G2 ok r1 r2 d hd Q q => ?_⟩
  cases x with
  | int i =>
    cases y with
    | int j =>
      cases hd
      obtain ⟨rfl, _⟩ := r1
      obtain ⟨rfl, _⟩ := r2
      exact .inl ⟨i, j, rfl, rfl, q _ W [] (Ext.refl ok) ⟨rfl, rfl⟩⟩
    | _ => cases hd
  | str a =>
    cases y with
    | str b =>
      obtain ⟨rfl, _⟩ := r1
      obtain ⟨rfl, _⟩ := r2
      have hd2 : (if a.length + b.length ≤ LIM then some (D.str (a ++ b)) else none) = some d := hd
      by_cases hl : a.length + b.length ≤ LIM
      · rw [if_pos hl] at hd2
        cases hd2
        exact .inr ⟨tr a, tr b, rfl, rfl, by rw [tr_length, tr_length]; exact lim_ok hl, q _ W [] (Ext.refl ok) ⟨by rw [tr_append], rfl⟩⟩
      · rw [if_neg hl] at hd2
        cases hd2
    | _ => cases hd
  | _ => cases y <;> cases hd
theorem opd_isub : OpD X (inplaceOp .Sub) dSub := opd_int0 iop_sub fun _ _ _ => ⟨rfl, rfl⟩
end
/-! ### one slot changed in place -/
theorem Sta.lens {K : PySem.W.Frag} {W : Wd} {σ : L2.St} {ρ μ : List D} {F : List Addr} {i : Nat} {d : D} (S : Sta K W σ ρ μ F) (hi : ρ[i]? = some d) (hne : d ≠ .un) : ∃ v B, σ[i]? = some (some v) ∧ R K W d v B ∧ (∀ a ∈ B, a ∈ F) ∧ B.Nodup ∧
    ∀ (W' : Wd) (d' : D) (G : List Addr), WOk W' → W'.m = W.m → Mv W W' B G → R K W' d' v G → G.Nodup → (∀ a ∈ G, Own W' a) → ∃ F', Sta K W' σ (ρ.set i d') μ F' ∧ Mv W W' F F' := by
  obtain ⟨⟨F1, F2, h1, h2, h3⟩, nd, own, ok⟩ := S
  obtain ⟨v, A, B, C, q1, q2, q3, q4⟩ := RS_lens h1 hi hne
  subst q2
  subst h3
  have pm : ∀ B : List Addr, (A ++ (B ++ C) ++ F2).Perm (B ++ (A ++ C ++ F2)) := fun B => by
    rw [List.append_assoc A, List.append_assoc B, List.append_assoc A]
    refine (List.perm_append_comm_assoc A B (C ++ F2)).trans ?_
    exact List.Perm.refl _
  have nd2 := (pm B).nodup_iff.mp nd
  have ndB := List.nodup_append.mp nd2
  have inB : ∀ a ∈ B, a ∈ A ++ (B ++ C) ++ F2 := fun a ha => (pm B).mem_iff.mpr (List.mem_append_left _ ha)
  have inO : ∀ a ∈ A ++ C ++ F2, a ∈ A ++ (B ++ C) ++ F2 ∧ a ∉ B := fun a ha => ⟨(pm B).mem_iff.mpr (List.mem_append_right _ ha), fun z => ndB.2.2 a z a ha rfl⟩
  refine ⟨v, B, q1, q3, inB, ndB.1, fun W' d' G ok' hm mv r ndG ownG => ?_⟩
  have lt := mv.lt fun a ha => own a (inB a ha)
  have stay : ∀ a ∈ A ++ C ++ F2, W'.H a = W.H a := fun a ha => by
    obtain ⟨h4, h5⟩ := inO a ha
    obtain ⟨_, w⟩ := own a h4
    rcases w with ⟨xs, w⟩ | ⟨Cc, dx, fs, w⟩
    · rw [w]
      exact mv.keep a _ w h5
    · rw [w]
      exact mv.keep a _ w h5
  have freshG : ∀ a ∈ G, a ∉ A ++ C ++ F2 := fun a ha z => by
    obtain ⟨h4, h5⟩ := inO a z
    rcases mv.own a ha with q | q
    · exact h5 q
    · obtain ⟨_, w⟩ := own a h4
      rcases w with ⟨xs, w⟩ | ⟨Cc, dx, fs, w⟩ <;> rw [q] at w <;> cases w
  refine ⟨A ++ (G ++ C) ++ F2, ⟨⟨_, F2, q4 W' d' G lt (fun b hb => stay b (List.mem_append_left _ hb)) r, by rw [hm]; exact RL_keep lt μ (fun b hb => stay b (List.mem_append_right _ hb)) h2, rfl⟩, ?_, fun a ha => ?_, ok'⟩, ⟨fun a o e h => mv.keep a o e fun z => h (inB a z), mv.fr, fun a h => ?_, fun a ha => ?_, mv.m⟩⟩
  · refine (pm G).nodup_iff.mpr (List.nodup_append.mpr ⟨ndG, ndB.2.1, fun a ha b hb z => ?_⟩)
    subst z
    exact freshG a ha hb
  · rcases List.mem_append.mp ((pm G).mem_iff.mp ha) with z | z
    · exact ownG a z
    · obtain ⟨h4, h5⟩ := inO a z
      obtain ⟨w1, w2⟩ := own a h4
      refine ⟨fun z' => ?_, by rw [stay a z]; exact w2⟩
      rcases mv.nf a z' with q | q | q
      · exact w1 q
      · rcases w2 with ⟨xs, w⟩ | ⟨Cc, dx, fs, w⟩ <;> rw [q] at w <;> cases w
      · exact h5 q
  · rcases mv.nf a h with q | q | q
    · exact .inl q
    · exact .inr (.inl q)
    · exact .inr (.inr (inB a q))
  · rcases List.mem_append.mp ((pm G).mem_iff.mp ha) with z | z
    · rcases mv.own a z with q | q
      · exact .inl (inB a q)
      · exact .inr q
    · exact .inl (inO a z).1
section
variable {X : Cx} {ob : List Nat} {Wx : WX} {e : Expr} {q : FQ} {pos : Pos}
/-! ### x.append(e), x the name of an own list -/
def fApp (i : Nat) (q : FQ) : FS := fun ρ μ => match ρ[i]? with
  | some (.ml ds) => (q ρ μ).bind fun d => if data d = true ∧ ds.length ≤ LIM then some (.nx (ρ.set i (.ml (ds ++ [d]))) μ) else none
  | _ => none
theorem ps1_app {i : Nat} {x : Str} {px apos cpos : Pos} (hcall : ∀ te : TE, PE X e te → PE X (.Call (.Attribute (.Name x px) "append" apos) [e] [] cpos) (tBM X.K "list" rAppend (tVar i) (tCons te tNil))) (he : PQ X e q)
    (hsw : swapsWith (.Call (.Attribute (.Name x px) "append" apos) [e] [] cpos) none pos.line X.env = pure false := by rfl) : PS1 X ob Wx (.Expr (.Call (.Attribute (.Name x px) "append" apos) [e] [] cpos) pos) (fApp i q) := by
  obtain ⟨te, p, k⟩ := he
  refine ⟨_, ps_expr (hcall te p) hsw, fun E σ W ρ μ F S o ho h => ?_⟩
  unfold fApp at ho
  split at ho
  case h_2 => cases ho
  case h_1 ds heq =>
    obtain ⟨d, e1, ho⟩ := bind_some ho
    by_cases hd : data d = true ∧ ds.length ≤ LIM
    case neg => rw [if_neg hd] at ho; cases ho
    rw [if_pos hd] at ho
    cases ho
    obtain ⟨v, B, q1, ⟨a, vs, F', rfl, h2, h3, hB⟩, _⟩ := S.lens heq (fun z => nomatch z)
    refine ⟨.ref a, q1, .inl ⟨rfl, vs, Evl.sq_of h2⟩, ?_⟩
    refine k σ W ρ μ F S d e1 _ fun y W1 G x1 r1 => ?_
    have z := R_data d hd.1 r1
    subst z
    have S1 := S.ext x1
    obtain ⟨v, B, q2, ⟨a2, vs2, F2, e2, h4, h5, hB2⟩, inF, ndB, next⟩ := S1.lens heq (fun z => nomatch z)
    rw [q1] at q2
    cases q2
    cases e2
    rw [x1.ex _ _ h2] at h4
    cases h4
    have ha : Own W1 a := S1.own a (inF a (by rw [hB2]; exact List.mem_cons_self ..))
    have lt : Lt W1 ⟨upd W1.H a (.lst (vs ++ [y])), W1.Fr, W1.m⟩ := Lt.upd_lst (x1.ex _ _ h2) ha.1
    have nd2 := List.nodup_cons.mp (hB2 ▸ ndB)
    obtain ⟨F3, S3, mv3⟩ := next ⟨upd W1.H a (.lst (vs ++ [y])), W1.Fr, W1.m⟩ (.ml (ds ++ [d])) (a :: F2) (fun b hb => by
        show upd W1.H a _ b ≠ none
        by_cases z : b = a
        · rw [z, upd_same]
          exact fun z => nomatch z
        · rw [upd_ne z]
          exact x1.ok b hb) rfl
      ⟨fun b o hb nb => by
        show upd W1.H a _ b = some o
        rw [upd_ne fun z => nb (by rw [z, hB2]; exact List.mem_cons_self ..)]
        exact hb, fun _ h => h, fun _ h => .inl h, fun b hb => .inl (by rw [hB2]; exact hb), ⟨[], (List.append_nil _).symm⟩⟩
      ⟨a, vs ++ [y], F2, rfl, upd_same, by
        have k1 : RL X.K ⟨upd W1.H a (.lst (vs ++ [y])), W1.Fr, W1.m⟩ ds vs F2 := RL_keep lt ds (fun b hb => by
          show upd W1.H a _ b = W1.H b
          exact upd_ne fun z => nd2.1 (z ▸ hb)) h5
        have k2 : RL X.K ⟨upd W1.H a (.lst (vs ++ [y])), W1.Fr, W1.m⟩ [d] [y] [] := ⟨y, [], [], [], rfl, R_lt lt d r1, ⟨rfl, rfl⟩, rfl⟩
        have z := RL_app k1 k2
        rw [List.append_nil] at z
        exact z, rfl⟩ (hB2 ▸ ndB) (fun b hb => by
        by_cases z : b = a
        · subst z
          exact ⟨ha.1, .inl ⟨_, upd_same⟩⟩
        · obtain ⟨w1, w2⟩ := S1.own b (inF b (by rw [hB2]; exact hb))
          refine ⟨w1, ?_⟩
          show (∃ xs, upd W1.H a _ b = _) ∨ ∃ C dx fs, upd W1.H a _ b = _
          rw [upd_ne z]
          exact w2)
    have lv : vs.length = ds.length := RL_len h3
    refine ⟨a, vs, y, rfl, rfl, x1.ex _ _ h2, lim_lt (by omega), ?_⟩
    exact h σ _ F3 S3 (x1.mvr.trans mv3) Kept.refl
end
/-! ### a quiet def -/
def runQ (N n : Nat) (f : FS) (ds : List D) : Option D := match f (ds ++ List.replicate (N - n) .un) [] with
  | some (.rt d _ _) => if data d = true then some d else none
  | some (.nx _ _) => some .non
  | _ => none
theorem RS_start {K : PySem.W.Frag} {W : Wd} : ∀ {ds : List D} {vs : List V} (m : Nat), RL K W ds vs [] → RS K W (ds ++ List.replicate m .un) (vs.map some ++ List.replicate m none) []
  | [], vs, m, r => by
    rw [r.1]
    show RS K W (List.replicate m .un) (List.replicate m none) []
    induction m with
    | zero => exact ⟨rfl, rfl⟩
    | succ m ih => exact ⟨none, List.replicate m none, [], [], rfl, rfl, ih, rfl⟩
  | d :: ds, vs, m, r => by
    obtain ⟨v, vs', F1, F2, h1, h2, h3, h4⟩ := r
    obtain ⟨rfl, rfl⟩ := List.append_eq_nil_iff.mp h4.symm
    rw [h1]
    exact ⟨some v, vs'.map some ++ List.replicate m none, [], [], rfl, R1_of h2, RS_start m h3, rfl⟩
theorem Mv.nilQ {W W' : Wd} {G : List Addr} (m : Mv W W' [] G) (ok : WOk W') (hm : W.m = []) : Ext W ⟨W'.H, W'.Fr, []⟩ :=
  ⟨fun a o e => m.keep a o e (fun z => nomatch z), m.fr, fun a e => (m.nf a e).elim .inl (fun z => z.elim .inr (fun z => nomatch z)), hm.symm, ok⟩
theorem fnq_def {P : Program} {w : World} {K : PySem.W.Frag} {mg : Str → Option Value} {base : Heap} {nm qual : Str} {params : Arguments} {body : List Stmt} {scope : Scope} {dvs0 : List V} {kws : List (Str × V)} {fa : Addr} {fd : FuncData} {N ps : List Str} {k n : Nat} {f : FS} {run : List D → Option D}
    (F : FunD K nm qual params body scope dvs0 kws fa fd) (Sc : FnScope N ps scope) (hn : ps.length = n)
    (h : ∀ (cdv : Value) (A : Around) (outer : List Env) (s : Shared) (H : Hp) (E : XK), Room k (A.deeper (envOfC qual scope s.heap.objs.size fa cdv)) → PSS (cxOf (L2N.CX P w) P w K mg base N qual scope fa cdv A outer s H E) [] (fun _ _ _ _ => False) body f)
    (hr : ∀ ds d, run ds = some d → runQ N.length n f ds = some d) : FnOk P w K mg base (L2N.CX P w) (k + 1) fa fd ps (spQ K n run) := by
  refine F.ok Sc (fun vs H Q E q => ?_) (fun cdv A outer s H vs Q E hroom q => ?_)
  · obtain ⟨W, ds, d, _, _, _, r, _, hl, _⟩ := q
    rw [RL_len r, hl, hn]
  · obtain ⟨W, ds, d, hH, hWm, ok, r, hdat, hl, hrun, hdd2, q⟩ := q
    subst hH
    obtain ⟨ts, p, kk⟩ := h cdv A outer s W.H E hroom
    refine ⟨ts, p, ?_⟩
    have lv : vs.length = n := by rw [RL_len r, hl]
    have e0 : L2.start N vs = vs.map some ++ List.replicate (N.length - n) none := by
      unfold L2.start
      rw [lv]
    rw [e0]
    have S : Sta K W (vs.map some ++ List.replicate (N.length - n) none) (ds ++ List.replicate (N.length - n) .un) [] [] := ⟨⟨[], [], RS_start _ r, by rw [hWm]; exact ⟨rfl, rfl⟩, rfl⟩, List.nodup_nil, (fun _ h => nomatch h), ok⟩
    have hq := hr ds d hrun
    unfold runQ at hq
    have noM : ∀ {σ' : L2.St} {W' : Wd} {ρ' μ' : List D} {F' : List Addr}, Sta K W' σ' ρ' μ' F' → True := fun _ => trivial
    cases e1 : f (ds ++ List.replicate (N.length - n) .un) [] with
    | none => rw [e1] at hq; cases hq
    | some o =>
      rw [e1] at hq
      refine kk _ _ W _ [] [] S o e1 ?_
      cases o with
      | nx ρ' μ' =>
        cases hq
        intro σ' W' F' S' mv kp
        refine q .non ⟨W'.H, W'.Fr, []⟩ ?_ ⟨rfl, rfl⟩
        exact mv.nilQ S'.ok hWm
      | rt d' ρ' μ' =>
        have hq2 : (if data d' = true then some d' else none) = some d := hq
        by_cases hd' : data d' = true
        case neg => rw [if_neg hd'] at hq2; cases hq2
        rw [if_pos hd'] at hq2
        cases hq2
        intro v σ' W' G F' rv S' nd own mv kp
        have z := R_data d hd' rv
        subst z
        refine q v ⟨W'.H, W'.Fr, []⟩ ?_ (R_m d hd' rv)
        exact mv.nilQ S'.ok hWm
      | _ => cases hq
theorem okq_def {P : Program} {w : World} {K : PySem.W.Frag} {mg : Str → Option Value} {base : Heap} {x nm qual : Str} {params : Arguments} {body : List Stmt} {scope : Scope} {dvs0 : List V} {kws : List (Str × V)} {fa : Addr} {fd : FuncData} {N ps : List Str} {k n : Nat} {dd : List D} {dvs : List V} {us : List Value} {f : FS} {run : List D → Option D}
    (F : FunD K nm qual params body scope dvs0 kws fa fd) (Sc : FnScope N ps scope) (hn : ps.length = n) (hb : Binds K fd ps us) (hv : Vals dvs us) (hdd : ∀ W : Wd, RL K W dd dvs []) (hdt : dataL dd = true) (hm : mg x = some (.ref fa))
    (h : ∀ (cdv : Value) (A : Around) (outer : List Env) (s : Shared) (H : Hp) (E : XK), Room k (A.deeper (envOfC qual scope s.heap.objs.size fa cdv)) → PSS (cxOf (L2N.CX P w) P w K mg base N qual scope fa cdv A outer s H E) [] (fun _ _ _ _ => False) body f)
    (hr : ∀ ds d, run ds = some d → runQ N.length n f ds = some d) : OkQ P w K mg base x (k + 1) n dd run :=
  ⟨fa, fd, ps, dvs, us, fnq_def F Sc hn h hr, hb, hv, hdd, hdt, hm, F.kp⟩
/-! ### what the module's names stand for -/
theorem gld_str {K : PySem.W.Frag} {mg : Str → Option Value} {x : Str} {s : String} (h : ∃ t, mg x = some (.str (Str.ofString s) t)) : GlD K mg x (.str (ofS s)) := by
  obtain ⟨t, h⟩ := h
  exact ⟨.str (Str.ofString s), _, h, ⟨t, rfl⟩, fun W => ⟨congrArg V.str (tr_ofS s), rfl⟩⟩
/-- a written value of the top -/
def dvD : He.Dv → Option D
  | .int i => some (.int i)
  | .bl b => some (.bl b)
  | .non => some .non
  | _ => none
theorem gld_tup {K : PySem.W.Frag} {mg : Str → Option Value} {x : Str} {vs : List He.Dv} {ds : List D} (h : mg x = some (.ref (He.ga K x))) (ht : He.tupB K x vs = true) (hr : ∀ W : Wd, RL K W ds (vs.map (He.Dv.v K)) []) : GlD K mg x (.tup ds) :=
  ⟨.ref (He.ga K x), _, h, rfl, fun W => ⟨_, _, rfl, He.tupB_ok ht W.H, hr W⟩⟩
theorem rl_int {K : PySem.W.Frag} {W : Wd} {i : Int} {ds : List D} {vs : List V} (h : RL K W ds vs []) : RL K W (.int i :: ds) (.int i :: vs) [] := ⟨_, _, [], [], rfl, ⟨rfl, rfl⟩, h, rfl⟩
theorem rl_str {K : PySem.W.Frag} {W : Wd} {s : String} {ds : List D} {vs : List V} (h : RL K W ds vs []) : RL K W (.str (ofS s) :: ds) (.str (Str.ofString s) :: vs) [] := ⟨_, _, [], [], rfl, ⟨congrArg V.str (tr_ofS s), rfl⟩, h, rfl⟩
/-- the law at its script -/
theorem law_sp {K : PySem.W.Frag} {run : List D → Option D} {H : Hp} {a : Addr} {ns : List Int} {E : XK} (hS : SqL K H a (ns.map V.int)) (hr : run [.lst (ns.map D.int)] = some (.bl true)) : spQ K 1 run [.ref a] H (fun v _ => v = .bl true) E := by
  have rl : ∀ (W : Wd) (l : List Int), RL K W (l.map D.int) (l.map V.int) [] := fun W l => by
    induction l with
    | nil => exact ⟨rfl, rfl⟩
    | cons i l ih => exact rl_int ih
  have dl : ∀ l : List Int, dataL (l.map D.int) = true := fun l => by
    induction l with
    | nil => rfl
    | cons i l ih => exact Bool.and_eq_true_iff.mpr ⟨rfl, ih⟩
  refine ⟨⟨H, fun b => H b ≠ none, []⟩, [.lst (ns.map D.int)], .bl true, rfl, rfl, fun b h => h, ⟨.ref a, [], [], [], rfl, ⟨a, _, rfl, ?_, rl _ ns, rfl⟩, ⟨rfl, rfl⟩, rfl⟩, Bool.and_eq_true_iff.mpr ⟨dl ns, rfl⟩, rfl, hr, rfl, fun v W' x r => r.1⟩
  rcases hS with h | h
  · refine .inl ⟨h, ?_⟩
    rcases h with h | ⟨o, h⟩
    · show H a ≠ none
      rw [h]
      exact fun z => nomatch z
    · show H a ≠ none
      rw [h]
      exact fun z => nomatch z
  · exact .inr (.inr h)
/-- any world's exceptions -/
def CXw : CXT := fun o H s E e s' => ∃ (P : Program) (w : World), L2N.CX P w o H s E e s'
theorem cx_wide {P : Program} {w : World} {K : PySem.W.Frag} {mg : Str → Option Value} {base : Heap} {k : Nat} {f : Addr} {fd : FuncData} {ps : List Str} {sp : Sp} (F : FnOk P w K mg base (L2N.CX P w) k f fd ps sp) : FnOk P w K mg base CXw k f fd ps sp :=
  ⟨F.len, fun A outer s H args us vs Q E hr e0 hb hv hs => codeAny_mono (F.run A outer s H args us vs Q E hr e0 hb hv hs) fun r s' q => by
    cases r with
    | error e => exact ⟨P, w, q⟩
    | ok fl => cases fl <;> exact q⟩
theorem cxw_none {o : List Env} {H : Hp} {s : Shared} {e : Value} {s' : Shared} (h : CXw o H s (fun _ _ _ => False) e s') : False := by
  obtain ⟨_, _, _, _, _, _, _, _, _, _, _, _, _, _, z⟩ := h
  exact z.elim
end Fw
/-! # reckoning mirrors: outermost first -/
namespace Fw
open PySem PySem.Spec PyProof.Rows L2
def seqK (o : Option SO) (g : FS) : Option SO := o.bind fun o => match o with
  | .nx ρ' μ' => g ρ' μ'
  | o => some o
theorem fSeq_eq (f g : FS) (x0 : D) (ρ μ : List D) : fSeq f g (x0 :: ρ) μ = seqK (f (x0 :: ρ) μ) g := rfl
theorem seqK_nx (ρ μ : List D) (g : FS) : seqK (some (.nx ρ μ)) g = g ρ μ := rfl
theorem seqK_rt (d : D) (ρ μ : List D) (g : FS) : seqK (some (.rt d ρ μ)) g = some (.rt d ρ μ) := rfl
theorem seqK_ex (c : Str) (fs : List (Str × D)) (ρ μ : List D) (g : FS) : seqK (some (.ex c fs ρ μ)) g = some (.ex c fs ρ μ) := rfl
/-- the end of a turn -/
def turnK (g : D → List D → Option (List D)) (b : FS) (ds : List D) (o : Option SO) : Option SO := o.bind fun o => match o with
  | .nx ρ2 μ2 => forL g b ρ2 μ2 ds
  | .ct ρ2 μ2 => forL g b ρ2 μ2 ds
  | .bk ρ2 μ2 => some (.nx ρ2 μ2)
  | o => some o
theorem forL_nil (g : D → List D → Option (List D)) (b : FS) (ρ μ : List D) : forL g b ρ μ [] = some (.nx ρ μ) := rfl
theorem forL_cons (g : D → List D → Option (List D)) (b : FS) (ρ μ : List D) (d : D) (ds : List D) : forL g b ρ μ (d :: ds) = (g d ρ).bind fun ρ1 => turnK g b ds (b ρ1 μ) := rfl
theorem turnK_nx (g : D → List D → Option (List D)) (b : FS) (ds ρ μ : List D) : turnK g b ds (some (.nx ρ μ)) = forL g b ρ μ ds := rfl
theorem turnK_rt (g : D → List D → Option (List D)) (b : FS) (ds : List D) (d : D) (ρ μ : List D) : turnK g b ds (some (.rt d ρ μ)) = some (.rt d ρ μ) := rfl
/-- one turn that goes on -/
theorem forL_turn {g : D → List D → Option (List D)} {b : FS} {ρ μ ρ1 ρ2 μ2 : List D} {d : D} {ds : List D} (h1 : g d ρ = some ρ1) (h2 : b ρ1 μ = some (.nx ρ2 μ2)) : forL g b ρ μ (d :: ds) = forL g b ρ2 μ2 ds := by
  rw [forL_cons, h1]
  show turnK g b ds (b ρ1 μ) = _
  rw [h2]
  rfl
/-- a loop all of whose turns go on, I kept -/
theorem forL_all {g : D → List D → Option (List D)} {b : FS} {μ : List D} {I : List D → Prop} : ∀ (ds : List D) (ρ : List D), I ρ → (∀ d ∈ ds, ∀ ρ, I ρ → ∃ ρ1 ρ2, g d ρ = some ρ1 ∧ b ρ1 μ = some (.nx ρ2 μ) ∧ I ρ2) → ∃ ρ', forL g b ρ μ ds = some (.nx ρ' μ) ∧ I ρ'
  | [], ρ, h, _ => ⟨ρ, rfl, h⟩
  | d :: ds, ρ, h, k => by
    obtain ⟨ρ1, ρ2, h1, h2, h3⟩ := k d (List.mem_cons_self ..) ρ h
    obtain ⟨ρ', h4, h5⟩ := forL_all ds ρ2 h3 fun d hd => k d (List.mem_cons_of_mem _ hd)
    exact ⟨ρ', by rw [forL_turn h1 h2, h4], h5⟩
/-- the def's end -/
def endK (o : Option SO) : Option D := match o with
  | some (.rt d _ _) => if data d = true then some d else none
  | some (.nx _ _) => some .non
  | _ => none
theorem runQ_eq (N n : Nat) (f : FS) (ds : List D) : runQ N n f ds = endK (f (ds ++ List.replicate (N - n) .un) []) := by
  unfold runQ endK
  cases f (ds ++ List.replicate (N - n) .un) [] with
  | none => rfl
  | some o => cases o <;> rfl
theorem endK_rt (d : D) (ρ μ : List D) : endK (some (.rt d ρ μ)) = if data d = true then some d else none := rfl
theorem endK_nx (ρ μ : List D) : endK (some (.nx ρ μ)) = some .non := rfl
/-! ### the pieces by value -/
def varK (o : Option D) : Option D := match o with
  | some .un => none
  | o => o
theorem qVar_zero (d : D) (ρ μ : List D) : qVar 0 (d :: ρ) μ = varK (some d) := by cases d <;> rfl
theorem qVar_succ (i : Nat) (d : D) (ρ μ : List D) : qVar (i + 1) (d :: ρ) μ = qVar i ρ μ := rfl
theorem varK_int (i : Int) : varK (some (.int i)) = some (.int i) := rfl
theorem varK_str (i : List Nat) : varK (some (.str i)) = some (.str i) := rfl
theorem varK_bl (i : Bool) : varK (some (.bl i)) = some (.bl i) := rfl
theorem varK_non : varK (some .non) = some .non := rfl
theorem varK_tup (i : List D) : varK (some (.tup i)) = some (.tup i) := rfl
theorem varK_lst (i : List D) : varK (some (.lst i)) = some (.lst i) := rfl
theorem varK_ml (i : List D) : varK (some (.ml i)) = some (.ml i) := rfl
def blK (o : Option D) : Option Bool := match o with
  | some (.bl b) => some b
  | _ => none
theorem qB_eq (f : FQ) (x0 : D) (ρ μ : List D) : qB f (x0 :: ρ) μ = blK (f (x0 :: ρ) μ) := rfl
theorem blK_bl (b : Bool) : blK (some (.bl b)) = some b := rfl
def andK (o : Option D) (r : Option D) : Option D := match o with
  | some (.bl true) => r
  | some (.bl false) => some (.bl false)
  | _ => none
def orK (o : Option D) (r : Option D) : Option D := match o with
  | some (.bl false) => r
  | some (.bl true) => some (.bl true)
  | _ => none
theorem qAnd_eq (f g : FQ) (x0 : D) (ρ μ : List D) : qAnd f g (x0 :: ρ) μ = andK (f (x0 :: ρ) μ) (g (x0 :: ρ) μ) := rfl
theorem qOr_eq (f g : FQ) (x0 : D) (ρ μ : List D) : qOr f g (x0 :: ρ) μ = orK (f (x0 :: ρ) μ) (g (x0 :: ρ) μ) := rfl
theorem andK_t (r : Option D) : andK (some (.bl true)) r = r := rfl
theorem andK_f (r : Option D) : andK (some (.bl false)) r = some (.bl false) := rfl
theorem orK_f (r : Option D) : orK (some (.bl false)) r = r := rfl
theorem orK_t (r : Option D) : orK (some (.bl true)) r = some (.bl true) := rfl
theorem andK_b (b c : Bool) : andK (some (.bl b)) (some (.bl c)) = some (.bl (b && c)) := by cases b <;> rfl
theorem orK_b (b c : Bool) : orK (some (.bl b)) (some (.bl c)) = some (.bl (b || c)) := by cases b <;> rfl
def notK (o : Option D) : Option D := match o with
  | some (.bl b) => some (.bl (!b))
  | _ => none
theorem qNot_eq (f : FQ) (x0 : D) (ρ μ : List D) : qNot f (x0 :: ρ) μ = notK (f (x0 :: ρ) μ) := rfl
theorem notK_b (b : Bool) : notK (some (.bl b)) = some (.bl (!b)) := rfl
/-- a chain of two comparisons -/
def chK (o : Option D) (r : Option D) : Option D := match o with
  | some (.bl true) => r
  | some (.bl false) => some (.bl false)
  | _ => none
theorem q3_eq (o o' : D → D → Option D) (f g h : FQ) (x0 : D) (ρ μ : List D) : q3 o o' f g h (x0 :: ρ) μ = (f (x0 :: ρ) μ).bind fun x => (g (x0 :: ρ) μ).bind fun y => andK (o x y) ((h (x0 :: ρ) μ).bind fun z => o' y z) := rfl
def appK (i : Nat) (ρ μ : List D) (q : FQ) (o : Option D) : Option SO := match o with
  | some (.ml ds) => (q ρ μ).bind fun d => if data d = true ∧ ds.length ≤ LIM then some (.nx (ρ.set i (.ml (ds ++ [d]))) μ) else none
  | _ => none
theorem fApp_eq (i : Nat) (q : FQ) (x0 : D) (ρ μ : List D) : fApp i q (x0 :: ρ) μ = appK i (x0 :: ρ) μ q (x0 :: ρ)[i]? := by
  unfold fApp appK
  rfl
theorem appK_ml (i : Nat) (ρ μ : List D) (q : FQ) (ds : List D) : appK i ρ μ q (some (.ml ds)) = (q ρ μ).bind fun d => if data d = true ∧ ds.length ≤ LIM then some (.nx (ρ.set i (.ml (ds ++ [d]))) μ) else none := rfl
def fzK (i : Nat) (ρ : List D) (o : Option D) : List D := match o with
  | some (.ml ds) => if dataL ds = true then ρ.set i (.lst ds) else ρ
  | _ => ρ
theorem fFz_eq (i : Nat) (f : FS) (x0 : D) (ρ μ : List D) : fFz i f (x0 :: ρ) μ = f (fzK i (x0 :: ρ) (x0 :: ρ)[i]?) μ := rfl
theorem fzK_ml (i : Nat) (ρ ds : List D) : fzK i ρ (some (.ml ds)) = if dataL ds = true then ρ.set i (.lst ds) else ρ := rfl
def rgK (o : Option D) : Option (List D) := match o with
  | some (.int j) => if small62 j = true then some (rangeD 0 j) else none
  | _ => none
theorem aR1_eq (f : FQ) (x0 : D) (ρ μ : List D) : aR1 f (x0 :: ρ) μ = rgK (f (x0 :: ρ) μ) := rfl
theorem rgK_int (j : Int) : rgK (some (.int j)) = if small62 j = true then some (rangeD 0 j) else none := rfl
def rg2K (x y : D) : Option (List D) := match x, y with
  | .int i, .int j => if small62 i = true ∧ small62 j = true then some (rangeD i j) else none
  | _, _ => none
theorem aR2_eq (f g : FQ) (x0 : D) (ρ μ : List D) : aR2 f g (x0 :: ρ) μ = (f (x0 :: ρ) μ).bind fun x => (g (x0 :: ρ) μ).bind fun y => rg2K x y := by
  unfold aR2
  cases f (x0 :: ρ) μ with
  | none => rfl
  | some x =>
    cases g (x0 :: ρ) μ with
    | none => cases x <;> rfl
    | some y => cases x <;> cases y <;> rfl
theorem rg2K_int (i j : Int) : rg2K (.int i) (.int j) = if small62 i = true ∧ small62 j = true then some (rangeD i j) else none := rfl
def osK (o : Option D) : Option (Option Int) := match o with
  | some (.int i) => some (some i)
  | _ => none
theorem oSome_eq (f : FQ) (x0 : D) (ρ μ : List D) : oSome f (x0 :: ρ) μ = osK (f (x0 :: ρ) μ) := rfl
theorem osK_int (i : Int) : osK (some (.int i)) = some (some i) := rfl
def m1K (o : List Nat → List D → Option D) (x : Option D) (r : Option D) : Option D := match x with
  | some (.str s) => r.bind fun d => o s [d]
  | _ => none
theorem qM1_eq (o : List Nat → List D → Option D) (f g : FQ) (x0 : D) (ρ μ : List D) : qM1 o f g (x0 :: ρ) μ = m1K o (f (x0 :: ρ) μ) (g (x0 :: ρ) μ) := rfl
theorem m1K_str (o : List Nat → List D → Option D) (s : List Nat) (d : D) : m1K o (some (.str s)) (some d) = o s [d] := rfl
def m0K (o : List Nat → List D → Option D) (x : Option D) : Option D := match x with
  | some (.str s) => o s []
  | _ => none
theorem qM0_eq (o : List Nat → List D → Option D) (f : FQ) (x0 : D) (ρ μ : List D) : qM0 o f (x0 :: ρ) μ = m0K o (f (x0 :: ρ) μ) := rfl
theorem m0K_str (o : List Nat → List D → Option D) (s : List Nat) : m0K o (some (.str s)) = o s [] := rfl
/-! ### operators at written kinds -/
theorem dAdd_int (i j : Int) : dAdd (.int i) (.int j) = some (.int (i + j)) := rfl
theorem dAdd_str (a b : List Nat) : dAdd (.str a) (.str b) = if a.length + b.length ≤ LIM then some (.str (a ++ b)) else none := rfl
theorem dAdd_tup (a b : List D) : dAdd (.tup a) (.tup b) = if a.length + b.length ≤ LIM ∧ dataL a = true ∧ dataL b = true then some (.tup (a ++ b)) else none := rfl
theorem dAdd_lst (a b : List D) : dAdd (.lst a) (.lst b) = if a.length + b.length ≤ LIM then some (.lst (a ++ b)) else none := rfl
theorem dAdd_mlst (a b : List D) : dAdd (.ml a) (.lst b) = if dataL a = true then (if a.length + b.length ≤ LIM then some (.lst (a ++ b)) else none) else none := by
  show ((if dataL a = true then some a else none).bind _) = _
  by_cases h : dataL a = true
  · rw [if_pos h, if_pos h]
    rfl
  · rw [if_neg h, if_neg h]
    rfl
theorem dInt_int (C : Int → Int → Bool) (g : Int → Int → D) (i j : Int) : dInt C g (.int i) (.int j) = if C i j = true then some (g i j) else none := rfl
theorem eqDB_atom {x y : D} {u v : V} (h1 : atom x = some u) (h2 : atom y = some v) (h3 : scal u v = true) : eqDB x y = some (decide (u = v)) := by
  unfold eqDB
  rw [h1, h2]
  exact if_pos h3
theorem dEq_int (i j : Int) : dEq (.int i) (.int j) = some (.bl (decide (i = j))) := by
  unfold dEq
  rw [eqDB_atom rfl rfl rfl]
  exact congrArg (fun b => some (D.bl b)) (by rw [dec_int]; exact (decide_eq_decide.mpr Iff.rfl ▸ rfl))
theorem dNe_int (i j : Int) : dNe (.int i) (.int j) = some (.bl (!decide (i = j))) := by
  unfold dNe
  rw [eqDB_atom rfl rfl rfl]
  exact congrArg (fun b => some (D.bl !b)) (by rw [dec_int]; exact (decide_eq_decide.mpr Iff.rfl ▸ rfl))
theorem dec_tr (a b : List Nat) : decide (V.str (tr a) = V.str (tr b)) = decide (a = b) := by
  by_cases h : a = b
  · subst h
    rw [decide_eq_true rfl, decide_eq_true rfl]
  · rw [decide_eq_false h, decide_eq_false]
    exact fun z => h (tr_inj (V.str.inj z))
theorem dEq_str (a b : List Nat) : dEq (.str a) (.str b) = some (.bl (decide (a = b))) := by
  unfold dEq
  rw [eqDB_atom rfl rfl rfl, dec_tr]
  rfl
theorem dNe_str (a b : List Nat) : dNe (.str a) (.str b) = some (.bl (!decide (a = b))) := by
  unfold dNe
  rw [eqDB_atom rfl rfl rfl, dec_tr]
  rfl
theorem dEq_bl (a b : Bool) : dEq (.bl a) (.bl b) = some (.bl (a == b)) := by cases a <;> cases b <;> rfl
theorem dNe_bl (a b : Bool) : dNe (.bl a) (.bl b) = some (.bl (a != b)) := by cases a <;> cases b <;> rfl
theorem dLt_int (i j : Int) : dLt (.int i) (.int j) = some (.bl (decide (i < j))) := rfl
theorem dLe_int (i j : Int) : dLe (.int i) (.int j) = some (.bl (decide (i ≤ j))) := rfl
theorem dGt_int (i j : Int) : dGt (.int i) (.int j) = some (.bl (decide (j < i))) := rfl
theorem dGe_int (i j : Int) : dGe (.int i) (.int j) = some (.bl (decide (j ≤ i))) := rfl
theorem dLe_str (a b : List Nat) : dLe (.str a) (.str b) = some (.bl (!decide (b < a))) := rfl
theorem dLen_str (s : List Nat) : dLen (.str s) = if s.length ≤ LIM then some (.int s.length) else none := rfl
theorem dLen_lst (s : List D) : dLen (.lst s) = some (.int s.length) := rfl
theorem dLen_ml (s : List D) : dLen (.ml s) = some (.int s.length) := rfl
theorem dLen_tup (s : List D) : dLen (.tup s) = some (.int s.length) := rfl
theorem dIx_lst (ds : List D) (i : Int) : dIx (.lst ds) (.int i) = ixAt ds i := rfl
theorem dIx_ml (ds : List D) (i : Int) : dIx (.ml ds) (.int i) = ixAt ds i := rfl
theorem dIx_tup (ds : List D) (i : Int) : dIx (.tup ds) (.int i) = ixAt ds i := rfl
theorem dIx_str (s : List Nat) (i : Int) : dIx (.str s) (.int i) = if s.length ≤ LIM then (ixAt s i).map fun c => .str [c] else none := rfl
theorem o1_eq (g : D → Option D) (d : D) : o1 g [d] = g d := rfl
theorem o2_eq (g : D → D → Option D) (d e : D) : o2 g [d, e] = g d e := rfl
theorem oStr_eq (h : List Nat → List Nat → D) (s t : List Nat) : oStr h s [.str t] = some (h s t) := rfl
theorem itemsF_lst (ds : List D) : itemsF (.lst ds) = some ds := rfl
theorem itemsF_str (s : List Nat) : itemsF (.str s) = some (s.map fun c => .str [c]) := rfl
theorem itemsF_tup (ds : List D) : itemsF (.tup ds) = if dataL ds = true then some ds else none := rfl
theorem dSl_str (s : List Nat) (lo hi : Option Int) : dSl (.str s) lo hi = if s.length ≤ LIM then some (.str (cut s lo hi)) else none := rfl
theorem dSl_lst (ds : List D) (lo hi : Option Int) : dSl (.lst ds) lo hi = some (.lst (cut ds lo hi)) := rfl
theorem dSl_tup (ds : List D) (lo hi : Option Int) : dSl (.tup ds) lo hi = if dataL ds = true then some (.tup (cut ds lo hi)) else none := rfl
/-- up to n -/
theorem cut_take {α : Type} (xs : List α) (n : Nat) : cut xs none (some (n : Int)) = xs.take n := by
  unfold cut
  rw [HT.sIx_none, HT.sIx_nat, List.drop_zero, Nat.sub_zero]
  by_cases h : n ≤ xs.length
  · rw [Nat.min_eq_left h]
  · rw [Nat.min_eq_right (by omega), List.take_of_length_le (by omega), List.take_of_length_le (by omega)]
theorem cut_drop {α : Type} (xs : List α) (n : Nat) : cut xs (some (n : Int)) none = xs.drop n := by
  unfold cut
  rw [HT.sIx_none, HT.sIx_nat]
  by_cases h : n ≤ xs.length
  · rw [Nat.min_eq_left h, List.take_of_length_le (by rw [List.length_drop]; omega)]
  · rw [Nat.min_eq_right (by omega), Nat.sub_self, List.take_zero, List.drop_eq_nil_of_le (by omega)]
theorem ixAt_nat {α : Type} (xs : List α) (i : Nat) : ixAt xs (i : Int) = xs[i]? := by
  unfold ixAt
  rw [if_pos (by omega), Int.toNat_natCast]
theorem ixAt_pos {α : Type} {xs : List α} {i : Int} (h : 0 ≤ i) : ixAt xs i = xs[i.toNat]? := by
  unfold ixAt
  rw [if_pos h]
theorem dataL_ints : ∀ l : List Int, dataL (l.map D.int) = true
  | [] => rfl
  | _ :: l => Bool.and_eq_true_iff.mpr ⟨rfl, dataL_ints l⟩
theorem dataL_strs : ∀ l : List (List Nat), dataL (l.map D.str) = true
  | [] => rfl
  | _ :: l => Bool.and_eq_true_iff.mpr ⟨rfl, dataL_strs l⟩
/-! ### all others, at a list of slots that is seen -/
section
variable (x0 : D) (ρ μ : List D)
theorem qC_eq (d : D) : qC d (x0 :: ρ) μ = some d := rfl
theorem q2_eq (o : D → D → Option D) (f g : FQ) : q2 o f g (x0 :: ρ) μ = (f (x0 :: ρ) μ).bind fun x => (g (x0 :: ρ) μ).bind fun y => o x y := rfl
theorem qIf_eq (t : FB) (f g : FQ) : qIf t f g (x0 :: ρ) μ = (t (x0 :: ρ) μ).bind fun x => if x = true then f (x0 :: ρ) μ else g (x0 :: ρ) μ := rfl
theorem qTup_eq (k : FA) : qTup k (x0 :: ρ) μ = (k (x0 :: ρ) μ).bind fun ds => if ds.length ≤ 100 then some (.tup ds) else none := rfl
theorem qN_eq (k : FA) : qN k (x0 :: ρ) μ = (k (x0 :: ρ) μ).map D.lst := rfl
theorem qSl_eq (f : FQ) (lo hi : FO) : qSl f lo hi (x0 :: ρ) μ = (f (x0 :: ρ) μ).bind fun x => (lo (x0 :: ρ) μ).bind fun l => (hi (x0 :: ρ) μ).bind fun h => dSl x l h := rfl
theorem oNone_eq : oNone (x0 :: ρ) μ = some none := rfl
theorem qCall_eq (o : List D → Option D) (k : FA) : qCall o k (x0 :: ρ) μ = (k (x0 :: ρ) μ).bind o := rfl
theorem qRun_eq (n : Nat) (dd : List D) (run : List D → Option D) (k : FA) : qRun n dd run k (x0 :: ρ) μ = (k (x0 :: ρ) μ).bind fun ds => if dataL ds = true ∧ (ds ++ dd).length = n then (run (ds ++ dd)).bind fun d => if data d = true then some d else none else none := rfl
theorem qIsi_eq (T : String) (f : FQ) : qIsi T f (x0 :: ρ) μ = (f (x0 :: ρ) μ).bind fun d => (tyN d).bind fun n => (kitB n T).map D.bl := rfl
theorem aNil_eq : aNil (x0 :: ρ) μ = some [] := rfl
theorem aCons_eq (f : FQ) (k : FA) : aCons f k (x0 :: ρ) μ = (f (x0 :: ρ) μ).bind fun d => (k (x0 :: ρ) μ).map fun ds => d :: ds := rfl
theorem aData_eq (k : FA) : aData k (x0 :: ρ) μ = (k (x0 :: ρ) μ).bind fun ds => if dataL ds = true ∧ ds.length ≤ 100 then some ds else none := rfl
theorem aF_eq (f : FQ) : aF f (x0 :: ρ) μ = (f (x0 :: ρ) μ).bind itemsF := rfl
theorem aQ_eq (f : FQ) : aQ f (x0 :: ρ) μ = (f (x0 :: ρ) μ).bind itemsQ := rfl
theorem bAnd_eq (t u : FB) : bAnd t u (x0 :: ρ) μ = (t (x0 :: ρ) μ).bind fun x => if x = true then u (x0 :: ρ) μ else some false := rfl
theorem bOr_eq (t u : FB) : bOr t u (x0 :: ρ) μ = (t (x0 :: ρ) μ).bind fun x => if x = true then some true else u (x0 :: ρ) μ := rfl
theorem bNot_eq (t : FB) : bNot t (x0 :: ρ) μ = (t (x0 :: ρ) μ).map not := rfl
theorem fNext_eq : fNext (x0 :: ρ) μ = some (.nx (x0 :: ρ) μ) := rfl
theorem fSet_eq (i : Nat) (q : FQ) : fSet i q (x0 :: ρ) μ = (q (x0 :: ρ) μ).bind fun d => if data d = true then some (.nx ((x0 :: ρ).set i d) μ) else none := rfl
theorem fSetN_eq (i : Nat) (k : FA) : fSetN i k (x0 :: ρ) μ = (k (x0 :: ρ) μ).map fun ds => .nx ((x0 :: ρ).set i (.ml ds)) μ := rfl
theorem fSetT_eq (gt : D → List D → Option (List D)) (q : FQ) : fSetT gt q (x0 :: ρ) μ = (q (x0 :: ρ) μ).bind fun d => if data d = true then (gt d (x0 :: ρ)).map fun ρ' => .nx ρ' μ else none := rfl
theorem fIf_eq (t : FB) (f g : FS) : fIf t f g (x0 :: ρ) μ = (t (x0 :: ρ) μ).bind fun b => if b = true then f (x0 :: ρ) μ else g (x0 :: ρ) μ := rfl
theorem fRet_eq (q : FQ) : fRet q (x0 :: ρ) μ = (q (x0 :: ρ) μ).bind fun d => if data d = true then some (.rt d (x0 :: ρ) μ) else none := rfl
theorem fRetN_eq : fRetN (x0 :: ρ) μ = some (.rt .non (x0 :: ρ) μ) := rfl
theorem fFor_eq (it : FA) (g : D → List D → Option (List D)) (b : FS) : fFor it g b (x0 :: ρ) μ = (it (x0 :: ρ) μ).bind fun ds => forL g b (x0 :: ρ) μ ds := rfl
theorem fAug_eq (i : Nat) (o : D → D → Option D) (q : FQ) : fAug i o q (x0 :: ρ) μ = (qVar i (x0 :: ρ) μ).bind fun x => (q (x0 :: ρ) μ).bind fun y => (o x y).bind fun d => if data x = true ∧ data d = true then some (.nx ((x0 :: ρ).set i d) μ) else none := rfl
theorem tgN_eq (i : Nat) (d : D) : tgN i d (x0 :: ρ) = if data d = true then some ((x0 :: ρ).set i d) else none := rfl
theorem tgT_eq (is : List Nat) (ds : List D) : tgT is (.tup ds) (x0 :: ρ) = tgs is ds (x0 :: ρ) := rfl
theorem tgs_cons (i : Nat) (is : List Nat) (d : D) (ds : List D) : tgs (i :: is) (d :: ds) ρ = (tgN i d ρ).bind fun ρ' => tgs is ds ρ' := rfl
theorem tgs_nil : tgs [] [] ρ = some ρ := rfl
end
theorem cMul_r {i j : Int} (h1 : -18446744073709551616 < j) (h2 : j < 18446744073709551616) : cMul i j = true := decide_eq_true (.inr ⟨h1, h2⟩)
theorem cMul_l {i j : Int} (h1 : -18446744073709551616 < i) (h2 : i < 18446744073709551616) : cMul i j = true := decide_eq_true (.inl ⟨h1, h2⟩)
theorem small62_of {i : Int} (h1 : -4611686018427387904 ≤ i) (h2 : i < 4611686018427387904) : small62 i = true := decide_eq_true ⟨h1, h2⟩
theorem tyN_NoneType : tyN .non = some "NoneType" := rfl
theorem tyN_bool (b : Bool) : tyN (.bl b) = some "bool" := rfl
theorem tyN_int (b : Int) : tyN (.int b) = some "int" := rfl
theorem tyN_str (b : List Nat) : tyN (.str b) = some "str" := rfl
theorem tyN_list (b : List D) : tyN (.lst b) = some "list" := rfl
theorem tyN_tuple (b : List D) : tyN (.tup b) = some "tuple" := rfl
theorem tyN_ml (b : List D) : tyN (.ml b) = some "list" := rfl
theorem kitB_NoneType_bool : kitB "NoneType" "bool" = some false := by decide +kernel
theorem kitB_NoneType_int : kitB "NoneType" "int" = some false := by decide +kernel
theorem kitB_NoneType_str : kitB "NoneType" "str" = some false := by decide +kernel
theorem kitB_NoneType_list : kitB "NoneType" "list" = some false := by decide +kernel
theorem kitB_NoneType_tuple : kitB "NoneType" "tuple" = some false := by decide +kernel
theorem kitB_bool_bool : kitB "bool" "bool" = some true := by decide +kernel
theorem kitB_bool_int : kitB "bool" "int" = some true := by decide +kernel
theorem kitB_bool_str : kitB "bool" "str" = some false := by decide +kernel
theorem kitB_bool_list : kitB "bool" "list" = some false := by decide +kernel
theorem kitB_bool_tuple : kitB "bool" "tuple" = some false := by decide +kernel
theorem kitB_int_bool : kitB "int" "bool" = some false := by decide +kernel
theorem kitB_int_int : kitB "int" "int" = some true := by decide +kernel
theorem kitB_int_str : kitB "int" "str" = some false := by decide +kernel
theorem kitB_int_list : kitB "int" "list" = some false := by decide +kernel
theorem kitB_int_tuple : kitB "int" "tuple" = some false := by decide +kernel
theorem kitB_str_bool : kitB "str" "bool" = some false := by decide +kernel
theorem kitB_str_int : kitB "str" "int" = some false := by decide +kernel
theorem kitB_str_str : kitB "str" "str" = some true := by decide +kernel
theorem kitB_str_list : kitB "str" "list" = some false := by decide +kernel
theorem kitB_str_tuple : kitB "str" "tuple" = some false := by decide +kernel
theorem kitB_list_bool : kitB "list" "bool" = some false := by decide +kernel
theorem kitB_list_int : kitB "list" "int" = some false := by decide +kernel
theorem kitB_list_str : kitB "list" "str" = some false := by decide +kernel
theorem kitB_list_list : kitB "list" "list" = some true := by decide +kernel
theorem kitB_list_tuple : kitB "list" "tuple" = some false := by decide +kernel
theorem kitB_tuple_bool : kitB "tuple" "bool" = some false := by decide +kernel
theorem kitB_tuple_int : kitB "tuple" "int" = some false := by decide +kernel
theorem kitB_tuple_str : kitB "tuple" "str" = some false := by decide +kernel
theorem kitB_tuple_list : kitB "tuple" "list" = some false := by decide +kernel
theorem kitB_tuple_tuple : kitB "tuple" "tuple" = some true := by decide +kernel
end Fw
/-! # expressions that change something: footprints, a part seen apart -/
namespace Fw
open PySem PySem.Spec PyProof.Rows L2
open Evl (Ex)
section
variable {K : PySem.W.Frag} {W W' : Wd}
theorem Mv.sub {F F1 G G1 : List Addr} (h : Mv W W' F G) (h1 : ∀ a ∈ F, a ∈ F1) (h2 : ∀ a ∈ G1, a ∈ G) : Mv W W' F1 G1 :=
  ⟨fun a o e n => h.keep a o e fun z => n (h1 a z), h.fr, fun a e => (h.nf a e).elim .inl fun z => .inr (z.elim .inl fun z => .inr (h1 a z)), fun a ha => (h.own a (h2 a ha)).elim (fun z => .inl (h1 a z)) .inr, h.m⟩
theorem Sta.len {σ : L2.St} {ρ μ : List D} {F : List Addr} (S : Sta K W σ ρ μ F) : σ.length = ρ.length := by
  obtain ⟨F1, F2, h1, _, _⟩ := S.ex
  exact RS_len h1
/-- a list that differs in the order alone -/
theorem nodup_of_perm {F F' : List Addr} (h : F'.Perm F) (n : F.Nodup) : F'.Nodup := h.nodup_iff.mpr n
/-! ### slots in two groups -/
theorem RS_app : ∀ {xs ρ : List D} {τ σ : List (Option V)} {F G : List Addr}, RS K W xs τ F → RS K W ρ σ G → RS K W (xs ++ ρ) (τ ++ σ) (F ++ G)
  | [], ρ, τ, σ, F, G, h, g => by
    rw [h.1, h.2]
    exact g
  | d :: xs, ρ, τ, σ, F, G, h, g => by
    obtain ⟨o, τ', F1, F2, e1, e2, e3, e4⟩ := h
    exact ⟨o, τ' ++ σ, F1, F2 ++ G, by rw [e1]; rfl, e2, RS_app e3 g, by rw [e4, List.append_assoc]⟩
theorem RS_cut : ∀ {xs ρ : List D} {τ σ : List (Option V)} {F : List Addr}, τ.length = xs.length → RS K W (xs ++ ρ) (τ ++ σ) F → ∃ F1 F2, F = F1 ++ F2 ∧ RS K W xs τ F1 ∧ RS K W ρ σ F2
  | [], ρ, τ, σ, F, hl, h => by
    obtain rfl := List.eq_nil_of_length_eq_zero hl
    exact ⟨[], F, rfl, ⟨rfl, rfl⟩, h⟩
  | d :: xs, ρ, [], σ, F, hl, h => by cases hl
  | d :: xs, ρ, t :: τ, σ, F, hl, h => by
    obtain ⟨o, τ', F1, F2, e1, e2, e3, e4⟩ := h
    rw [List.cons_append] at e1
    injection e1 with e5 e6
    subst e5
    rw [← e6] at e3
    obtain ⟨F3, F4, q1, q2, q3⟩ := RS_cut (Nat.succ.inj hl) e3
    exact ⟨F1 ++ F3, F4, by rw [e4, q1, List.append_assoc], ⟨t, τ, F1, F3, rfl, e2, q2, rfl⟩, q3⟩
/-- the slots ahead seen apart from those behind -/
theorem sta_frame {τ σ : L2.St} {xs ρ μ : List D} {F : List Addr} (S : Sta K W (τ ++ σ) (xs ++ ρ) μ F) (hl : τ.length = xs.length) : ∃ Fc, Sta K W τ xs μ Fc ∧ (∀ a ∈ Fc, a ∈ F) ∧
    ∀ (W' : Wd) (xs' μ' : List D) (Fc' G E : List Addr), Sta K W' τ xs' μ' Fc' → (G ++ Fc').Nodup → (∀ a ∈ G, Own W' a) → (∀ a ∈ E, Own W a ∧ a ∉ F) → Mv W W' (E ++ Fc) (G ++ Fc') → ∃ F', Sta K W' (τ ++ σ) (xs' ++ ρ) μ' F' ∧ (G ++ F').Nodup ∧ Mv W W' (E ++ F) (G ++ F') := by
  obtain ⟨⟨F1, F2, h1, h2, h3⟩, nd, own, ok⟩ := S
  obtain ⟨Fx, Fr, q1, q2, q3⟩ := RS_cut hl h1
  subst q1
  subst h3
  have pm : ∀ (A B C : List Addr), (A ++ B ++ C).Perm (A ++ C ++ B) := fun A B C => by
    rw [List.append_assoc, List.append_assoc]
    exact List.Perm.append_left A List.perm_append_comm
  have nd2 := nodup_of_perm (pm Fx Fr F2).symm nd
  have nd3 := List.nodup_append.mp nd2
  have inF : ∀ a ∈ Fx ++ F2, a ∈ Fx ++ Fr ++ F2 := fun a ha => (pm Fx Fr F2).mem_iff.mpr (List.mem_append_left _ ha)
  have inR : ∀ a ∈ Fr, a ∈ Fx ++ Fr ++ F2 ∧ a ∉ Fx ++ F2 := fun a ha => ⟨(pm Fx Fr F2).mem_iff.mpr (List.mem_append_right _ ha), fun z => nd3.2.2 a z a ha rfl⟩
  refine ⟨Fx ++ F2, ⟨⟨Fx, F2, q2, h2, rfl⟩, nd3.1, fun a ha => own a (inF a ha), ok⟩, inF, fun W' xs' μ' Fc' G E S' ndG ownG hE mv => ?_⟩
  have lt := mv.lt fun a ha => (List.mem_append.mp ha).elim (fun z => (hE a z).1) fun z => own a (inF a z)
  have nE : ∀ a, a ∈ Fx ++ Fr ++ F2 → a ∉ Fx ++ F2 → a ∉ E ++ (Fx ++ F2) := fun a h h' z => (List.mem_append.mp z).elim (fun z => (hE a z).2 h) h'
  have inEF : ∀ a, a ∈ E ++ (Fx ++ F2) → a ∈ E ++ (Fx ++ Fr ++ F2) := fun a z => (List.mem_append.mp z).elim (List.mem_append_left _) fun z => List.mem_append_right _ (inF a z)
  have stay : ∀ a ∈ Fr, W'.H a = W.H a := fun a ha => by
    obtain ⟨h4, h5⟩ := inR a ha
    obtain ⟨_, w⟩ := own a h4
    rcases w with ⟨ys, w⟩ | ⟨Cc, dx, fs, w⟩
    · rw [w]
      exact mv.keep a _ w (nE a h4 h5)
    · rw [w]
      exact mv.keep a _ w (nE a h4 h5)
  have apart : ∀ a ∈ G ++ Fc', a ∉ Fr := fun a ha z => by
    obtain ⟨h4, h5⟩ := inR a z
    rcases mv.own a ha with q | q
    · exact nE a h4 h5 q
    · obtain ⟨_, w⟩ := own a h4
      rcases w with ⟨ys, w⟩ | ⟨Cc, dx, fs, w⟩ <;> rw [q] at w <;> cases w
  obtain ⟨⟨G1, G2, p1, p2, p3⟩, nd', own', ok'⟩ := S'
  subst p3
  have rr : RS K W' ρ σ Fr := RS_keep lt stay q3
  have pm2 : (G ++ (G1 ++ Fr ++ G2)).Perm (G ++ (G1 ++ G2) ++ Fr) := by
    rw [List.append_assoc G]
    exact List.Perm.append_left G (pm G1 Fr G2)
  have ndA : (G ++ (G1 ++ Fr ++ G2)).Nodup := nodup_of_perm pm2 (List.nodup_append.mpr ⟨ndG, (List.nodup_append.mp nd2).2.1, fun a ha b hb z => apart a ha (z ▸ hb)⟩)
  refine ⟨G1 ++ Fr ++ G2, ⟨⟨G1 ++ Fr, G2, RS_app p1 rr, p2, rfl⟩, (List.nodup_append.mp ndA).2.1, fun a ha => ?_, ok'⟩, ndA, ⟨fun a o e n => mv.keep a o e fun z => n (inEF a z), mv.fr, fun a e => (mv.nf a e).elim .inl fun z => .inr (z.elim .inl fun z => .inr (inEF a z)), fun a ha => ?_, mv.m⟩⟩
  · rcases List.mem_append.mp ((pm G1 Fr G2).mem_iff.mp ha) with z | z
    · exact own' a z
    · obtain ⟨h4, h5⟩ := inR a z
      obtain ⟨w1, w2⟩ := own a h4
      refine ⟨fun z' => ?_, by rw [stay a z]; exact w2⟩
      rcases mv.nf a z' with q | q | q
      · exact w1 q
      · rcases w2 with ⟨ys, w⟩ | ⟨Cc, dx, fs, w⟩ <;> rw [q] at w <;> cases w
      · exact nE a h4 h5 q
  · rcases List.mem_append.mp (pm2.mem_iff.mp ha) with z | z
    · exact (mv.own a z).elim (fun q => .inl (inEF a q)) .inr
    · exact .inl (List.mem_append_right _ (inR a z).1)
/-! ### what a slot has is taken out, put in -/
theorem RS_un {d' : D} : ∀ {ρ : List D} {σ : List (Option V)} {F : List Addr} {j : Nat} {d : D}, RS K W ρ σ F → ρ[j]? = some d → d ≠ .un → ∃ v A B C, σ[j]? = some (some v) ∧ F = A ++ (B ++ C) ∧ R K W d v B ∧ RS K W (ρ.set j .un) σ (A ++ C)
  | [], _, _, j, _, _, h, _ => by simp at h
  | d0 :: ρ, _, _, 0, d, h, h1, h2 => by
    obtain ⟨o, σ', F1, F2, e1, e2, e3, e4⟩ := h
    have e : d0 = d := Option.some.inj h1
    subst e
    rw [R1_iff] at e2
    rcases e2 with ⟨q, _⟩ | ⟨v, q1, q2⟩
    · exact absurd q h2
    · subst q1
      exact ⟨v, [], F1, F2, by rw [e1]; rfl, e4, q2, ⟨some v, σ', [], F2, e1, rfl, e3, rfl⟩⟩
  | d0 :: ρ, _, _, j + 1, d, h, h1, h2 => by
    obtain ⟨o, σ', F1, F2, e1, e2, e3, e4⟩ := h
    obtain ⟨v, A, B, C, q1, q2, q3, q4⟩ := RS_un (d' := d') (j := j) e3 (by simpa using h1) h2
    exact ⟨v, F1 ++ A, B, C, by rw [e1]; simpa using q1, by rw [e4, q2, List.append_assoc], q3, ⟨o, σ', F1, A ++ C, e1, e2, q4, by rw [List.append_assoc]⟩⟩
theorem sta_out {σ : L2.St} {ρ μ : List D} {F : List Addr} {m : Nat} {d : D} (S : Sta K W σ ρ μ F) (hm : ρ[m]? = some d) (hne : d ≠ .un) : ∃ v F', σ[m]? = some (some v) ∧ Sta K W (some v :: σ) (d :: ρ.set m .un) μ F' ∧ F'.Perm F := by
  obtain ⟨⟨F1, F2, h1, h2, h3⟩, nd, own, ok⟩ := S
  obtain ⟨v, A, B, C, q1, q2, q3, q4⟩ := RS_un (d' := .un) h1 hm hne
  subst q2
  subst h3
  have pm : (B ++ (A ++ C) ++ F2).Perm (A ++ (B ++ C) ++ F2) := List.Perm.append_right F2 (List.perm_append_comm_assoc B A C)
  exact ⟨v, B ++ (A ++ C) ++ F2, q1, ⟨⟨B ++ (A ++ C), F2, ⟨some v, σ, B, A ++ C, rfl, R1_of q3, q4, rfl⟩, h2, rfl⟩, nodup_of_perm pm nd, fun a ha => own a (pm.mem_iff.mp ha), ok⟩, pm⟩
theorem set_self {α : Type} : ∀ {l : List α} {m : Nat} {x : α}, l[m]? = some x → l.set m x = l
  | [], _, _, h => by simp at h
  | y :: l, 0, x, h => by
    have e : y = x := Option.some.inj h
    rw [e]
    rfl
  | y :: l, m + 1, x, h => by
    rw [List.set_cons_succ, set_self (l := l) (m := m) (by simpa using h)]
theorem sta_in {σ : L2.St} {ρ μ : List D} {F : List Addr} {m : Nat} {d : D} {v : V} (S : Sta K W (some v :: σ) (d :: ρ) μ F) (hm : σ[m]? = some (some v)) : ∃ F', Sta K W σ (ρ.set m d) μ F' ∧ ∀ a ∈ F', a ∈ F := by
  obtain ⟨⟨F1, F2, h1, h2, h3⟩, nd, own, ok⟩ := S
  obtain ⟨o, σ', G, F3, e1, e2, e3, e4⟩ := h1
  injection e1 with e5 e6
  subst e5
  subst e6
  subst e4
  subst h3
  have hl := RS_len e3
  have hi : m < ρ.length := by
    rw [← hl]
    exact (List.getElem?_eq_some_iff.mp hm).1
  obtain ⟨A, B, C, q1, q2⟩ := RS_set e2 e3 hi
  rw [set_self hm] at q2
  subst q1
  have sub : ((G ++ (A ++ C)) ++ F2).Sublist ((G ++ (A ++ (B ++ C))) ++ F2) :=
    List.Sublist.append (List.Sublist.append (List.Sublist.refl G) (List.Sublist.append (List.Sublist.refl A) (List.sublist_append_right B C))) (List.Sublist.refl F2)
  have pm : (A ++ (G ++ C) ++ F2).Perm (G ++ (A ++ C) ++ F2) := List.Perm.append_right F2 (List.perm_append_comm_assoc A G C)
  exact ⟨A ++ (G ++ C) ++ F2, ⟨⟨_, F2, q2, h2, rfl⟩, nodup_of_perm pm (nd.sublist sub), fun a ha => own a (sub.subset (pm.mem_iff.mp ha)), ok⟩, fun a ha => sub.subset (pm.mem_iff.mp ha)⟩
theorem sta_tail {o : Option V} {σ : L2.St} {d : D} {ρ μ : List D} {F : List Addr} (S : Sta K W (o :: σ) (d :: ρ) μ F) : ∃ G F', R1 K W d o G ∧ Sta K W σ ρ μ F' ∧ F = G ++ F' := by
  obtain ⟨⟨F1, F2, h1, h2, h3⟩, nd, own, ok⟩ := S
  obtain ⟨o', σ', G, F3, e1, e2, e3, e4⟩ := h1
  injection e1 with e5 e6
  subst e5
  subst e6
  subst e4
  subst h3
  rw [List.append_assoc] at nd own
  exact ⟨G, F3 ++ F2, e2, ⟨⟨F3, F2, e3, h2, rfl⟩, (List.nodup_append.mp nd).2.1, fun a ha => own a (List.mem_append_right _ ha), ok⟩, by rw [List.append_assoc]⟩
theorem sta_cons {o : Option V} {σ : L2.St} {d : D} {ρ μ : List D} {G F : List Addr} (r : R1 K W d o G) (S : Sta K W σ ρ μ F) (nd : (G ++ F).Nodup) (own : ∀ a ∈ G, Own W a) : Sta K W (o :: σ) (d :: ρ) μ (G ++ F) := by
  obtain ⟨⟨F1, F2, h1, h2, h3⟩, nd2, own2, ok⟩ := S
  subst h3
  exact ⟨⟨G ++ F1, F2, ⟨o, σ, G, F1, rfl, r, h1, rfl⟩, h2, by rw [List.append_assoc]⟩, nd, fun a ha => (List.mem_append.mp ha).elim (own a) (own2 a), ok⟩
end
/-! ### a part seen apart -/
/-- the slots τ, with the trees xs, stand within σ, ρ; put tells how they go back -/
def Foc (K : PySem.W.Frag) (W : Wd) (σ : L2.St) (ρ μ : List D) (F : List Addr) (τ : L2.St) (xs : List D) (put : List D → Option (List D)) : Prop :=
  ∃ Fc, Sta K W τ xs μ Fc ∧ (∀ a ∈ Fc, a ∈ F) ∧ ∀ (W' : Wd) (xs' μ' : List D) (Fc' G E : List Addr) (ρ' : List D), put xs' = some ρ' → Sta K W' τ xs' μ' Fc' → (G ++ Fc').Nodup → (∀ a ∈ G, Own W' a) → (∀ a ∈ E, Own W a ∧ a ∉ F) → Mv W W' (E ++ Fc) (G ++ Fc') →
    ∃ F', Sta K W' σ ρ' μ' F' ∧ (G ++ F').Nodup ∧ Mv W W' (E ++ F) (G ++ F')
section
variable {K : PySem.W.Frag} {W : Wd} {σ τ τ2 : L2.St} {ρ μ xs xs2 : List D} {F : List Addr} {put put2 : List D → Option (List D)}
theorem Foc.trans (h : Foc K W σ ρ μ F τ xs put) (g : ∀ Fc, Sta K W τ xs μ Fc → Foc K W τ xs μ Fc τ2 xs2 put2) : Foc K W σ ρ μ F τ2 xs2 (fun ys => (put2 ys).bind put) := by
  obtain ⟨Fc, S, s1, k⟩ := h
  obtain ⟨Fd, S2, s2, k2⟩ := g Fc S
  refine ⟨Fd, S2, fun a ha => s1 a (s2 a ha), fun W' xs' μ' Fc' G E ρ' hp S' nd own hE mv => ?_⟩
  obtain ⟨ys, e1, e2⟩ := bind_some hp
  obtain ⟨Fe, S3, nd3, mv3⟩ := k2 W' xs' μ' Fc' G E ys e1 S' nd own (fun a ha => ⟨(hE a ha).1, fun z => (hE a ha).2 (s1 a z)⟩) mv
  exact k W' ys μ' Fe G E ρ' e2 S3 nd3 own hE mv3
theorem Foc.put_imp {put' : List D → Option (List D)} (h : Foc K W σ ρ μ F τ xs put) (e : ∀ ys zs, put' ys = some zs → put ys = some zs) : Foc K W σ ρ μ F τ xs put' := by
  obtain ⟨Fc, S, s1, k⟩ := h
  exact ⟨Fc, S, s1, fun W' xs' μ' Fc' G E ρ' hp => k W' xs' μ' Fc' G E ρ' (e _ _ hp)⟩
def put1 (g : D → Option (List D)) : List D → Option (List D)
  | [d] => g d
  | _ => none
theorem RS_one {K : PySem.W.Frag} {W : Wd} {xs : List D} {o : Option V} {F : List Addr} (h : RS K W xs [o] F) : ∃ d, xs = [d] := by
  have e := RS_len h
  match xs, e with
  | [d], _ => exact ⟨d, rfl⟩
/-- one slot -/
theorem foc_slot (S : Sta K W σ ρ μ F) {i : Nat} {d : D} (hi : ρ[i]? = some d) (hne : d ≠ .un) : ∃ v, σ[i]? = some (some v) ∧ Foc K W σ ρ μ F [some v] [d] (put1 fun d' => some (ρ.set i d')) := by
  obtain ⟨v, F', hv, S1, pm⟩ := sta_out S hi hne
  obtain ⟨Fc, S2, sub, k⟩ := sta_frame (τ := [some v]) (xs := [d]) S1 rfl
  refine ⟨v, hv, Fc, S2, fun a ha => pm.mem_iff.mp (sub a ha), fun W' xs' μ' Fc' G E ρ' hp S' nd own hE mv => ?_⟩
  obtain ⟨d', rfl⟩ : ∃ d', xs' = [d'] := by
    obtain ⟨F1, F2, h1, _, _⟩ := S'.ex
    exact RS_one h1
  cases hp
  obtain ⟨F3, S3, nd3, mv3⟩ := k W' [d'] μ' Fc' G E S' nd own (fun a ha => ⟨(hE a ha).1, fun z => (hE a ha).2 (pm.mem_iff.mp z)⟩) mv
  obtain ⟨F4, S4, sub4⟩ := sta_in (σ := σ) (ρ := ρ.set i .un) (m := i) S3 hv
  rw [List.set_set] at S4
  have ndG := List.nodup_append.mp nd3
  exact ⟨F4, S4, List.nodup_append.mpr ⟨ndG.1, S4.nd, fun a ha b hb => ndG.2.2 a ha b (sub4 b hb)⟩, mv3.sub (fun a ha => (List.mem_append.mp ha).elim (List.mem_append_left _) fun z => List.mem_append_right _ (pm.mem_iff.mp z)) fun a ha => (List.mem_append.mp ha).elim (List.mem_append_left _) fun z => List.mem_append_right _ (sub4 a z)⟩
/-- what stands at the front -/
theorem foc_front {o : Option V} {d : D} (S : Sta K W (o :: σ) (d :: ρ) μ F) : Foc K W (o :: σ) (d :: ρ) μ F [o] [d] (put1 fun d' => some (d' :: ρ)) := by
  obtain ⟨Fc, S2, sub, k⟩ := sta_frame (τ := [o]) (xs := [d]) S rfl
  refine ⟨Fc, S2, sub, fun W' xs' μ' Fc' G E ρ' hp S' nd own hE mv => ?_⟩
  obtain ⟨d', rfl⟩ : ∃ d', xs' = [d'] := by
    obtain ⟨F1, F2, h1, _, _⟩ := S'.ex
    exact RS_one h1
  cases hp
  exact k W' [d'] μ' Fc' G E S' nd own hE mv
/-- values without places of their own, besides -/
theorem foc_vals {ds : List D} {vs : List V} (S : Sta K W τ xs μ F) (r : RL K W ds vs []) : Foc K W τ xs μ F (τ ++ vs.map some) (xs ++ ds) (fun ys => some (ys.take xs.length)) := by
  have rs : ∀ {ds : List D} {vs : List V}, RL K W ds vs [] → RS K W ds (vs.map some) [] := by
    intro ds
    induction ds with
    | nil => exact fun {vs} h => by rw [h.1]; exact ⟨rfl, rfl⟩
    | cons d ds ih =>
      intro vs h
      obtain ⟨v, vs', F1, F2, h1, h2, h3, h4⟩ := h
      obtain ⟨rfl, rfl⟩ := List.append_eq_nil_iff.mp h4.symm
      rw [h1]
      exact ⟨some v, vs'.map some, [], [], rfl, R1_of h2, ih h3, rfl⟩
  obtain ⟨⟨F1, F2, h1, h2, h3⟩, nd, own, ok⟩ := S
  refine ⟨F, ⟨⟨F1, F2, by
    have := RS_app h1 (rs r)
    rw [List.append_nil] at this
    exact this, h2, h3⟩, nd, own, ok⟩, fun _ h => h, fun W' xs' μ' Fc' G E ρ' hp S' nd' own' hE mv => ?_⟩
  cases hp
  obtain ⟨⟨G1, G2, p1, p2, p3⟩, nd2, own2, ok2⟩ := S'
  subst p3
  have hl := RS_len p1
  have lx := RS_len h1
  have hx : xs' = xs'.take xs.length ++ xs'.drop xs.length := (List.take_append_drop ..).symm
  have hle : xs.length ≤ xs'.length := by
    rw [List.length_append] at hl
    omega
  rw [hx] at p1
  obtain ⟨G3, G4, q1, q2, q3⟩ := RS_cut (by rw [List.length_take, lx]; omega) p1
  subst q1
  have sub : (G3 ++ G2).Sublist (G3 ++ G4 ++ G2) := List.Sublist.append (List.sublist_append_left G3 G4) (List.Sublist.refl G2)
  refine ⟨G3 ++ G2, ⟨⟨G3, G2, q2, p2, rfl⟩, nd2.sublist sub, fun a ha => own2 a (sub.subset ha), ok2⟩, nd'.sublist (List.Sublist.append (List.Sublist.refl G) sub), mv.sub (fun a h => h) fun a ha => (List.Sublist.append (List.Sublist.refl G) sub).subset ha⟩
/-! ### fields -/
/-- the place of a name -/
def fidx (x : Str) : List Str → Option Nat
  | [] => none
  | y :: ns => if y = x then some 0 else (fidx x ns).map Nat.succ
theorem fidx_lookup {x : Str} : ∀ {ns : List Str} {vs : List V} {i : Nat}, fidx x ns = some i → ns.length = vs.length → (ns.zip vs).lookup x = vs[i]?
  | [], _, _, h, _ => by cases h
  | y :: ns, [], _, _, hl => by cases hl
  | y :: ns, v :: vs, i, h, hl => by
    unfold fidx at h
    by_cases e : y = x
    · rw [if_pos e] at h
      cases h
      subst e
      show List.lookup y ((y, v) :: ns.zip vs) = some v
      rw [List.lookup_cons, beq_self_eq_true]
    · rw [if_neg e] at h
      obtain ⟨j, h1, h2⟩ := map_some h
      subst h2
      show List.lookup x ((y, v) :: ns.zip vs) = _
      rw [List.lookup_cons, show (x == y) = false from beq_eq_false_iff_ne.mpr fun z => e z.symm]
      exact fidx_lookup h1 (Nat.succ.inj hl)
theorem fidx_none {x : Str} : ∀ {ns : List Str} {vs : List V}, fidx x ns = none → (ns.zip vs).lookup x = none
  | [], _, _ => rfl
  | y :: ns, [], _ => rfl
  | y :: ns, v :: vs, h => by
    unfold fidx at h
    by_cases e : y = x
    · rw [if_pos e] at h
      cases h
    · rw [if_neg e] at h
      have h1 : fidx x ns = none := Option.map_eq_none_iff.mp h
      show List.lookup x ((y, v) :: ns.zip vs) = _
      rw [List.lookup_cons, show (x == y) = false from beq_eq_false_iff_ne.mpr fun z => e z.symm]
      exact fidx_none h1
theorem fidx_lt {x : Str} : ∀ {ns : List Str} {i : Nat}, fidx x ns = some i → i < ns.length
  | [], _, h => by cases h
  | y :: ns, i, h => by
    unfold fidx at h
    by_cases e : y = x
    · rw [if_pos e] at h
      cases h
      exact Nat.succ_pos _
    · rw [if_neg e] at h
      obtain ⟨j, h1, h2⟩ := map_some h
      subst h2
      exact Nat.succ_lt_succ (fidx_lt h1)
theorem putF_set {x : Str} {v : V} : ∀ {ns : List Str} {vs : List V} {i : Nat}, fidx x ns = some i → ns.length = vs.length → putF x v (ns.zip vs) = ns.zip (vs.set i v)
  | [], _, _, h, _ => by cases h
  | y :: ns, [], _, _, hl => by cases hl
  | y :: ns, u :: vs, i, h, hl => by
    unfold fidx at h
    rw [List.zip_cons_cons, show putF x v ((y, u) :: ns.zip vs) = (if y = x then (y, v) :: ns.zip vs else (y, u) :: putF x v (ns.zip vs)) from rfl]
    by_cases e : y = x
    · rw [if_pos e] at h
      cases h
      rw [if_pos e]
      rfl
    · rw [if_neg e] at h
      obtain ⟨j, h1, h2⟩ := map_some h
      subst h2
      rw [if_neg e, putF_set h1 (Nat.succ.inj hl)]
      rfl
theorem putF_new {x : Str} {v : V} : ∀ {ns : List Str} {vs : List V}, fidx x ns = none → ns.length = vs.length → putF x v (ns.zip vs) = (ns ++ [x]).zip (vs ++ [v])
  | [], [], _, _ => rfl
  | [], _ :: _, _, hl => by cases hl
  | y :: ns, [], _, hl => by cases hl
  | y :: ns, u :: vs, h, hl => by
    unfold fidx at h
    rw [List.zip_cons_cons, show putF x v ((y, u) :: ns.zip vs) = (if y = x then (y, v) :: ns.zip vs else (y, u) :: putF x v (ns.zip vs)) from rfl]
    by_cases e : y = x
    · rw [if_pos e] at h
      cases h
    · rw [if_neg e] at h
      have h1 : fidx x ns = none := Option.map_eq_none_iff.mp h
      rw [if_neg e, putF_new h1 (Nat.succ.inj hl)]
      rfl
theorem RL_lens : ∀ {ds : List D} {vs : List V} {F : List Addr} {j : Nat} {d : D}, RL K W ds vs F → ds[j]? = some d → ∃ v A B C, vs[j]? = some v ∧ F = A ++ (B ++ C) ∧ R K W d v B ∧
    ∀ (W' : Wd) (d' : D) (v' : V) (G : List Addr), Lt W W' → (∀ b ∈ A ++ C, W'.H b = W.H b) → R K W' d' v' G → RL K W' (ds.set j d') (vs.set j v') (A ++ (G ++ C))
  | [], _, _, j, _, _, h => by simp at h
  | d0 :: ds, _, _, 0, d, h, h1 => by
    obtain ⟨v, vs', F1, F2, e1, e2, e3, e4⟩ := h
    have e : d0 = d := Option.some.inj h1
    subst e
    exact ⟨v, [], F1, F2, by rw [e1]; rfl, e4, e2, fun W' d' v' G lt k r => by rw [e1]; exact ⟨v', vs', G, F2, rfl, r, RL_keep lt ds (fun b hb => k b hb) e3, rfl⟩⟩
  | d0 :: ds, _, _, j + 1, d, h, h1 => by
    obtain ⟨v, vs', F1, F2, e1, e2, e3, e4⟩ := h
    obtain ⟨u, A, B, C, q1, q2, q3, q4⟩ := RL_lens (j := j) e3 (by simpa using h1)
    refine ⟨u, F1 ++ A, B, C, by rw [e1]; simpa using q1, by rw [e4, q2, List.append_assoc], q3, fun W' d' v' G lt k r => ?_⟩
    rw [e1]
    refine ⟨v, vs'.set j v', F1, A ++ (G ++ C), rfl, R_keep lt d0 (fun b hb => k b ?_) e2, q4 W' d' v' G lt (fun b hb => k b ?_) r, by rw [List.append_assoc]⟩
    · exact List.mem_append_left _ (List.mem_append_left _ hb)
    · rcases List.mem_append.mp hb with z | z
      · exact List.mem_append_left _ (List.mem_append_right _ z)
      · exact List.mem_append_right _ z
end
end Fw
/-! # fields seen apart and set; how an expression that changes something ends -/
namespace Fw
open PySem PySem.Spec PyProof.Rows L2
open Evl (Ex)
def isUn : D → Bool
  | .un => true
  | _ => false
theorem isUn_ne {d : D} (h : isUn d = false) : d ≠ .un := fun z => by
  subst z
  cases h
section
variable {K : PySem.W.Frag} {W : Wd} {σ τ τ2 : L2.St} {ρ μ xs xs2 : List D} {F : List Addr}
/-- a field of an instance that stands apart -/
theorem foc_fld {o : Option V} {c : Str} {ns : List Str} {ds : List D} {x : Str} {i : Nat} {d : D} (S : Sta K W [o] [.obj c ns ds] μ F) (hx : fidx x ns = some i) (hi : ds[i]? = some d) :
    ∃ a dx vs v, o = some (.ref a) ∧ W.H a = some (.ins (He.ga K c) dx (ns.zip vs)) ∧ ns.length = ds.length ∧ vs.length = ds.length ∧ (ns.zip vs).lookup x = some v ∧ Foc K W [o] [.obj c ns ds] μ F [some v] [d] (put1 fun d' => if isUn d' = true then none else some [.obj c ns (ds.set i d')]) := by
  obtain ⟨G0, F0, r, S0, e0⟩ := sta_tail S
  rw [R1_iff] at r
  rcases r with ⟨z, _⟩ | ⟨u, rfl, a, dx, vs, F', rfl, hH, hn, hR, rfl⟩
  · cases z
  obtain ⟨v, A, B, C, q1, q2, q3, q4⟩ := RL_lens hR hi
  subst q2
  have lv := RL_len hR
  have hv : (ns.zip vs).lookup x = some v := by
    rw [fidx_lookup hx (by rw [hn, lv])]
    exact q1
  refine ⟨a, dx, vs, v, rfl, hH, hn, lv, hv, ?_⟩
  obtain ⟨⟨F1, F2, p1, p2, p3⟩, nd0, own0, ok⟩ := S0
  obtain ⟨_, rfl⟩ := p1
  have e3 : F0 = F2 := p3
  subst e3
  have nd := S.nd
  have own := S.own
  rw [e0] at nd own
  -- B and the store on the one side; a, A, C on the other
  have pm : (a :: (A ++ (B ++ C)) ++ F0).Perm (B ++ F0 ++ (a :: (A ++ C))) := by
    have z1 : (a :: (A ++ (B ++ C)) ++ F0).Perm (B ++ (a :: (A ++ C)) ++ F0) := by
      refine List.Perm.append_right F0 ?_
      exact ((List.perm_append_comm_assoc A B C).cons a).trans List.perm_middle.symm
    refine z1.trans ?_
    rw [List.append_assoc, List.append_assoc]
    exact List.Perm.append_left B List.perm_append_comm
  have nd2 := nodup_of_perm pm.symm nd
  have nd3 := List.nodup_append.mp nd2
  have inB : ∀ b ∈ B ++ F0, b ∈ F := fun b hb => by
    rw [e0]
    exact pm.mem_iff.mpr (List.mem_append_left _ hb)
  have inR : ∀ b ∈ a :: (A ++ C), b ∈ F ∧ b ∉ B ++ F0 := fun b hb => ⟨by rw [e0]; exact pm.mem_iff.mpr (List.mem_append_right _ hb), fun z => nd3.2.2 b z b hb rfl⟩
  refine ⟨B ++ F0, ⟨⟨B, F0, ⟨some v, [], B, [], rfl, R1_of q3, ⟨rfl, rfl⟩, (List.append_nil B).symm⟩, p2, rfl⟩, nd3.1, fun b hb => S.own b (inB b hb), ok⟩, inB, fun W' xs' μ' Fc' G E ρ' hp S' ndG ownG hE mv => ?_⟩
  obtain ⟨d', rfl⟩ : ∃ d', xs' = [d'] := by
    obtain ⟨F1, F2, h1, _, _⟩ := S'.ex
    exact RS_one h1
  have hne : d' ≠ .un := fun z => by
    subst z
    cases hp
  have hp2 : ρ' = [.obj c ns (ds.set i d')] := by
    cases d' <;> first
      | exact absurd rfl hne
      | (cases hp; rfl)
  subst hp2
  have lt := mv.lt fun b hb => (List.mem_append.mp hb).elim (fun z => (hE b z).1) fun z => S.own b (inB b z)
  have nE : ∀ b, b ∈ F → b ∉ B ++ F0 → b ∉ E ++ (B ++ F0) := fun b h h' z => (List.mem_append.mp z).elim (fun z => (hE b z).2 h) h'
  have inEB : ∀ b, b ∈ E ++ (B ++ F0) → b ∈ E ++ F := fun b z => (List.mem_append.mp z).elim (List.mem_append_left _) fun z => List.mem_append_right _ (inB b z)
  have stay : ∀ b ∈ a :: (A ++ C), W'.H b = W.H b := fun b hb => by
    obtain ⟨h4, h5⟩ := inR b hb
    obtain ⟨_, w⟩ := S.own b h4
    rcases w with ⟨ys, w⟩ | ⟨Cc, dx, fs, w⟩
    · rw [w]
      exact mv.keep b _ w (nE b h4 h5)
    · rw [w]
      exact mv.keep b _ w (nE b h4 h5)
  have apart : ∀ b ∈ G ++ Fc', b ∉ a :: (A ++ C) := fun b hb z => by
    obtain ⟨h4, h5⟩ := inR b z
    rcases mv.own b hb with q | q
    · exact nE b h4 h5 q
    · obtain ⟨_, w⟩ := S.own b h4
      rcases w with ⟨ys, w⟩ | ⟨Cc, dx, fs, w⟩ <;> rw [q] at w <;> cases w
  obtain ⟨G1, Fs, r1, S1, e1⟩ := sta_tail S'
  rw [R1_iff] at r1
  rcases r1 with ⟨z, _⟩ | ⟨v', ev, r1⟩
  · exact absurd z hne
  injection ev with ev
  subst ev
  obtain ⟨⟨F5, F6, w1, w2, w3⟩, nd5, own5, ok5⟩ := S1
  obtain ⟨_, rfl⟩ := w1
  have e6 : Fs = F6 := w3
  subst e6
  subst e1
  have hset : vs.set i v = vs := set_self q1
  have rr := q4 W' d' v G1 lt (fun b hb => stay b (List.mem_cons_of_mem _ hb)) r1
  rw [hset] at rr
  have robj : R K W' (.obj c ns (ds.set i d')) (.ref a) (a :: (A ++ (G1 ++ C))) := ⟨a, dx, vs, _, rfl, by rw [stay a (List.mem_cons_self ..)]; exact hH, by rw [List.length_set]; exact hn, rr, rfl⟩
  have pm2 : (G ++ ((a :: (A ++ (G1 ++ C))) ++ Fs)).Perm (G ++ (G1 ++ Fs) ++ (a :: (A ++ C))) := by
    rw [List.append_assoc G]
    refine List.Perm.append_left G ?_
    have z1 : (a :: (A ++ (G1 ++ C)) ++ Fs).Perm (G1 ++ (a :: (A ++ C)) ++ Fs) := by
      refine List.Perm.append_right Fs ?_
      exact ((List.perm_append_comm_assoc A G1 C).cons a).trans List.perm_middle.symm
    refine z1.trans ?_
    rw [List.append_assoc, List.append_assoc]
    exact List.Perm.append_left G1 List.perm_append_comm
  have ndA : (G ++ ((a :: (A ++ (G1 ++ C))) ++ Fs)).Nodup := nodup_of_perm pm2 (List.nodup_append.mpr ⟨ndG, nd3.2.1, fun b hb b' hb' z => apart b hb (z ▸ hb')⟩)
  have ownA : ∀ b ∈ G ++ (G1 ++ Fs) ++ (a :: (A ++ C)), b ∉ G → Own W' b := fun b hb hG => by
    rcases List.mem_append.mp hb with z | z
    · rcases List.mem_append.mp z with z | z
      · exact absurd z hG
      · exact S'.own b z
    · obtain ⟨h4, h5⟩ := inR b z
      obtain ⟨w1, w2⟩ := S.own b h4
      refine ⟨fun z' => ?_, by rw [stay b z]; exact w2⟩
      rcases mv.nf b z' with q | q | q
      · exact w1 q
      · rcases w2 with ⟨ys, w⟩ | ⟨Cc, dx, fs, w⟩ <;> rw [q] at w <;> cases w
      · exact nE b h4 h5 q
  have ndB := List.nodup_append.mp ndA
  refine ⟨(a :: (A ++ (G1 ++ C))) ++ Fs, ⟨⟨_, Fs, ⟨some (.ref a), [], _, [], rfl, R1_of robj, ⟨rfl, rfl⟩, (List.append_nil _).symm⟩, w2, rfl⟩, ndB.2.1, fun b hb => ownA b (pm2.mem_iff.mp (List.mem_append_right _ hb)) (fun z => ndB.2.2 b z b hb rfl), ok5⟩, ndA, ⟨fun b o e n => mv.keep b o e fun z => n (inEB b z), mv.fr, fun b e => (mv.nf b e).elim .inl fun z => .inr (z.elim .inl fun z => .inr (inEB b z)), fun b hb => ?_, mv.m⟩⟩
  rcases List.mem_append.mp (pm2.mem_iff.mp hb) with z | z
  · exact (mv.own b z).elim (fun q => .inl (inEB b q)) .inr
  · exact .inl (List.mem_append_right _ (inR b z).1)
end
end Fw
/-! # paths; a field is set; PX -/
namespace Fw
open PySem PySem.Spec PyProof.Rows L2
open Evl (Ex)
abbrev OkT := Str → Str → Bool
/-- the classes' table: ok c x: an instance of c may have a field x -/
def CE (K : PySem.W.Frag) (ok : OkT) : Prop := ∀ c x, ok c x = true → Cls K (He.ga K c) ∧ NoAttr K (He.ga K c) x
def pget (ok : OkT) : List Str → D → Option D
  | [], d => if isUn d = true then none else some d
  | x :: p, .obj c ns ds => if ok c x = true then (fidx x ns).bind fun i => (ds[i]?).bind (pget ok p) else none
  | _ :: _, _ => none
def pput : List Str → D → D → Option D
  | [], _, e => if isUn e = true then none else some e
  | x :: p, .obj c ns ds, e => (fidx x ns).bind fun i => (ds[i]?).bind fun d => (pput p d e).map fun d' => .obj c ns (ds.set i d')
  | _ :: _, _, _ => none
theorem pput_ne : ∀ {p : List Str} {d e d' : D}, pput p d e = some d' → isUn d' = false
  | [], _, e, d', h => by
    unfold pput at h
    by_cases z : isUn e = true
    · rw [if_pos z] at h
      cases h
    · rw [if_neg z] at h
      cases h
      exact Bool.eq_false_iff.mpr z
  | x :: p, .obj c ns ds, e, d', h => by
    obtain ⟨i, _, h⟩ := bind_some h
    obtain ⟨d, _, h⟩ := bind_some h
    obtain ⟨d2, _, rfl⟩ := map_some h
    rfl
  | x :: p, .non, e, d', h => by cases h
  | x :: p, .bl _, e, d', h => by cases h
  | x :: p, .int _, e, d', h => by cases h
  | x :: p, .str _, e, d', h => by cases h
  | x :: p, .tup _, e, d', h => by cases h
  | x :: p, .lst _, e, d', h => by cases h
  | x :: p, .ml _, e, d', h => by cases h
  | x :: p, .fo _ _ _, e, d', h => by cases h
  | x :: p, .ref _, e, d', h => by cases h
  | x :: p, .un, e, d', h => by cases h
/-- along the fields of the heap -/
def rdp (K : PySem.W.Frag) (H : Hp) : V → List Str → V → Prop
  | u, [], v => u = v
  | u, x :: p, v => ∃ a C dx fs w, u = .ref a ∧ H a = some (.ins C dx fs) ∧ Cls K C ∧ NoAttr K C x ∧ fs.lookup x = some w ∧ rdp K H w p v
theorem rdp_app {K : PySem.W.Frag} {H : Hp} {q : List Str} : ∀ {p : List Str} {u v : V}, rdp K H u (p ++ q) v → ∃ w, rdp K H u p w ∧ rdp K H w q v
  | [], u, v, h => ⟨u, rfl, h⟩
  | x :: p, u, v, h => by
    obtain ⟨a, C, dx, fs, w, h1, h2, h3, h4, h5, h6⟩ := h
    obtain ⟨z, h7, h8⟩ := rdp_app (p := p) h6
    exact ⟨z, ⟨a, C, dx, fs, w, h1, h2, h3, h4, h5, h7⟩, h8⟩
section
variable {K : PySem.W.Frag} {W : Wd} {σ τ τ2 : L2.St} {ρ μ xs xs2 : List D} {F : List Addr} {ok : OkT}
theorem foc_path (T : CE K ok) : ∀ (p : List Str) {μ : List D} {F : List Addr} {o : Option V} {d e : D}, Sta K W [o] [d] μ F → pget ok p d = some e → ∃ u v, o = some u ∧ rdp K W.H u p v ∧ Foc K W [o] [d] μ F [some v] [e] (put1 fun e' => (pput p d e').map fun d' => [d'])
  | [], μ, F, o, d, e, S, h => by
    unfold pget at h
    by_cases z : isUn d = true
    · rw [if_pos z] at h
      cases h
    rw [if_neg z] at h
    cases h
    obtain ⟨G, F', r, S', e1⟩ := sta_tail S
    rw [R1_iff] at r
    rcases r with ⟨q, _⟩ | ⟨v, rfl, r⟩
    · subst q
      exact absurd rfl z
    refine ⟨v, v, rfl, rfl, F, S, fun _ h => h, fun W' xs' μ' Fc' G E ρ' hp S' nd own hE mv => ?_⟩
    obtain ⟨d', rfl⟩ : ∃ d', xs' = [d'] := by
      obtain ⟨F1, F2, h1, _, _⟩ := S'.ex
      exact RS_one h1
    have hp2 : (pput [] d d').map (fun d' => [d']) = some ρ' := hp
    unfold pput at hp2
    by_cases z : isUn d' = true
    · rw [if_pos z] at hp2
      cases hp2
    rw [if_neg z] at hp2
    cases hp2
    exact ⟨Fc', S', nd, mv⟩
  | x :: p, μ, F, o, .obj c ns ds, e, S, h => by
    unfold pget at h
    by_cases hk : ok c x = true
    case neg => rw [if_neg hk] at h; cases h
    rw [if_pos hk] at h
    obtain ⟨i, h1, h⟩ := bind_some h
    obtain ⟨d, h2, h⟩ := bind_some h
    obtain ⟨a, dx, vs, v, rfl, q1, q2, q3, q4, fo⟩ := foc_fld S h1 h2
    have fo2 := fo
    obtain ⟨Fc, S2, _, _⟩ := fo2
    obtain ⟨w, v2, e1, r2, _⟩ := foc_path T p S2 h
    injection e1 with e1
    subst e1
    obtain ⟨cl, na⟩ := T c x hk
    refine ⟨.ref a, v2, rfl, ⟨a, _, dx, _, v, rfl, q1, cl, na, q4, r2⟩, ?_⟩
    refine (fo.trans (put2 := put1 fun e' => (pput p d e').map fun d' => [d']) (fun Fd Sd => ?_)).put_imp ?_
    · obtain ⟨w', v3, e2, r3, fo3⟩ := foc_path T p Sd h
      injection e2 with e2
      subst e2
      have det : ∀ {p : List Str} {u v v' : V}, rdp K W.H u p v → rdp K W.H u p v' → v = v' := by
        intro p
        induction p with
        | nil => exact fun h h' => h.symm.trans h'
        | cons y p ih =>
          rintro u v v' ⟨a, C, dx, fs, w, h1, h2, h3, h4, h5, h6⟩ ⟨a', C', dx', fs', w', g1, g2, g3, g4, g5, g6⟩
          subst h1
          cases g1
          rw [h2] at g2
          cases g2
          rw [h5] at g5
          cases g5
          exact ih h6 g6
      rw [det r2 r3]
      exact fo3
    · intro ys zs hz
      match ys, hz with
      | [e'], hz =>
        have hz2 : (pput (x :: p) (.obj c ns ds) e').map (fun d' => [d']) = some zs := hz
        unfold pput at hz2
        rw [h1] at hz2
        obtain ⟨d3, hz3, rfl⟩ := map_some hz2
        obtain ⟨d4, h5, hz4⟩ := bind_some (show (ds[i]?).bind (fun d => (pput p d e').map fun d' => D.obj c ns (ds.set i d')) = some d3 from hz3)
        rw [h2] at h5
        cases h5
        obtain ⟨d5, h6, rfl⟩ := map_some hz4
        show ((pput p d e').map fun d' => [d']).bind _ = _
        rw [h6]
        show (if isUn d5 = true then none else some [D.obj c ns (ds.set i d5)]) = _
        rw [if_neg (by rw [pput_ne h6]; exact Bool.false_ne_true)]
  | x :: p, μ, F, o, .non, e, S, h => by cases h
  | x :: p, μ, F, o, .bl _, e, S, h => by cases h
  | x :: p, μ, F, o, .int _, e, S, h => by cases h
  | x :: p, μ, F, o, .str _, e, S, h => by cases h
  | x :: p, μ, F, o, .tup _, e, S, h => by cases h
  | x :: p, μ, F, o, .lst _, e, S, h => by cases h
  | x :: p, μ, F, o, .ml _, e, S, h => by cases h
  | x :: p, μ, F, o, .fo _ _ _, e, S, h => by cases h
  | x :: p, μ, F, o, .ref _, e, S, h => by cases h
  | x :: p, μ, F, o, .un, e, S, h => by cases h
theorem pget_ne : ∀ {p : List Str} {d e : D}, pget ok p d = some e → isUn d = false ∧ isUn e = false
  | [], d, e, h => by
    unfold pget at h
    by_cases z : isUn d = true
    · rw [if_pos z] at h
      cases h
    rw [if_neg z] at h
    cases h
    exact ⟨Bool.eq_false_iff.mpr z, Bool.eq_false_iff.mpr z⟩
  | x :: p, .obj c ns ds, e, h => by
    unfold pget at h
    by_cases hk : ok c x = true
    case neg => rw [if_neg hk] at h; cases h
    rw [if_pos hk] at h
    obtain ⟨i, h1, h⟩ := bind_some h
    obtain ⟨d, h2, h⟩ := bind_some h
    exact ⟨rfl, (pget_ne h).2⟩
  | x :: p, .non, e, h => by cases h
  | x :: p, .bl _, e, h => by cases h
  | x :: p, .int _, e, h => by cases h
  | x :: p, .str _, e, h => by cases h
  | x :: p, .tup _, e, h => by cases h
  | x :: p, .lst _, e, h => by cases h
  | x :: p, .ml _, e, h => by cases h
  | x :: p, .fo _ _ _, e, h => by cases h
  | x :: p, .ref _, e, h => by cases h
  | x :: p, .un, e, h => by cases h
/-- a slot's part at a path -/
theorem foc_sp (T : CE K ok) (S : Sta K W σ ρ μ F) {i : Nat} {p : List Str} {d e : D} (hi : ρ[i]? = some d) (hp : pget ok p d = some e) :
    ∃ u v, σ[i]? = some (some u) ∧ rdp K W.H u p v ∧ Foc K W σ ρ μ F [some v] [e] (put1 fun e' => (pput p d e').map fun d' => ρ.set i d') := by
  obtain ⟨u, hu, fo⟩ := foc_slot S hi (isUn_ne (pget_ne hp).1)
  have fo2 := fo
  obtain ⟨Fc, S2, _⟩ := fo2
  obtain ⟨u', v, e1, r2, _⟩ := foc_path T p S2 hp
  injection e1 with e1
  subst e1
  refine ⟨u, v, hu, r2, ?_⟩
  refine (fo.trans (put2 := put1 fun e' => (pput p d e').map fun d' => [d']) (fun Fd Sd => ?_)).put_imp ?_
  · obtain ⟨w', v3, e2, r3, fo3⟩ := foc_path T p Sd hp
    injection e2 with e2
    subst e2
    have det : ∀ {p : List Str} {u v v' : V}, rdp K W.H u p v → rdp K W.H u p v' → v = v' := by
      intro p
      induction p with
      | nil => exact fun h h' => h.symm.trans h'
      | cons y p ih =>
        rintro u v v' ⟨a, C, dx, fs, w, h1, h2, h3, h4, h5, h6⟩ ⟨a', C', dx', fs', w', g1, g2, g3, g4, g5, g6⟩
        subst h1
        cases g1
        rw [h2] at g2
        cases g2
        rw [h5] at g5
        cases g5
        exact ih h6 g6
    rw [det r2 r3]
    exact fo3
  · intro ys zs hz
    match ys, hz with
    | [e'], hz =>
      obtain ⟨d3, h6, rfl⟩ := map_some (show (pput p d e').map (fun d' => ρ.set i d') = some zs from hz)
      show ((pput p d e').map fun d' => [d']).bind _ = _
      rw [h6]
      rfl
/-! ### a field is set -/
def putD (x : Str) (d : D) (c : Str) (ns : List Str) (ds : List D) : D := match fidx x ns with
  | some i => .obj c ns (ds.set i d)
  | none => .obj c (ns ++ [x]) (ds ++ [d])
theorem Lt.upd_ins {W : Wd} {a C dx C' dx' : Addr} {fs fs' : List (Str × V)} (h : W.H a = some (.ins C dx fs)) (hf : ¬ W.Fr a) : Lt W ⟨upd W.H a (.ins C' dx' fs'), W.Fr, W.m⟩ := by
  have ne : ∀ b o, W.H b = some o → (∀ C dx fs, o ≠ .ins C dx fs) → upd W.H a (.ins C' dx' fs') b = some o := fun b o e n => by
    rw [upd_ne fun z => ?_]
    · exact e
    · subst z
      rw [h] at e
      exact n _ _ _ (Option.some.inj e).symm
  refine ⟨fun b xs r => ?_, fun b xs r => ⟨?_, r.2⟩, fun b C dx fs r r' => ⟨?_, r'⟩, fun _ _ h => h⟩
  · rcases r with r | ⟨o, r⟩
    · exact .inl (ne b _ r fun _ _ _ z => nomatch z)
    · exact .inr ⟨o, ne b _ r fun _ _ _ z => nomatch z⟩
  · rcases r.1 with r | ⟨o, r⟩
    · exact .inl (ne b _ r fun _ _ _ z => nomatch z)
    · exact .inr ⟨o, ne b _ r fun _ _ _ z => nomatch z⟩
  · show upd W.H a _ b = _
    rw [upd_ne fun z => hf (by rw [← z]; exact r')]
    exact r
/-- the instance with the value in its field -/
theorem R_put {a dx : Addr} {c x : Str} {ns : List Str} {ds : List D} {vs : List V} {F' Gy : List Addr} {dy : D} {y : V} (hH : W.H a = some (.ins (He.ga K c) dx (ns.zip vs))) (hn : ns.length = ds.length) (hR : RL K W ds vs F') (ry : R K W dy y Gy)
    (nd : (Gy ++ (a :: F')).Nodup) (hf : ¬ W.Fr a) : ∃ F'', R K ⟨upd W.H a (.ins (He.ga K c) dx (putF x y (ns.zip vs))), W.Fr, W.m⟩ (putD x dy c ns ds) (.ref a) F'' ∧ F''.Nodup ∧ ∀ b ∈ F'', b ∈ Gy ++ (a :: F') := by
  have lt : Lt W ⟨upd W.H a (.ins (He.ga K c) dx (putF x y (ns.zip vs))), W.Fr, W.m⟩ := Lt.upd_ins hH hf
  have nd1 := List.nodup_append.mp nd
  have nd2 := List.nodup_cons.mp nd1.2.1
  have lv := RL_len hR
  have off : ∀ b, b ≠ a → (⟨upd W.H a (.ins (He.ga K c) dx (putF x y (ns.zip vs))), W.Fr, W.m⟩ : Wd).H b = W.H b := fun b hb => upd_ne hb
  have offF : ∀ b ∈ F', b ≠ a := fun b hb z => nd2.1 (z ▸ hb)
  have offG : ∀ b ∈ Gy, b ≠ a := fun b hb z => nd1.2.2 b hb a (List.mem_cons_self ..) z
  have ry' : R K ⟨upd W.H a (.ins (He.ga K c) dx (putF x y (ns.zip vs))), W.Fr, W.m⟩ dy y Gy := R_keep lt dy (fun b hb => off b (offG b hb)) ry
  unfold putD
  cases e : fidx x ns with
  | some i =>
    have hi : i < ds.length := by
      rw [← hn]
      exact fidx_lt e
    obtain ⟨v, A, B, C, q1, q2, q3, q4⟩ := RL_lens (j := i) (d := ds[i]) hR (List.getElem?_eq_getElem hi)
    subst q2
    have rr := q4 _ dy y Gy lt (fun b hb => off b (offF b (by
      rcases List.mem_append.mp hb with z | z
      · exact List.mem_append_left _ z
      · exact List.mem_append_right _ (List.mem_append_right _ z)))) ry'
    refine ⟨a :: (A ++ (Gy ++ C)), ⟨a, dx, vs.set i y, _, rfl, ?_, by rw [List.length_set]; exact hn, rr, rfl⟩, ?_, fun b hb => ?_⟩
    · show upd W.H a _ a = _
      rw [upd_same, putF_set e (by rw [hn, lv])]
    · have pm : (Gy ++ (a :: (A ++ C))).Perm (a :: (A ++ (Gy ++ C))) := List.perm_middle.trans ((List.perm_append_comm_assoc Gy A C).cons a)
      have sub : (Gy ++ (a :: (A ++ C))).Sublist (Gy ++ (a :: (A ++ (B ++ C)))) := List.Sublist.append (List.Sublist.refl Gy) ((List.Sublist.append (List.Sublist.refl A) (List.sublist_append_right B C)).cons₂ a)
      exact nodup_of_perm pm.symm (nd.sublist sub)
    · rcases List.mem_cons.mp hb with z | z
      · rw [z]
        exact List.mem_append_right _ (List.mem_cons_self ..)
      · rcases List.mem_append.mp z with z | z
        · exact List.mem_append_right _ (List.mem_cons_of_mem _ (List.mem_append_left _ z))
        · rcases List.mem_append.mp z with z | z
          · exact List.mem_append_left _ z
          · exact List.mem_append_right _ (List.mem_cons_of_mem _ (List.mem_append_right _ (List.mem_append_right _ z)))
  | none =>
    have rr : RL K ⟨upd W.H a (.ins (He.ga K c) dx (putF x y (ns.zip vs))), W.Fr, W.m⟩ (ds ++ [dy]) (vs ++ [y]) (F' ++ Gy) := RL_app (RL_keep lt ds (fun b hb => off b (offF b hb)) hR) ⟨y, [], Gy, [], rfl, ry', ⟨rfl, rfl⟩, (List.append_nil Gy).symm⟩
    refine ⟨a :: (F' ++ Gy), ⟨a, dx, vs ++ [y], _, rfl, ?_, by rw [List.length_append, List.length_append, hn]; rfl, rr, rfl⟩, ?_, fun b hb => ?_⟩
    · show upd W.H a _ a = _
      rw [upd_same, putF_new e (by rw [hn, lv])]
    · have pm : (Gy ++ (a :: F')).Perm (a :: (F' ++ Gy)) := List.perm_middle.trans (List.perm_append_comm.cons a)
      exact nodup_of_perm pm.symm nd
    · rcases List.mem_cons.mp hb with z | z
      · rw [z]
        exact List.mem_append_right _ (List.mem_cons_self ..)
      · rcases List.mem_append.mp z with z | z
        · exact List.mem_append_right _ (List.mem_cons_of_mem _ z)
        · exact List.mem_append_left _ z
end
end Fw
/-! # PX: expressions that change something, or raise -/
namespace Fw
open PySem PySem.Spec PyProof.Rows L2
open Evl (Ex)
inductive EO where
  | ok (d : D) (ρ μ : List D) | ex (c : Str) (fs : List (Str × D)) (ρ μ : List D)
abbrev FX := List D → List D → Option EO
def GoesE (K : PySem.W.Frag) (Wx : WX) (Q : VK) (σ : L2.St) (W : Wd) (F : List Addr) : EO → Prop
  | .ok d ρ' μ' => ∀ v W' G F', R K W' d v G → Sta K W' σ ρ' μ' F' → (G ++ F').Nodup → (∀ a ∈ G, Own W' a) → Mv W W' F (G ++ F') → Q v W'.H
  | .ex c fs ρ' μ' => ∀ dx W' F', ExAt K W' fs dx → Sta K W' σ ρ' μ' F' → Mv W W' F F' → Wx (.ref (He.ga K c)) dx σ W'.H
def PXr (X : Cx) (Wx : WX) (te : TE) (g : FX) : Prop := ∀ (σ : L2.St) (W : Wd) (ρ μ : List D) (F : List Addr), Sta X.K W σ ρ μ F → ∀ o, g ρ μ = some o → ∀ Q : VK, GoesE X.K Wx Q σ W F o → te σ W.H Q
def PX (X : Cx) (Wx : WX) (e : Expr) (g : FX) : Prop := ∃ te : TE, PE X e te ∧ PXr X Wx te g
def GoesT (K : PySem.W.Frag) (Wx : WX) (Q : Bool → Hp → Prop) (σ : L2.St) (W : Wd) (F : List Addr) : EO → Prop
  | .ok d ρ' μ' => match d with
    | .bl b => ∀ W' F', Sta K W' σ ρ' μ' F' → Mv W W' F F' → Q b W'.H
    | _ => False
  | .ex c fs ρ' μ' => ∀ dx W' F', ExAt K W' fs dx → Sta K W' σ ρ' μ' F' → Mv W W' F F' → Wx (.ref (He.ga K c)) dx σ W'.H
def PTr (X : Cx) (Wx : WX) (tt : TT) (g : FX) : Prop := ∀ (σ : L2.St) (W : Wd) (ρ μ : List D) (F : List Addr), Sta X.K W σ ρ μ F → ∀ o, g ρ μ = some o → ∀ Q : Bool → Hp → Prop, GoesT X.K Wx Q σ W F o → tt σ W.H Q
def PTX (X : Cx) (Wx : WX) (e : Expr) (g : FX) : Prop := ∃ tt : TT, PT X e tt ∧ PTr X Wx tt g
def PWX (X : Cx) (Wx : WX) (e : Expr) (g : FX) : Prop := ∃ tt : TT, PW X e tt ∧ PTr X Wx tt g
theorem GoesE.after {K : PySem.W.Frag} {Wx : WX} {Q : VK} {σ : L2.St} {W W1 : Wd} {F F1 : List Addr} {o : EO} (h : GoesE K Wx Q σ W F o) (m : Mv W W1 F F1) : GoesE K Wx Q σ W1 F1 o := by
  cases o with
  | ok d ρ' μ' => exact fun v W' G F' r S nd own mv => h v W' G F' r S nd own (m.trans mv)
  | ex c fs ρ' μ' => exact fun dx W' F' r S mv => h dx W' F' r S (m.trans mv)
theorem GoesT.after {K : PySem.W.Frag} {Wx : WX} {Q : Bool → Hp → Prop} {σ : L2.St} {W W1 : Wd} {F F1 : List Addr} {o : EO} (h : GoesT K Wx Q σ W F o) (m : Mv W W1 F F1) : GoesT K Wx Q σ W1 F1 o := by
  cases o with
  | ok d ρ' μ' => cases d <;> first
    | exact h
    | exact fun W' F' S mv => h W' F' S (m.trans mv)
  | ex c fs ρ' μ' => exact fun dx W' F' r S mv => h dx W' F' r S (m.trans mv)
theorem GoesE.ex_of {K : PySem.W.Frag} {Wx : WX} {Q Q' : VK} {σ : L2.St} {W : Wd} {F : List Addr} {c : Str} {fs : List (Str × D)} {ρ μ : List D} (h : GoesE K Wx Q σ W F (.ex c fs ρ μ)) : GoesE K Wx Q' σ W F (.ex c fs ρ μ) := h
/-! ### values with no place of their own -/
def fl : D → Bool
  | .ref _ => true
  | d => data d
theorem R_fl {K : PySem.W.Frag} {W : Wd} {d : D} {v : V} {F : List Addr} (h : fl d = true) (r : R K W d v F) : F = [] := by
  cases d with
  | ref k =>
    obtain ⟨a, _, _, e⟩ := r
    exact e
  | _ => exact R_data _ h r
theorem R_mv {K : PySem.W.Frag} {W W' : Wd} {d : D} {v : V} {σ : L2.St} {ρ μ : List D} {F F' : List Addr} (S : Sta K W σ ρ μ F) (m : Mv W W' F F') (r : R K W d v []) : R K W' d v [] := R_lt (m.lt S.own) d r
theorem RL_mv {K : PySem.W.Frag} {W W' : Wd} {ds : List D} {vs : List V} {σ : L2.St} {ρ μ : List D} {F F' : List Addr} (S : Sta K W σ ρ μ F) (m : Mv W W' F F') (r : RL K W ds vs []) : RL K W' ds vs [] := RL_lt (m.lt S.own) ds r
def xB (f : FX) (k : D → FX) : FX := fun ρ μ => (f ρ μ).bind fun o => match o with
  | .ok d ρ' μ' => if fl d = true then k d ρ' μ' else none
  | .ex c fs ρ' μ' => some (.ex c fs ρ' μ')
section
variable {X : Cx} {Wx : WX} {e a b c : Expr} {es : List Expr} {f g : FX} {pos : Pos} {ok : OkT}
theorem run_bind {te : TE} {k : D → FX} (h1 : PXr X Wx te f) {σ : L2.St} {W : Wd} {ρ μ : List D} {F : List Addr} (S : Sta X.K W σ ρ μ F) {o : EO} (ho : xB f k ρ μ = some o) {Q : VK} (hx : ∀ c fs ρ' μ', o = .ex c fs ρ' μ' → GoesE X.K Wx Q σ W F (.ex c fs ρ' μ'))
    (hk : ∀ d v W1 ρ1 μ1 F1, fl d = true → R X.K W1 d v [] → Sta X.K W1 σ ρ1 μ1 F1 → Mv W W1 F F1 → k d ρ1 μ1 = some o → Q v W1.H) : te σ W.H Q := by
  obtain ⟨o1, e1, ho⟩ := bind_some ho
  refine h1 σ W ρ μ F S o1 e1 Q ?_
  cases o1 with
  | ok d ρ1 μ1 =>
    by_cases hd : fl d = true
    case neg =>
      have ho2 : (if fl d = true then k d ρ1 μ1 else none) = some o := ho
      rw [if_neg hd] at ho2
      cases ho2
    have ho2 : (if fl d = true then k d ρ1 μ1 else none) = some o := ho
    rw [if_pos hd] at ho2
    intro v W' G F' r S' nd own mv
    have z := R_fl hd r
    subst z
    exact hk d v W' ρ1 μ1 F' hd r S' mv ho2
  | ex c fs ρ' μ' =>
    cases ho
    exact hx _ _ _ _ rfl
/-- what is quiet -/
def xQ (q : FQ) : FX := fun ρ μ => (q ρ μ).bind fun d => if fl d = true then some (.ok d ρ μ) else none
theorem px_q {q : FQ} (h : PQ X e q) : PX X Wx e (xQ q) := by
  obtain ⟨te, p, k⟩ := h
  refine ⟨te, p, fun σ W ρ μ F S o ho Q hQ => ?_⟩
  obtain ⟨d, e1, ho⟩ := bind_some ho
  by_cases hd : fl d = true
  case neg => rw [if_neg hd] at ho; cases ho
  rw [if_pos hd] at ho
  cases ho
  refine k σ W ρ μ F S d e1 Q fun v W' G x r => ?_
  have z := R_fl hd r
  subst z
  exact hQ v W' [] F r (S.ext x) S.nd (fun _ hb => nomatch hb) x.mvr
/-- a new list -/
def xN (k : FA) : FX := fun ρ μ => (k ρ μ).map fun ds => .ok (.ml ds) ρ μ
theorem px_n {k : FA} (h : PN X e k) : PX X Wx e (xN k) := by
  obtain ⟨te, p, k1⟩ := h
  refine ⟨te, p, fun σ W ρ μ F S o ho Q hQ => ?_⟩
  obtain ⟨ds, e1, z⟩ := map_some ho
  subst z
  refine k1 σ W ρ μ F S ds e1 Q fun p W' n => ?_
  obtain ⟨x, new, nofr, vs, h1, h2⟩ := n
  have pF : p ∉ F := fun z => by
    obtain ⟨_, w⟩ := S.own p z
    rcases w with ⟨xs, w⟩ | ⟨C, dx, fs, w⟩ <;> rw [new] at w <;> cases w
  exact hQ (.ref p) W' [p] F ⟨p, vs, [], rfl, h1, h2, rfl⟩ (S.ext x) (List.nodup_cons.mpr ⟨pF, S.nd⟩) (fun b hb => by
    obtain rfl := List.mem_singleton.mp hb
    exact ⟨nofr, .inl ⟨vs, h1⟩⟩) ⟨fun b o h _ => x.ex b o h, x.fr, fun b h => (x.nf b h).elim .inl fun z => .inr (.inl z), fun b hb => (List.mem_cons.mp hb).elim (fun z => .inr (z ▸ new)) .inl, ⟨[], by rw [x.m, List.append_nil]⟩⟩
/-- what a slot has, handed over -/
def xMove (i : Nat) : FX := fun ρ μ => (ρ[i]?).bind fun d => if isUn d = true then none else some (.ok d (ρ.set i .un) μ)
theorem px_move (i : Nat) {x : Str} (hp : PE X (.Name x pos) (tVar i)) : PX X Wx (.Name x pos) (xMove i) := by
  refine ⟨_, hp, fun σ W ρ μ F S o ho Q hQ => ?_⟩
  obtain ⟨d, e1, ho⟩ := bind_some ho
  by_cases hd : isUn d = true
  case pos => rw [if_pos hd] at ho; cases ho
  rw [if_neg hd] at ho
  cases ho
  obtain ⟨v, F', hv, S', pm⟩ := sta_out S e1 (isUn_ne (Bool.eq_false_iff.mpr hd))
  obtain ⟨G, F2, r, S2, e2⟩ := sta_tail S'
  rw [R1_iff] at r
  rcases r with ⟨z, _⟩ | ⟨v', ev, r⟩
  · exact absurd z (isUn_ne (Bool.eq_false_iff.mpr hd))
  injection ev with ev
  subst ev
  subst e2
  exact ⟨v, hv, hQ v W G F2 r S2 S'.nd (fun b hb => S'.own b (List.mem_append_left _ hb)) (((Ext.refl S.ok).mvr (F := F)).sub (fun _ h => h) fun b hb => pm.mem_iff.mp hb)⟩
/-! ### operators -/
def xOp (o : D → D → Option D) (f g : FX) : FX := xB f fun x => xB g fun y => fun ρ μ => (o x y).bind fun d => if data d = true then some (.ok d ρ μ) else none
theorem runX2 {ta tb : TE} {r : R2} {o : D → D → Option D} (h1 : PXr X Wx ta f) (h2 : PXr X Wx tb g)
    (h3 : ∀ (W : Wd) (x y : D) (u v : V) (G1 G2 : List Addr), WOk W → R X.K W x u G1 → R X.K W y v G2 → ∀ d, o x y = some d → ∀ Q : VK, (∀ v W' G, Ext W W' → R X.K W' d v G → Q v W'.H) → r u v W.H Q) : PXr X Wx (tOp r ta tb) (xOp o f g) := by
  intro σ W ρ μ F S o1 ho Q hQ
  refine run_bind h1 S ho (fun c fs ρ' μ' z => by subst z; exact hQ) fun x u W1 ρ1 μ1 F1 hx rx S1 m1 ho1 => ?_
  refine run_bind h2 S1 ho1 (fun c fs ρ' μ' z => by subst z; exact hQ.after m1) fun y v W2 ρ2 μ2 F2 hy ry S2 m2 ho2 => ?_
  obtain ⟨d, e1, ho2⟩ := bind_some ho2
  by_cases hd : data d = true
  case neg => rw [if_neg hd] at ho2; cases ho2
  rw [if_pos hd] at ho2
  cases ho2
  refine h3 W2 x y u v [] [] S2.ok (R_mv S1 m2 rx) ry d e1 Q fun z W3 G3 x3 r3 => ?_
  have e := R_data d hd r3
  subst e
  exact hQ z W3 [] F2 r3 (S2.ext x3) S2.nd (fun _ hb => nomatch hb) ((m1.trans m2).trans x3.mvr)
theorem px_op {op : Operator} {o : D → D → Option D} (h : OpD X (binaryOp op) o) (ha : PX X Wx a f) (hb : PX X Wx b g) : PX X Wx (.BinOp a op b pos) (xOp o f g) := by
  obtain ⟨r, hr, h3⟩ := h
  obtain ⟨ta, pa, h1⟩ := ha
  obtain ⟨tb, pb, h2⟩ := hb
  exact ⟨_, pe_op hr pa pb, runX2 h1 h2 h3⟩
theorem px_cmp {op : CmpOp} {o : D → D → Option D} (h : OpD X (compareOp op) o) (ha : PX X Wx a f) (hb : PX X Wx b g) (hm : behindInMarks op b = false) : PX X Wx (.Compare a [op] [b] pos) (xOp o f g) := by
  obtain ⟨r, hr, h3⟩ := h
  obtain ⟨ta, pa, h1⟩ := ha
  obtain ⟨tb, pb, h2⟩ := hb
  exact ⟨_, pe_cmpR hr pa pb hm, runX2 h1 h2 h3⟩
theorem px_ix (ha : PX X Wx a f) (hb : PX X Wx b g) (hs : PlainIx b := by exact fun _ _ => rfl) : PX X Wx (.Subscript a b pos) (xOp dIx f g) := by
  obtain ⟨r, hr, h3⟩ := (ixd_all (X := X))
  obtain ⟨ta, pa, h1⟩ := ha
  obtain ⟨tb, pb, h2⟩ := hb
  exact ⟨_, pe_ix hr pa pb hs, runX2 h1 h2 h3⟩
/-! ### tests -/
theorem GoesT.toE {K : PySem.W.Frag} {Q : Bool → Hp → Prop} {σ : L2.St} {W : Wd} {F : List Addr} {o : EO} (h : GoesT K Wx Q σ W F o) : GoesE K Wx (fun v H1 => ∃ b, v = .bl b ∧ Q b H1) σ W F o := by
  cases o with
  | ok d ρ' μ' =>
    cases d with
    | bl b =>
      intro v W' G F' r S nd own mv
      obtain ⟨rfl, rfl⟩ := r
      exact ⟨b, rfl, h W' F' S mv⟩
    | _ => exact h.elim
  | ex c fs ρ' μ' => exact h
theorem ptx_val (ha : PX X Wx a f) (he : ∀ whole, isTrue a X.env whole = (do let v ← whole; standAt a.pos; holding [v] (truthy v)) := by intro _; rfl) : PTX X Wx a f := by
  obtain ⟨ta, pa, h1⟩ := ha
  exact ⟨_, pt_val pa he, fun σ W ρ μ F S o ho Q hQ => h1 σ W ρ μ F S o ho _ hQ.toE⟩
theorem ptx_cmp {op : CmpOp} {o : D → D → Option D} (h : OpD X (compareOp op) o) (ha : PX X Wx a f) (hb : PX X Wx b g) (hm : behindInMarks op b = false) : PTX X Wx (.Compare a [op] [b] pos) (xOp o f g) := by
  obtain ⟨r, hr, h3⟩ := h
  obtain ⟨ta, pa, h1⟩ := ha
  obtain ⟨tb, pb, h2⟩ := hb
  exact ⟨_, pt_cmpR hr pa pb hm, fun σ W ρ μ F S o ho Q hQ => runX2 h1 h2 h3 σ W ρ μ F S o ho _ hQ.toE⟩
theorem ptx_q {t : FB} (h : PB X a t) : PTX X Wx a (fun ρ μ => (t ρ μ).map fun b => .ok (.bl b) ρ μ) := by
  obtain ⟨tt, p, k⟩ := h
  refine ⟨tt, p, fun σ W ρ μ F S o ho Q hQ => ?_⟩
  obtain ⟨b, e1, z⟩ := map_some ho
  subst z
  exact k σ W ρ μ F S b e1 Q fun W' x => hQ W' F (S.ext x) x.mvr
/-- by a truth -/
def xT (f : FX) (k : Bool → FX) : FX := fun ρ μ => (f ρ μ).bind fun o => match o with
  | .ok d ρ' μ' => (match d with
    | .bl b => k b ρ' μ'
    | _ => none)
  | .ex c fs ρ' μ' => some (.ex c fs ρ' μ')
theorem runT_bind {tt : TT} {k : Bool → FX} (h1 : PTr X Wx tt f) {σ : L2.St} {W : Wd} {ρ μ : List D} {F : List Addr} (S : Sta X.K W σ ρ μ F) {o : EO} (ho : xT f k ρ μ = some o) {Q : Bool → Hp → Prop} {Q' : VK} (hx : ∀ c fs ρ' μ', o = .ex c fs ρ' μ' → GoesE X.K Wx Q' σ W F (.ex c fs ρ' μ'))
    (hk : ∀ b W1 ρ1 μ1 F1, Sta X.K W1 σ ρ1 μ1 F1 → Mv W W1 F F1 → k b ρ1 μ1 = some o → Q b W1.H) : tt σ W.H Q := by
  obtain ⟨o1, e1, ho⟩ := bind_some ho
  refine h1 σ W ρ μ F S o1 e1 Q ?_
  cases o1 with
  | ok d ρ1 μ1 =>
    cases d with
    | bl b => exact fun W' F' S' mv => hk b W' ρ1 μ1 F' S' mv ho
    | _ => cases ho
  | ex c fs ρ' μ' =>
    cases ho
    exact hx _ _ _ _ rfl
def xNot (f : FX) : FX := xT f fun b ρ μ => some (.ok (.bl (!b)) ρ μ)
def xAnd (f g : FX) : FX := xT f fun b ρ μ => if b = true then g ρ μ else some (.ok (.bl false) ρ μ)
def xOr (f g : FX) : FX := xT f fun b ρ μ => if b = true then some (.ok (.bl true) ρ μ) else g ρ μ
theorem PWX.pt (h : PWX X Wx e f) : PTX X Wx e f := by
  obtain ⟨tt, p, k⟩ := h
  exact ⟨tt, p.pt, k⟩
theorem ptx_not (ha : PTX X Wx a f) : PTX X Wx (.UnaryOp .Not a pos) (xNot f) := by
  obtain ⟨tt, p, k⟩ := ha
  refine ⟨_, pt_not p, fun σ W ρ μ F S o ho Q hQ => ?_⟩
  refine runT_bind (Q' := fun _ _ => False) k S ho (fun c fs ρ' μ' z => by subst z; exact hQ) fun b W1 ρ1 μ1 F1 S1 m1 ho1 => ?_
  cases ho1
  exact hQ W1 F1 S1 m1
theorem pwx_and1 (h : PTX X Wx a f) : PWX X Wx (.BoolOp .And [a] pos) f := by
  obtain ⟨tt, p, k⟩ := h
  exact ⟨tt, pw_and1 p, k⟩
theorem pwx_or1 (h : PTX X Wx a f) : PWX X Wx (.BoolOp .Or [a] pos) f := by
  obtain ⟨tt, p, k⟩ := h
  exact ⟨tt, pw_or1 p, k⟩
theorem pwx_and (ha : PTX X Wx a f) (hb : PWX X Wx (.BoolOp .And (b :: es) pos) g) : PWX X Wx (.BoolOp .And (a :: b :: es) pos) (xAnd f g) := by
  obtain ⟨t1, p1, k1⟩ := ha
  obtain ⟨t2, p2, k2⟩ := hb
  refine ⟨_, pw_and p1 p2, fun σ W ρ μ F S o ho Q hQ => ?_⟩
  refine runT_bind (Q' := fun _ _ => False) k1 S ho (fun c fs ρ' μ' z => by subst z; exact hQ) fun x W1 ρ1 μ1 F1 S1 m1 ho1 => ?_
  cases x with
  | true =>
    rw [if_pos rfl] at ho1 ⊢
    exact k2 σ W1 ρ1 μ1 F1 S1 o ho1 Q (hQ.after m1)
  | false =>
    rw [if_neg Bool.false_ne_true] at ho1 ⊢
    cases ho1
    exact hQ W1 F1 S1 m1
theorem pwx_or (ha : PTX X Wx a f) (hb : PWX X Wx (.BoolOp .Or (b :: es) pos) g) : PWX X Wx (.BoolOp .Or (a :: b :: es) pos) (xOr f g) := by
  obtain ⟨t1, p1, k1⟩ := ha
  obtain ⟨t2, p2, k2⟩ := hb
  refine ⟨_, pw_or p1 p2, fun σ W ρ μ F S o ho Q hQ => ?_⟩
  refine runT_bind (Q' := fun _ _ => False) k1 S ho (fun c fs ρ' μ' z => by subst z; exact hQ) fun x W1 ρ1 μ1 F1 S1 m1 ho1 => ?_
  cases x with
  | true =>
    rw [if_pos rfl] at ho1 ⊢
    cases ho1
    exact hQ W1 F1 S1 m1
  | false =>
    rw [if_neg Bool.false_ne_true] at ho1 ⊢
    exact k2 σ W1 ρ1 μ1 F1 S1 o ho1 Q (hQ.after m1)
/-! ### as values -/
theorem runE_bind {te : TE} {k : Bool → FX} (h1 : PXr X Wx te f) {σ : L2.St} {W : Wd} {ρ μ : List D} {F : List Addr} (S : Sta X.K W σ ρ μ F) {o : EO} (ho : xT f k ρ μ = some o) {Q : VK} {Q' : VK} (hx : ∀ c fs ρ' μ', o = .ex c fs ρ' μ' → GoesE X.K Wx Q' σ W F (.ex c fs ρ' μ'))
    (hk : ∀ b W1 ρ1 μ1 F1, Sta X.K W1 σ ρ1 μ1 F1 → Mv W W1 F F1 → k b ρ1 μ1 = some o → Q (.bl b) W1.H) : te σ W.H Q := by
  obtain ⟨o1, e1, ho⟩ := bind_some ho
  refine h1 σ W ρ μ F S o1 e1 Q ?_
  cases o1 with
  | ok d ρ1 μ1 =>
    cases d with
    | bl b =>
      intro v W' G F' r S' nd own mv
      obtain ⟨rfl, rfl⟩ := r
      exact hk b W' ρ1 μ1 F' S' mv ho
    | _ => cases ho
  | ex c fs ρ' μ' =>
    cases ho
    exact hx _ _ _ _ rfl
theorem px_not (ha : PX X Wx a f) : PX X Wx (.UnaryOp .Not a pos) (xNot f) := by
  obtain ⟨tt, p, k⟩ := ha
  refine ⟨_, pe_not p, fun σ W ρ μ F S o ho Q hQ => ?_⟩
  refine runE_bind (Q' := fun _ _ => False) k S ho (fun c fs ρ' μ' z => by subst z; exact hQ) fun b W1 ρ1 μ1 F1 S1 m1 ho1 => ?_
  cases ho1
  exact ⟨b, rfl, hQ _ W1 [] F1 ⟨rfl, rfl⟩ S1 S1.nd (fun _ hb => nomatch hb) m1⟩
theorem px_one {op} (h : PX X Wx a f) : PX X Wx (.BoolOp op [a] pos) f := by
  obtain ⟨t, p, k⟩ := h
  exact ⟨t, pe_one p, k⟩
theorem px_and (ha : PX X Wx a f) (hb : PX X Wx (.BoolOp .And (b :: es) pos) g) : PX X Wx (.BoolOp .And (a :: b :: es) pos) (xAnd f g) := by
  obtain ⟨t1, p1, k1⟩ := ha
  obtain ⟨t2, p2, k2⟩ := hb
  refine ⟨_, pe_and p1 p2, fun σ W ρ μ F S o ho Q hQ => ?_⟩
  refine runE_bind (Q' := fun _ _ => False) k1 S ho (fun c fs ρ' μ' z => by subst z; exact hQ) fun x W1 ρ1 μ1 F1 S1 m1 ho1 => ?_
  refine ⟨x, rfl, ?_⟩
  cases x with
  | true =>
    rw [if_pos rfl] at ho1 ⊢
    exact k2 σ W1 ρ1 μ1 F1 S1 o ho1 Q (hQ.after m1)
  | false =>
    rw [if_neg Bool.false_ne_true] at ho1 ⊢
    cases ho1
    exact hQ _ W1 [] F1 ⟨rfl, rfl⟩ S1 S1.nd (fun _ hb => nomatch hb) m1
theorem px_or (ha : PX X Wx a f) (hb : PX X Wx (.BoolOp .Or (b :: es) pos) g) : PX X Wx (.BoolOp .Or (a :: b :: es) pos) (xOr f g) := by
  obtain ⟨t1, p1, k1⟩ := ha
  obtain ⟨t2, p2, k2⟩ := hb
  refine ⟨_, pe_or p1 p2, fun σ W ρ μ F S o ho Q hQ => ?_⟩
  refine runE_bind (Q' := fun _ _ => False) k1 S ho (fun c fs ρ' μ' z => by subst z; exact hQ) fun x W1 ρ1 μ1 F1 S1 m1 ho1 => ?_
  refine ⟨x, rfl, ?_⟩
  cases x with
  | true =>
    rw [if_pos rfl] at ho1 ⊢
    cases ho1
    exact hQ _ W1 [] F1 ⟨rfl, rfl⟩ S1 S1.nd (fun _ hb => nomatch hb) m1
  | false =>
    rw [if_neg Bool.false_ne_true] at ho1 ⊢
    exact k2 σ W1 ρ1 μ1 F1 S1 o ho1 Q (hQ.after m1)
/-! ### fields, read -/
def dFo (ok : OkT) (x : Str) : D → Option D
  | .obj c ns ds => if ok c x = true then (fidx x ns).bind fun i => ds[i]? else none
  | .fo c ns ds => if ok c x = true then (fidx x ns).bind fun i => ds[i]? else none
  | _ => none
def dFld (ok : OkT) (x : Str) (μ : List D) : D → Option D
  | .ref k => (μ[k]?).bind (dFo ok x)
  | d => dFo ok x d
def qFld (ok : OkT) (x : Str) (f : FQ) : FQ := fun ρ μ => (f ρ μ).bind (dFld ok x μ)
theorem RL_map_get {K : PySem.W.Frag} {W : Wd} {μ : List D} {m : List Addr} {F : List Addr} {k : Nat} {d : D} (r : RL K W μ (m.map V.ref) F) (h : μ[k]? = some d) : ∃ a G, m[k]? = some a ∧ R K W d (.ref a) G ∧ ∀ b ∈ G, b ∈ F := by
  obtain ⟨v, G, h1, h2, h3⟩ := RL_get r h
  rw [List.getElem?_map] at h1
  obtain ⟨a, h4, rfl⟩ := map_some h1
  exact ⟨a, G, h4, h2, h3⟩
theorem pq_fld {q : FQ} {x : Str} (T : CE X.K ok) (h : PQ X e q) (hb : attributeBase e x X.env (eval e X.env) = eval e X.env := by rfl) : PQ X (.Attribute e x pos) (qFld ok x q) := by
  obtain ⟨te, p, k⟩ := h
  refine ⟨_, pe_fld p hb, fun σ W ρ μ F S d hd Q hQ => ?_⟩
  obtain ⟨t, e1, hd⟩ := bind_some hd
  refine k σ W ρ μ F S t e1 _ fun u W1 G x1 r1 => ?_
  have S1 := S.ext x1
  have main : ∀ (t : D) (G : List Addr) (u : V), R X.K W1 t u G → dFo ok x t = some d →
      ∃ a C dx fs v, u = .ref a ∧ W1.H a = some (.ins C dx fs) ∧ Cls X.K C ∧ NoAttr X.K C x ∧ fs.lookup x = some v ∧ Q v W1.H := by
    intro t G u r he
    cases t with
    | obj c ns ds =>
      have he2 : (if ok c x = true then (fidx x ns).bind fun i => ds[i]? else none) = some d := he
      by_cases hk : ok c x = true
      case neg => rw [if_neg hk] at he2; cases he2
      rw [if_pos hk] at he2
      obtain ⟨i, h1, h2⟩ := bind_some he2
      obtain ⟨a, dx, vs, F', rfl, hH, hn, hR, rfl⟩ := r
      obtain ⟨v, G1, q1, q2, _⟩ := RL_get hR h2
      obtain ⟨cl, na⟩ := T c x hk
      exact ⟨a, _, dx, _, v, rfl, hH, cl, na, by rw [fidx_lookup h1 (by rw [hn, RL_len hR])]; exact q1, hQ v W1 G1 x1 q2⟩
    | fo c ns ds =>
      have he2 : (if ok c x = true then (fidx x ns).bind fun i => ds[i]? else none) = some d := he
      by_cases hk : ok c x = true
      case neg => rw [if_neg hk] at he2; cases he2
      rw [if_pos hk] at he2
      obtain ⟨i, h1, h2⟩ := bind_some he2
      obtain ⟨a, dx, vs, rfl, hH, _, hn, hR, rfl⟩ := r
      obtain ⟨v, G1, q1, q2, _⟩ := RL_get hR h2
      obtain ⟨cl, na⟩ := T c x hk
      exact ⟨a, _, dx, _, v, rfl, hH, cl, na, by rw [fidx_lookup h1 (by rw [hn, RL_len hR])]; exact q1, hQ v W1 G1 x1 q2⟩
    | _ => cases he
  cases t with
  | ref j =>
    obtain ⟨t2, e2, hd2⟩ := bind_some (show (μ[j]?).bind (dFo ok x) = some d from hd)
    obtain ⟨a, rfl, h3, _⟩ := r1
    obtain ⟨F1, F2, _, h4, _⟩ := S1.ex
    obtain ⟨a', G', h5, h6, _⟩ := RL_map_get h4 e2
    rw [h3] at h5
    cases h5
    exact main t2 G' _ h6 hd2
  | _ => exact main _ _ _ r1 hd
end
end Fw
/-! # arguments; defs and methods that change something -/
namespace Fw
open PySem PySem.Spec PyProof.Rows L2
open Evl (Ex)
/-- an argument: a value with no place of its own, or what a slot has, lent -/
inductive AV where
  | val (d : D) | slot (j : Nat)
inductive AO where
  | ok (as : List AV) (ρ μ : List D) | ex (c : Str) (fs : List (Str × D)) (ρ μ : List D)
abbrev FXA := List D → List D → Option AO
def AVs (K : PySem.W.Frag) (W : Wd) (σ : L2.St) : List AV → List V → Prop
  | [], vs => vs = []
  | .val d :: as, vs => ∃ v vs', vs = v :: vs' ∧ R K W d v [] ∧ AVs K W σ as vs'
  | .slot j :: as, vs => ∃ v vs', vs = v :: vs' ∧ σ[j]? = some (some v) ∧ AVs K W σ as vs'
theorem AVs.lt {K : PySem.W.Frag} {W W' : Wd} {σ : L2.St} (e : Lt W W') : ∀ {as : List AV} {vs : List V}, AVs K W σ as vs → AVs K W' σ as vs
  | [], _, h => h
  | .val d :: as, _, h => by
    obtain ⟨v, vs', h1, h2, h3⟩ := h
    exact ⟨v, vs', h1, R_lt e d h2, AVs.lt e h3⟩
  | .slot j :: as, _, h => by
    obtain ⟨v, vs', h1, h2, h3⟩ := h
    exact ⟨v, vs', h1, h2, AVs.lt e h3⟩
def avals : List AV → Option (List D)
  | [] => some []
  | .val d :: as => (avals as).map fun ds => d :: ds
  | .slot _ :: _ => none
theorem AVs.vals {K : PySem.W.Frag} {W : Wd} {σ : L2.St} : ∀ {as : List AV} {vs : List V} {ds : List D}, AVs K W σ as vs → avals as = some ds → RL K W ds vs []
  | [], _, _, h, e => by
    cases e
    exact ⟨h, rfl⟩
  | .val d :: as, _, _, h, e => by
    obtain ⟨v, vs', h1, h2, h3⟩ := h
    obtain ⟨ds, e1, rfl⟩ := map_some e
    exact ⟨v, vs', [], [], h1, h2, AVs.vals h3 e1, rfl⟩
  | .slot j :: as, _, _, h, e => by cases e
def GoesA (K : PySem.W.Frag) (Wx : WX) (Q : List V → Hp → Prop) (σ : L2.St) (W : Wd) (F : List Addr) : AO → Prop
  | .ok as ρ' μ' => ∀ vs W' F', AVs K W' σ as vs → Sta K W' σ ρ' μ' F' → Mv W W' F F' → Q vs W'.H
  | .ex c fs ρ' μ' => ∀ dx W' F', ExAt K W' fs dx → Sta K W' σ ρ' μ' F' → Mv W W' F F' → Wx (.ref (He.ga K c)) dx σ W'.H
theorem GoesA.after {K : PySem.W.Frag} {Wx : WX} {Q : List V → Hp → Prop} {σ : L2.St} {W W1 : Wd} {F F1 : List Addr} {o : AO} (h : GoesA K Wx Q σ W F o) (m : Mv W W1 F F1) : GoesA K Wx Q σ W1 F1 o := by
  cases o with
  | ok as ρ' μ' => exact fun vs W' F' r S mv => h vs W' F' r S (m.trans mv)
  | ex c fs ρ' μ' => exact fun dx W' F' r S mv => h dx W' F' r S (m.trans mv)
def PAr (X : Cx) (Wx : WX) (ta : TA) (g : FXA) : Prop := ∀ (σ : L2.St) (W : Wd) (ρ μ : List D) (F : List Addr), Sta X.K W σ ρ μ F → ∀ o, g ρ μ = some o → ∀ Q : List V → Hp → Prop, GoesA X.K Wx Q σ W F o → ta σ W.H Q
def PAX (X : Cx) (Wx : WX) (es : List Expr) (g : FXA) : Prop := ∃ ta : TA, PA X es ta ∧ PAr X Wx ta g
def xaNil : FXA := fun ρ μ => some (.ok [] ρ μ)
def aoCons (a : AV) (o : Option AO) : Option AO := o.map fun o => match o with
  | .ok as ρ μ => .ok (a :: as) ρ μ
  | .ex c fs ρ μ => .ex c fs ρ μ
def xaCons (f : FX) (k : FXA) : FXA := fun ρ μ => (f ρ μ).bind fun o => match o with
  | .ok d ρ1 μ1 => if fl d = true then aoCons (.val d) (k ρ1 μ1) else none
  | .ex c fs ρ1 μ1 => some (.ex c fs ρ1 μ1)
def xaSlot (j : Nat) (k : FXA) : FXA := fun ρ μ => (ρ[j]?).bind fun d => if isUn d = true then none else aoCons (.slot j) (k ρ μ)
section
variable {X : Cx} {Wx : WX} {e a b c : Expr} {es : List Expr} {f g : FX} {pos : Pos} {ok : OkT} {k : FXA}
theorem pax_nil : PAX X Wx [] xaNil := ⟨_, pa_nil, fun σ W ρ μ F S o ho Q hQ => by
  cases ho
  exact hQ [] W F rfl S (Ext.refl S.ok).mvr⟩
theorem aoCons_run {ta : TA} (k2 : PAr X Wx ta k) {a : AV} {v : V} {σ : L2.St} {W : Wd} {ρ μ : List D} {F : List Addr} (S : Sta X.K W σ ρ μ F) {o : AO} (ho : aoCons a (k ρ μ) = some o) {Q : List V → Hp → Prop} (hQ : GoesA X.K Wx Q σ W F o)
    (hv : ∀ W' F', Mv W W' F F' → ∀ as vs, AVs X.K W' σ as vs → AVs X.K W' σ (a :: as) (v :: vs)) : ta σ W.H fun vs H2 => Q (v :: vs) H2 := by
  obtain ⟨o1, e1, z⟩ := map_some ho
  subst z
  refine k2 σ W ρ μ F S o1 e1 _ ?_
  cases o1 with
  | ok as ρ1 μ1 => exact fun vs W' F' r S' mv => hQ (v :: vs) W' F' (hv W' F' mv as vs r) S' mv
  | ex c fs ρ1 μ1 => exact hQ
theorem pax_cons (ha : PX X Wx e f) (hr : PAX X Wx es k) (hs : starEach (e :: es) X.env = (false, eval e X.env) :: starEach es X.env := by rfl) : PAX X Wx (e :: es) (xaCons f k) := by
  obtain ⟨t1, p1, k1⟩ := ha
  obtain ⟨t2, p2, k2⟩ := hr
  refine ⟨_, pa_cons p1 p2 hs, fun σ W ρ μ F S o ho Q hQ => ?_⟩
  obtain ⟨o1, e1, ho⟩ := bind_some ho
  refine k1 σ W ρ μ F S o1 e1 _ ?_
  cases o1 with
  | ok d ρ1 μ1 =>
    have ho2 : (if fl d = true then aoCons (.val d) (k ρ1 μ1) else none) = some o := ho
    by_cases hd : fl d = true
    case neg => rw [if_neg hd] at ho2; cases ho2
    rw [if_pos hd] at ho2
    intro v W1 G F1 r S1 nd own mv
    have z := R_fl hd r
    subst z
    exact aoCons_run k2 S1 ho2 (hQ.after mv) fun W' F' m' as vs ra => ⟨v, vs, rfl, R_mv S1 m' r, ra⟩
  | ex c fs ρ1 μ1 =>
    cases ho
    exact hQ
theorem pax_slot {j : Nat} {x : Str} {p : Pos} (hp : PE X (.Name x p) (tVar j)) (hr : PAX X Wx es k) (hs : starEach (.Name x p :: es) X.env = (false, eval (.Name x p) X.env) :: starEach es X.env := by rfl) : PAX X Wx (.Name x p :: es) (xaSlot j k) := by
  obtain ⟨t2, p2, k2⟩ := hr
  refine ⟨_, pa_cons hp p2 hs, fun σ W ρ μ F S o ho Q hQ => ?_⟩
  obtain ⟨d, e1, ho⟩ := bind_some ho
  by_cases hd : isUn d = true
  case pos => rw [if_pos hd] at ho; cases ho
  rw [if_neg hd] at ho
  obtain ⟨F1, F2, h1, _, _⟩ := S.ex
  obtain ⟨v, G, hv, _⟩ := RS_get h1 e1 (isUn_ne (Bool.eq_false_iff.mpr hd))
  exact ⟨v, hv, aoCons_run k2 S ho hQ fun W' F' m' as vs ra => ⟨v, vs, rfl, hv, ra⟩⟩
/-! ### by values alone -/
def xA (k : FXA) (g : List D → FX) : FX := fun ρ μ => (k ρ μ).bind fun o => match o with
  | .ok as ρ1 μ1 => (avals as).bind fun ds => g ds ρ1 μ1
  | .ex c fs ρ1 μ1 => some (.ex c fs ρ1 μ1)
theorem runA_bind {ta : TA} {g : List D → FX} (h1 : PAr X Wx ta k) {σ : L2.St} {W : Wd} {ρ μ : List D} {F : List Addr} (S : Sta X.K W σ ρ μ F) {o : EO} (ho : xA k g ρ μ = some o) {Q : List V → Hp → Prop} {Q' : VK} (hQ : GoesE X.K Wx Q' σ W F o)
    (hk : ∀ ds vs W1 ρ1 μ1 F1, RL X.K W1 ds vs [] → Sta X.K W1 σ ρ1 μ1 F1 → Mv W W1 F F1 → g ds ρ1 μ1 = some o → Q vs W1.H) : ta σ W.H Q := by
  obtain ⟨o1, e1, ho⟩ := bind_some ho
  refine h1 σ W ρ μ F S o1 e1 Q ?_
  cases o1 with
  | ok as ρ1 μ1 =>
    obtain ⟨ds, e2, ho⟩ := bind_some (show (avals as).bind (fun ds => g ds ρ1 μ1) = some o from ho)
    exact fun vs W' F' r S' mv => hk ds vs W' ρ1 μ1 F' (r.vals e2) S' mv ho
  | ex c fs ρ1 μ1 =>
    cases ho
    exact hQ
def xTup (k : FXA) : FX := xA k fun ds ρ μ => if ds.length ≤ 100 ∧ dataL ds = true then some (.ok (.tup ds) ρ μ) else none
theorem px_tup {x1} (h : PAX X Wx es k) : PX X Wx (.Tuple es x1 pos) (xTup k) := by
  obtain ⟨ta, p, k1⟩ := h
  refine ⟨_, pe_tup p, fun σ W ρ μ F S o ho Q hQ => ?_⟩
  refine runA_bind k1 S ho hQ fun ds vs W1 ρ1 μ1 F1 r S1 mv ho1 => ?_
  by_cases hl : ds.length ≤ 100 ∧ dataL ds = true
  case neg => rw [if_neg hl] at ho1; cases ho1
  rw [if_pos hl] at ho1
  cases ho1
  refine ⟨by rw [RL_len r]; exact lim_ok (Nat.le_trans hl.1 (by decide)), fun p hp => ?_⟩
  exact hQ _ (W1.put p (.tup vs)) [] F1 (R_newT S1.ok hp r) (S1.ext (Ext.put S1.ok hp)) S1.nd (fun _ hb => nomatch hb) (mv.trans (Ext.put S1.ok hp).mvr)
def xCall (o : List D → Option D) (k : FXA) : FX := xA k fun ds ρ μ => (o ds).bind fun d => if data d = true then some (.ok d ρ μ) else none
theorem runCX {t : TA} {o : List D → Option D} {r : List V → Hp → VK → Prop} (k1 : PAr X Wx t k)
    (k2 : ∀ (W : Wd) (ds : List D) (vs : List V) (G : List Addr), WOk W → RL X.K W ds vs G → ∀ d, o ds = some d → ∀ Q : VK, (∀ v W' G, Ext W W' → R X.K W' d v G → Q v W'.H) → r vs W.H Q) : PXr X Wx (tCB r t) (xCall o k) := by
  intro σ W ρ μ F S o1 ho Q hQ
  refine runA_bind k1 S ho hQ fun ds vs W1 ρ1 μ1 F1 r1 S1 mv ho1 => ?_
  obtain ⟨d, e1, ho1⟩ := bind_some ho1
  by_cases hd : data d = true
  case neg => rw [if_neg hd] at ho1; cases ho1
  rw [if_pos hd] at ho1
  cases ho1
  refine k2 W1 ds vs [] S1.ok r1 d e1 Q fun v W2 G x2 r2 => ?_
  have z := R_data d hd r2
  subst z
  exact hQ v W2 [] F1 r2 (S1.ext x2) S1.nd (fun _ hb => nomatch hb) (mv.trans x2.mvr)
theorem px_callB {id : String} {x : Str} {p : Pos} {o : List D → Option D} (h : CallD X (.builtin id) o) (hm : X.mg x = none) (hv : bootBuiltins x = some (.builtin id)) (ha : PAX X Wx (e :: es) k) (hg : Gl X x := by rfl)
    (hn : x ≠ "__name__" := by decide) (hdb : (x == ("__debug__" : Str)) = false := by decide) (he : starEach (e :: es) X.env = (false, eval e X.env) :: starEach es X.env := by rfl) (hpl : (backTo pos (starEach es X.env)).any (·.1) = false := by rfl) : PX X Wx (.Call (.Name x p) (e :: es) [] pos) (xCall o k) := by
  obtain ⟨r, hr, k2⟩ := h
  obtain ⟨t, pt, k1⟩ := ha
  exact ⟨_, pe_callB hr hg hm hv pt hn hdb he hpl, runCX k1 k2⟩
theorem px_callTy {T : String} {x : Str} {p : Pos} {o : List D → Option D} (h : CallD X (.type T) o) (hm : X.mg x = none) (hv : bootBuiltins x = some (.type T)) (ha : PAX X Wx (e :: es) k) (hg : Gl X x := by rfl)
    (hn : x ≠ "__name__" := by decide) (hdb : (x == ("__debug__" : Str)) = false := by decide) (he : starEach (e :: es) X.env = (false, eval e X.env) :: starEach es X.env := by rfl) (hpl : (backTo pos (starEach es X.env)).any (·.1) = false := by rfl) : PX X Wx (.Call (.Name x p) (e :: es) [] pos) (xCall o k) := by
  obtain ⟨r, hr, k2⟩ := h
  obtain ⟨t, pt, k1⟩ := ha
  exact ⟨_, pe_callTy hr hg hm hv pt hn hdb he hpl, runCX k1 k2⟩
def xIsi (T : String) (f : FX) : FX := xB f fun d ρ μ => (tyN d).bind fun n => (kitB n T).map fun b => .ok (.bl b) ρ μ
theorem px_isi {T : String} {x : Str} {px p : Pos} (he : PX X Wx e f) (hmi : X.mg "isinstance" = none) (hmx : X.mg x = none) (hv : bootBuiltins x = some (.type T)) (hgi : Gl X "isinstance" := by rfl) (hg : Gl X x := by rfl)
    (hvi : bootBuiltins "isinstance" = some (.builtin "isinstance") := by decide +kernel) (hn : x ≠ "__name__" := by decide) (hd : (x == ("__debug__" : Str)) = false := by decide)
    (hs1 : starEach [e, .Name x px] X.env = (false, eval e X.env) :: starEach [.Name x px] X.env := by rfl) (hs2 : starEach [.Name x px] X.env = (false, eval (.Name x px) X.env) :: starEach [] X.env := by rfl) (hpl : (backTo pos (starEach [.Name x px] X.env)).any (·.1) = false := by rfl) :
    PX X Wx (.Call (.Name "isinstance" p) [e, .Name x px] [] pos) (xIsi T f) := by
  obtain ⟨t, pt, k1⟩ := he
  refine ⟨_, pe_callB call_isi hgi hmi hvi (pa_cons pt (pa_cons (pe_bltn (v := .ty T) hg hmx hv rfl hn hd) pa_nil hs2) hs1) (by decide) (by decide) hs1 hpl, fun σ W ρ μ F S o ho Q hQ => ?_⟩
  refine run_bind k1 S ho (fun c fs ρ' μ' z => by subst z; exact hQ) fun d v W1 ρ1 μ1 F1 hd r1 S1 mv ho1 => ?_
  obtain ⟨n, e2, ho1⟩ := bind_some ho1
  obtain ⟨b, e3, z⟩ := map_some ho1
  subst z
  exact ⟨v, .ty T, .type n, .type T, b, rfl, .ty T, R_ty e2 r1, kit_ty e3, hQ _ W1 [] F1 ⟨rfl, rfl⟩ S1 S1.nd (fun _ hb => nomatch hb) mv⟩
end
/-! ### what is lent goes out and comes back -/
def mo : List AV → List D → Option (List D × List D)
  | [], ρ => some ([], ρ)
  | .val d :: as, ρ => (mo as ρ).map fun z => (d :: z.1, z.2)
  | .slot j :: as, ρ => (mo as ρ).bind fun z => (z.2[j]?).bind fun d => if isUn d = true then none else some (d :: z.1, z.2.set j .un)
def mi : List AV → List D → List D → Option (List D)
  | [], ρ, [] => some ρ
  | .val _ :: as, ρ, _ :: ds => mi as ρ ds
  | .slot j :: as, ρ, d :: ds => mi as (ρ.set j d) ds
  | _, _, _ => none
section
variable {K : PySem.W.Frag} {W : Wd} {σ : L2.St} {μ : List D}
theorem out_all : ∀ {as : List AV} {vs : List V} {ρ ds ρr : List D} {F : List Addr}, Sta K W σ ρ μ F → AVs K W σ as vs → mo as ρ = some (ds, ρr) → vs.length = ds.length ∧ ∃ F', Sta K W (vs.map some ++ σ) (ds ++ ρr) μ F' ∧ F'.Perm F
  | [], vs, ρ, ds, ρr, F, S, ha, h => by
    cases h
    have e : vs = [] := ha
    subst e
    exact ⟨rfl, F, S, List.Perm.refl F⟩
  | .val d :: as, vs, ρ, ds, ρr, F, S, ha, h => by
    obtain ⟨v, vs', rfl, h2, h3⟩ := ha
    obtain ⟨z, e1, e2⟩ := map_some h
    obtain ⟨ds', r'⟩ := z
    cases e2
    obtain ⟨hl, F', S', pm⟩ := out_all S h3 e1
    exact ⟨congrArg Nat.succ hl, F', sta_cons (o := some v) (G := []) (R1_of h2) S' S'.nd (fun _ hb => nomatch hb), pm⟩
  | .slot j :: as, vs, ρ, ds, ρr, F, S, ha, h => by
    obtain ⟨v, vs', rfl, h2, h3⟩ := ha
    obtain ⟨z, e1, h⟩ := bind_some h
    obtain ⟨ds', r'⟩ := z
    obtain ⟨d, e2, h⟩ := bind_some h
    by_cases hd : isUn d = true
    case pos => rw [if_pos hd] at h; cases h
    rw [if_neg hd] at h
    cases h
    obtain ⟨hl, F', S', pm⟩ := out_all S h3 e1
    have e3 : (ds' ++ r')[ds'.length + j]? = some d := by
      rw [List.getElem?_append_right (Nat.le_add_right ..), Nat.add_sub_cancel_left]
      exact e2
    obtain ⟨v', F2, hv, S2, pm2⟩ := sta_out S' e3 (isUn_ne (Bool.eq_false_iff.mpr hd))
    have lm : (vs'.map some : L2.St).length = ds'.length := by rw [List.length_map, hl]
    rw [List.getElem?_append_right (by rw [lm]; exact Nat.le_add_right ..), lm, Nat.add_sub_cancel_left, h2] at hv
    injection hv with hv
    injection hv with hv
    subst hv
    rw [List.set_append_right _ _ (Nat.le_add_right ..), Nat.add_sub_cancel_left] at S2
    exact ⟨congrArg Nat.succ hl, F2, S2, pm2.trans pm⟩
theorem in_all : ∀ {as : List AV} {vs : List V} {ρr ds ρ' : List D} {F : List Addr}, Sta K W (vs.map some ++ σ) (ds ++ ρr) μ F → AVs K W' σ as vs → mi as ρr ds = some ρ' → vs.length = ds.length → ∃ F', Sta K W σ ρ' μ F' ∧ ∀ a ∈ F', a ∈ F
  | [], vs, ρr, [], ρ', F, S, ha, h, hl => by
    cases h
    have e : vs = [] := ha
    subst e
    exact ⟨F, S, fun _ h => h⟩
  | [], vs, ρr, _ :: _, ρ', F, S, ha, h, hl => by cases h
  | .val d :: as, vs, ρr, [], ρ', F, S, ha, h, hl => by cases h
  | .slot j :: as, vs, ρr, [], ρ', F, S, ha, h, hl => by cases h
  | .val d :: as, vs, ρr, d' :: ds, ρ', F, S, ha, h, hl => by
    obtain ⟨v, vs', rfl, h2, h3⟩ := ha
    obtain ⟨G, F', r, S', e⟩ := sta_tail S
    obtain ⟨F2, S2, sub⟩ := in_all (vs := vs') S' h3 h (Nat.succ.inj hl)
    exact ⟨F2, S2, fun a ha => by rw [e]; exact List.mem_append_right _ (sub a ha)⟩
  | .slot j :: as, vs, ρr, d' :: ds, ρ', F, S, ha, h, hl => by
    obtain ⟨v, vs', rfl, h2, h3⟩ := ha
    have hl' : vs'.length = ds.length := Nat.succ.inj hl
    have lm : (vs'.map some : L2.St).length = ds.length := by rw [List.length_map, hl']
    obtain ⟨F', S', sub1⟩ := sta_in (σ := vs'.map some ++ σ) (ρ := ds ++ ρr) (m := ds.length + j) (v := v) S (by rw [List.getElem?_append_right (by rw [lm]; exact Nat.le_add_right ..), lm, Nat.add_sub_cancel_left]; exact h2)
    rw [List.set_append_right _ _ (Nat.le_add_right ..), Nat.add_sub_cancel_left] at S'
    obtain ⟨F2, S2, sub⟩ := in_all (vs := vs') S' h3 h hl'
    exact ⟨F2, S2, fun a ha => sub1 a (sub a ha)⟩
theorem foc_args {as : List AV} {vs : List V} {ρ ds ρr : List D} {F : List Addr} (S : Sta K W σ ρ μ F) (ha : AVs K W σ as vs) (h : mo as ρ = some (ds, ρr)) : Foc K W σ ρ μ F (vs.map some) ds (mi as ρr) := by
  obtain ⟨hl, F1, S1, pm⟩ := out_all S ha h
  obtain ⟨Fc, Sc, sub, k⟩ := sta_frame S1 (by rw [List.length_map, hl])
  refine ⟨Fc, Sc, fun a ha => pm.mem_iff.mp (sub a ha), fun W' xs' μ' Fc' G E ρ' hp S' nd own hE mv => ?_⟩
  obtain ⟨F2, S2, nd2, mv2⟩ := k W' xs' μ' Fc' G E S' nd own (fun a ha => ⟨(hE a ha).1, fun z => (hE a ha).2 (pm.mem_iff.mp z)⟩) mv
  obtain ⟨F3, S3, sub3⟩ := in_all (W' := W) S2 ha hp (by rw [← S'.len, List.length_map])
  have ndG := List.nodup_append.mp nd2
  exact ⟨F3, S3, List.nodup_append.mpr ⟨ndG.1, S3.nd, fun a ha b hb => ndG.2.2 a ha b (sub3 b hb)⟩, mv2.sub (fun a ha => (List.mem_append.mp ha).elim (List.mem_append_left _) fun z => List.mem_append_right _ (pm.mem_iff.mp z)) fun a ha => (List.mem_append.mp ha).elim (List.mem_append_left _) fun z => List.mem_append_right _ (sub3 a z)⟩
end
/-! ### what a def promises that changes something -/
abbrev RX := List D → List D → Option EO
def GoesF (K : PySem.W.Frag) (Q : VK) (E : XK) (vs : List V) (W : Wd) (F : List Addr) : EO → Prop
  | .ok d ds' μ' => ∀ v W' G F', R K W' d v G → Sta K W' (vs.map some) ds' μ' F' → (G ++ F').Nodup → (∀ a ∈ G, Own W' a) → Mv W W' F (G ++ F') → Q v W'.H
  | .ex c fs ds' μ' => ∀ dx W' F', ExAt K W' fs dx → Sta K W' (vs.map some) ds' μ' F' → Mv W W' F F' → E (.ref (He.ga K c)) dx W'.H
def spX (K : PySem.W.Frag) (n : Nat) (run : RX) : Sp := fun vs H Q E => ∃ (W : Wd) (ds μ : List D) (F : List Addr) (o : EO), W.H = H ∧ Sta K W (vs.map some) ds μ F ∧ ds.length = n ∧ run ds μ = some o ∧ GoesF K Q E vs W F o
def xPut (put : List D → Option (List D)) : EO → Option EO
  | .ok d ds' μ' => (put ds').map fun ρ' => .ok d ρ' μ'
  | .ex c fs ds' μ' => (put ds').map fun ρ' => .ex c fs ρ' μ'
theorem spX_of {K : PySem.W.Frag} {Wx : WX} {W : Wd} {σ : L2.St} {ρ μ ds : List D} {F : List Addr} {vs : List V} {put : List D → Option (List D)} {n : Nat} {run : RX} {o1 o : EO} {Q : VK} (fo : Foc K W σ ρ μ F (vs.map some) ds put) (hl : ds.length = n) (hr : run ds μ = some o1)
    (hp : xPut put o1 = some o) (h : GoesE K Wx Q σ W F o) : spX K n run vs W.H Q (WE Wx σ) := by
  obtain ⟨Fc, S, _, k⟩ := fo
  refine ⟨W, ds, μ, Fc, o1, rfl, S, hl, hr, ?_⟩
  cases o1 with
  | ok d ds' μ' =>
    obtain ⟨ρ', e1, z⟩ := map_some (show (put ds').map (fun ρ' => EO.ok d ρ' μ') = some o from hp)
    subst z
    intro v W' G F' r S' nd own mv
    obtain ⟨F2, S2, nd2, mv2⟩ := k W' ds' μ' F' G [] ρ' e1 S' nd own (fun _ hb => nomatch hb) mv
    exact h v W' G F2 r S2 nd2 own mv2
  | ex c fs ds' μ' =>
    obtain ⟨ρ', e1, z⟩ := map_some (show (put ds').map (fun ρ' => EO.ex c fs ρ' μ') = some o from hp)
    subst z
    intro dx W' F' r S' mv
    obtain ⟨F2, S2, nd2, mv2⟩ := k W' ds' μ' F' [] [] ρ' e1 S' S'.nd (fun _ hb => nomatch hb) (fun _ hb => nomatch hb) mv
    exact h dx W' F2 r S2 mv2
end Fw
/-! # defs, methods, makers: called and proved -/
namespace Fw
open PySem PySem.Spec PyProof.Rows L2
open Evl (Ex)
/-! ### a def's end: what was lent and kept goes back -/
def fin : List Bool → List D → List D → Option (List D)
  | [], [], _ => some []
  | true :: ks, _ :: ds, r :: ρ => if isUn r = true then none else (fin ks ds ρ).map fun l => r :: l
  | false :: ks, d :: ds, _ :: ρ => if fl d = true then (fin ks ds ρ).map fun l => d :: l else none
  | _, _, _ => none
theorem fin_rs {K : PySem.W.Frag} {W W' : Wd} (lt : Lt W W') : ∀ {ks : List Bool} {ds ρ ds' : List D} {vs : List V} {σ : L2.St} {F F1 : List Addr}, RS K W ds (vs.map some) F → RS K W' ρ σ F1 → (∀ (i : Nat) (v : V), ks[i]? = some true → vs[i]? = some v → σ[i]? = some (some v)) → fin ks ds ρ = some ds' →
    ∃ F', RS K W' ds' (vs.map some) F' ∧ F'.Sublist F1
  | [], [], ρ, ds', vs, σ, F, F1, h, g, hk, e => by
    cases e
    exact ⟨[], ⟨h.1, rfl⟩, List.nil_sublist _⟩
  | [], d :: ds, ρ, ds', vs, σ, F, F1, h, g, hk, e => by cases e
  | true :: ks, [], ρ, ds', vs, σ, F, F1, h, g, hk, e => by cases e
  | false :: ks, [], ρ, ds', vs, σ, F, F1, h, g, hk, e => by cases e
  | true :: ks, d :: ds, [], ds', vs, σ, F, F1, h, g, hk, e => by cases e
  | false :: ks, d :: ds, [], ds', vs, σ, F, F1, h, g, hk, e => by cases e
  | true :: ks, d :: ds, r :: ρ, ds', [], σ, F, F1, h, g, hk, e => by
    obtain ⟨o, σ', F2, F3, e1, _⟩ := h
    cases e1
  | false :: ks, d :: ds, r :: ρ, ds', [], σ, F, F1, h, g, hk, e => by
    obtain ⟨o, σ', F2, F3, e1, _⟩ := h
    cases e1
  | true :: ks, d :: ds, r :: ρ, ds', v :: vs, σ, F, F1, h, g, hk, e => by
    have e' : (if isUn r = true then none else (fin ks ds ρ).map fun l => r :: l) = some ds' := e
    by_cases hr : isUn r = true
    case pos => rw [if_pos hr] at e'; cases e'
    rw [if_neg hr] at e'
    obtain ⟨l, e2, rfl⟩ := map_some e'
    obtain ⟨o, τ, G1, G2, a1, a2, a3, a4⟩ := h
    injection a1 with a5 a6
    subst a5
    rw [← a6] at a3
    obtain ⟨o', σ', G3, G4, b1, b2, b3, b4⟩ := g
    subst b1
    subst b4
    have hv := hk 0 v rfl rfl
    have hv' : o' = some v := Option.some.inj hv
    subst hv'
    obtain ⟨F', c1, c2⟩ := fin_rs lt a3 b3 (fun i w p q => hk (i + 1) w (by simpa using p) (by simpa using q)) e2
    exact ⟨G3 ++ F', ⟨some v, vs.map some, G3, F', rfl, b2, c1, rfl⟩, List.Sublist.append (List.Sublist.refl G3) c2⟩
  | false :: ks, d :: ds, r :: ρ, ds', v :: vs, σ, F, F1, h, g, hk, e => by
    have e' : (if fl d = true then (fin ks ds ρ).map fun l => d :: l else none) = some ds' := e
    by_cases hd : fl d = true
    case neg => rw [if_neg hd] at e'; cases e'
    rw [if_pos hd] at e'
    obtain ⟨l, e2, rfl⟩ := map_some e'
    obtain ⟨o, τ, G1, G2, a1, a2, a3, a4⟩ := h
    injection a1 with a5 a6
    subst a5
    rw [← a6] at a3
    obtain ⟨o', σ', G3, G4, b1, b2, b3, b4⟩ := g
    subst b1
    subst b4
    obtain ⟨F', c1, c2⟩ := fin_rs lt a3 b3 (fun i w p q => hk (i + 1) w (by simpa using p) (by simpa using q)) e2
    have a7 : R1 K W' d (some v) [] := by
      rw [R1_iff] at a2 ⊢
      rcases a2 with ⟨z, _⟩ | ⟨w, q1, q2⟩
      · exact .inl ⟨z, rfl⟩
      · have z := R_fl hd q2
        subst z
        exact .inr ⟨w, q1, R_lt lt d q2⟩
    exact ⟨F', ⟨some v, vs.map some, [], F', rfl, a7, c1, rfl⟩, c2.trans (List.sublist_append_right G3 G4)⟩
def runX (N : Nat) (ks : List Bool) (f : FS) : RX := fun ds μ => (f (ds ++ List.replicate (N - ds.length) .un) μ).bind fun o => match o with
  | .rt d ρ' μ' => if isUn d = true then none else (fin ks ds ρ').map fun ds' => .ok d ds' μ'
  | .nx ρ' μ' => (fin ks ds ρ').map fun ds' => .ok .non ds' μ'
  | .ex c fs ρ' μ' => (fin ks ds ρ').map fun ds' => .ex c fs ds' μ'
  | _ => none
theorem sta_fin {K : PySem.W.Frag} {W W' : Wd} {ks : List Bool} {ds ds' ρ' μ μ' : List D} {vs : List V} {σ0 σ' : L2.St} {F G F' : List Addr} {ob : List Nat} (S : Sta K W (vs.map some) ds μ F) (S' : Sta K W' σ' ρ' μ' F') (ndG : (G ++ F').Nodup) (mv : Mv W W' F (G ++ F')) (kp : Kept ob σ0 σ')
    (h0 : ∀ (i : Nat) (v : V), vs[i]? = some v → σ0[i]? = some (some v)) (hob : ∀ i : Nat, ks[i]? = some true → i ∈ ob) (e : fin ks ds ρ' = some ds') : ∃ F'', Sta K W' (vs.map some) ds' μ' F'' ∧ (G ++ F'').Nodup ∧ Mv W W' F (G ++ F'') := by
  obtain ⟨F1, F2, a1, a2, a3⟩ := S.ex
  obtain ⟨⟨F3, F4, b1, b2, b3⟩, nd, own, ok⟩ := S'
  subst b3
  obtain ⟨F5, c1, c2⟩ := fin_rs (mv.lt S.own) a1 b1 (fun i v p q => by rw [kp i (hob i p)]; exact h0 i v q) e
  have sub : (F5 ++ F4).Sublist (F3 ++ F4) := List.Sublist.append c2 (List.Sublist.refl F4)
  have sub2 : (G ++ (F5 ++ F4)).Sublist (G ++ (F3 ++ F4)) := List.Sublist.append (List.Sublist.refl G) sub
  exact ⟨F5 ++ F4, ⟨⟨F5, F4, c1, b2, rfl⟩, nd.sublist sub, fun a ha => own a (sub.subset ha), ok⟩, ndG.sublist sub2, mv.sub (fun _ h => h) fun a ha => sub2.subset ha⟩
theorem RS_uns {K : PySem.W.Frag} {W : Wd} : ∀ (m : Nat), RS K W (List.replicate m .un) (List.replicate m none) []
  | 0 => ⟨rfl, rfl⟩
  | m + 1 => ⟨none, List.replicate m none, [], [], rfl, rfl, RS_uns m, rfl⟩
theorem fnx_def {P : Program} {w : World} {K : PySem.W.Frag} {mg : Str → Option Value} {base : Heap} {nm qual : Str} {params : Arguments} {body : List Stmt} {scope : Scope} {dvs0 : List V} {kws : List (Str × V)} {fa : Addr} {fd : FuncData} {N ps : List Str} {k n : Nat} {f : FS} {run : RX} {ks : List Bool} {ob : List Nat}
    (F : FunD K nm qual params body scope dvs0 kws fa fd) (Sc : FnScope N ps scope) (hn : ps.length = n) (hob : ∀ i : Nat, ks[i]? = some true → i ∈ ob)
    (h : ∀ (cdv : Value) (A : Around) (outer : List Env) (s : Shared) (H : Hp) (E : XK), Room k (A.deeper (envOfC qual scope s.heap.objs.size fa cdv)) → PSS (cxOf (L2N.CX P w) P w K mg base N qual scope fa cdv A outer s H E) ob (fun cls dx _ H' => E cls dx H') body f)
    (hr : ∀ ds μ o, run ds μ = some o → runX N.length ks f ds μ = some o) : FnOk P w K mg base (L2N.CX P w) (k + 1) fa fd ps (spX K n run) := by
  refine F.ok Sc (fun vs H Q E q => ?_) (fun cdv A outer s H vs Q E hroom q => ?_)
  · obtain ⟨W, ds, μ, F0, o, _, S, hl, _⟩ := q
    have := S.len
    rw [List.length_map] at this
    rw [this, hl, hn]
  · obtain ⟨W, ds, μ, F0, o, hH, S, hl, hrun, g⟩ := q
    subst hH
    obtain ⟨ts, p, kk⟩ := h cdv A outer s W.H E hroom
    refine ⟨ts, p, ?_⟩
    have lv : vs.length = ds.length := by
      have := S.len
      rw [List.length_map] at this
      exact this
    have e0 : L2.start N vs = vs.map some ++ List.replicate (N.length - ds.length) none := by
      unfold L2.start
      rw [lv]
    rw [e0]
    have S0 : Sta K W (vs.map some ++ List.replicate (N.length - ds.length) none) (ds ++ List.replicate (N.length - ds.length) .un) μ F0 := by
      obtain ⟨F1, F2, a1, a2, a3⟩ := S.ex
      have a4 := RS_app a1 (RS_uns (K := K) (W := W) (N.length - ds.length))
      rw [List.append_nil] at a4
      exact ⟨⟨F1, F2, a4, a2, a3⟩, S.nd, S.own, S.ok⟩
    have h0 : ∀ (i : Nat) (v : V), vs[i]? = some v → (vs.map some ++ List.replicate (N.length - ds.length) none : L2.St)[i]? = some (some v) := fun i v hv => by
      have hi := (List.getElem?_eq_some_iff.mp hv).1
      rw [List.getElem?_append_left (by rw [List.length_map]; exact hi), List.getElem?_map, hv]
      rfl
    have hq := hr ds μ o hrun
    unfold runX at hq
    obtain ⟨o1, e1, hq⟩ := bind_some hq
    refine kk _ _ W _ μ F0 S0 o1 e1 ?_
    cases o1 with
    | nx ρ' μ' =>
      obtain ⟨ds', e2, z⟩ := map_some (show (fin ks ds ρ').map (fun ds' => EO.ok .non ds' μ') = some o from hq)
      subst z
      intro σ' W' F' S' mv kp
      obtain ⟨F2, S2, nd2, mv2⟩ := sta_fin (G := []) S S' S'.nd mv kp h0 hob e2
      exact g .non W' [] F2 ⟨rfl, rfl⟩ S2 nd2 (fun _ hb => nomatch hb) mv2
    | rt d ρ' μ' =>
      have hq2 : (if isUn d = true then none else (fin ks ds ρ').map fun ds' => EO.ok d ds' μ') = some o := hq
      by_cases hd : isUn d = true
      case pos => rw [if_pos hd] at hq2; cases hq2
      rw [if_neg hd] at hq2
      obtain ⟨ds', e2, z⟩ := map_some hq2
      subst z
      intro v σ' W' G F' rv S' nd own mv kp
      obtain ⟨F2, S2, nd2, mv2⟩ := sta_fin S S' nd mv kp h0 hob e2
      exact g v W' G F2 rv S2 nd2 own mv2
    | ex c fs ρ' μ' =>
      obtain ⟨ds', e2, z⟩ := map_some (show (fin ks ds ρ').map (fun ds' => EO.ex c fs ds' μ') = some o from hq)
      subst z
      intro dx σ' W' F' r S' mv kp
      obtain ⟨F2, S2, nd2, mv2⟩ := sta_fin (G := []) S S' S'.nd mv kp h0 hob e2
      exact g dx W' F2 r S2 mv2
    | _ => cases hq
theorem takes_cx {P : Program} {w : World} {K : PySem.W.Frag} {mg : Str → Option Value} {base : Heap} {N : List Str} {qual : Str} {scope : Scope} {fa : Addr} {cdv : Value} {A : Around} {outer : List Env} {s : Shared} {H : Hp} {E : XK} :
    L2N.Takes (cxOf (L2N.CX P w) P w K mg base N qual scope fa cdv A outer s H E) (fun cls dx _ H' => E cls dx H') := L2N.takes_of rfl rfl rfl rfl
/-! ### calls -/
def OkX (P : Program) (w : World) (K : PySem.W.Frag) (mg : Str → Option Value) (base : Heap) (x : Str) (k n : Nat) (dd : List D) (run : RX) : Prop :=
  ∃ (f : Addr) (fd : FuncData) (ps : List Str) (dvs : List V) (us : List Value), FnOk P w K mg base (L2N.CX P w) k f fd ps (spX K n run) ∧ Binds K fd ps us ∧ Vals dvs us ∧ (∀ W : Wd, RL K W dd dvs []) ∧ mg x = some (.ref f) ∧ PySem.W.keepIn K (.ref f) = true
/-- a method m of the class c -/
def OkM (P : Program) (w : World) (K : PySem.W.Frag) (mg : Str → Option Value) (base : Heap) (c m : Str) (k n : Nat) (dd : List D) (run : RX) : Prop :=
  ∃ (f : Addr) (fd : FuncData) (ps : List Str) (dvs : List V) (us : List Value), FnOk P w K mg base (L2N.CX P w) k f fd ps (spX K n run) ∧ Binds K fd ps us ∧ Vals dvs us ∧ (∀ W : Wd, RL K W dd dvs []) ∧ Cls K (He.ga K c) ∧ Meth K (He.ga K c) m f
/-- the maker of the class c -/
def OkK (P : Program) (w : World) (K : PySem.W.Frag) (mg : Str → Option Value) (base : Heap) (c : Str) (k n : Nat) (dd : List D) (run : RX) : Prop :=
  ∃ (f : Addr) (fd : FuncData) (ps : List Str) (dvs : List V) (us : List Value), FnOk P w K mg base (L2N.CX P w) k f fd ps (spX K n run) ∧ Binds K fd ps us ∧ Vals dvs us ∧ (∀ W : Wd, RL K W dd dvs []) ∧ Mk K (He.ga K c) f ∧ mg c = some (.ref (He.ga K c))
def xRun (n : Nat) (dd : List D) (run : RX) (k : FXA) : FX := fun ρ μ => (k ρ μ).bind fun o => match o with
  | .ok as ρ1 μ1 => (mo as ρ1).bind fun z => if (z.1 ++ dd).length = n then (run (z.1 ++ dd) μ1).bind (xPut fun ys => mi as z.2 (ys.take z.1.length)) else none
  | .ex c fs ρ1 μ1 => some (.ex c fs ρ1 μ1)
section
variable {X : Cx} {Wx : WX} {e a b c o : Expr} {es : List Expr} {f g : FX} {p apos pos : Pos} {kf : FXA} {x m : Str} {k n : Nat} {dd : List D} {run : RX}
theorem px_call (O : OkX X.prog X.w X.K X.mg X.base x k n dd run) (hr : Room k X.A) (tk : L2N.Takes X Wx) (ha : PAX X Wx (e :: es) kf) (hg : Gl X x := by rfl) (hdb : (x == ("__debug__" : Str)) = false := by decide)
    (he : starEach (e :: es) X.env = (false, eval e X.env) :: starEach es X.env := by rfl) (hpl : (backTo pos (starEach es X.env)).any (·.1) = false := by rfl) : PX X Wx (.Call (.Name x p) (e :: es) [] pos) (xRun n dd run kf) := by
  obtain ⟨f, fd, ps, dvs, us, hF, hb, hv, hdd, hm, hk⟩ := O
  obtain ⟨t, pt, k1⟩ := ha
  refine ⟨_, pe_callSD hF hr hg hm hk hb hv (fun σ => L2N.passAt tk σ) pt hdb he hpl, fun σ W ρ μ F S o ho Q hQ => ?_⟩
  obtain ⟨o1, e1, ho⟩ := bind_some ho
  refine k1 σ W ρ μ F S o1 e1 _ ?_
  cases o1 with
  | ok as ρ1 μ1 =>
    intro vs W1 F1 r S1 mv
    obtain ⟨z, e2, ho⟩ := bind_some (show (mo as ρ1).bind (fun z => if (z.1 ++ dd).length = n then (run (z.1 ++ dd) μ1).bind (xPut fun ys => mi as z.2 (ys.take z.1.length)) else none) = some o from ho)
    obtain ⟨ds, ρr⟩ := z
    by_cases hl : (ds ++ dd).length = n
    case neg => rw [if_neg hl] at ho; cases ho
    rw [if_pos hl] at ho
    obtain ⟨o2, e3, ho⟩ := bind_some ho
    have fo := (foc_args S1 r e2).trans fun Fc Sc => foc_vals Sc (hdd W1)
    rw [← List.map_append] at fo
    exact spX_of fo hl e3 ho (hQ.after mv)
  | ex c fs ρ1 μ1 =>
    cases ho
    exact hQ
theorem px_call0 (O : OkX X.prog X.w X.K X.mg X.base x k n dd run) (hr : Room k X.A) (tk : L2N.Takes X Wx) (hg : Gl X x := by rfl) (hdb : (x == ("__debug__" : Str)) = false := by decide) : PX X Wx (.Call (.Name x p) [] [] pos) (xRun n dd run xaNil) := by
  obtain ⟨f, fd, ps, dvs, us, hF, hb, hv, hdd, hm, hk⟩ := O
  refine ⟨fun σ H Q => spX X.K n run ([] ++ dvs) H Q (WE Wx σ), ⟨fun pins s σ H Q I h => ?_⟩, fun σ W ρ μ F S o ho Q hQ => ?_⟩
  · refine wpAny_Call_Name_kw (ld_glob I hg hm ?_ hdb)
    exact PySem.W.callWith_K0 I.kIn hk (run_fnSD (us := []) hF hr hb hv (L2N.passAt tk σ) I .nil h)
  · obtain ⟨o1, e1, ho⟩ := bind_some ho
    cases e1
    obtain ⟨z, e2, ho⟩ := bind_some (show (mo [] ρ).bind (fun z => if (z.1 ++ dd).length = n then (run (z.1 ++ dd) μ).bind (xPut fun ys => mi [] z.2 (ys.take z.1.length)) else none) = some o from ho)
    cases e2
    by_cases hl : ([] ++ dd).length = n
    case neg => rw [if_neg hl] at ho; cases ho
    rw [if_pos hl] at ho
    obtain ⟨o2, e3, ho⟩ := bind_some ho
    have fo := (foc_args (as := []) (vs := []) S rfl rfl).trans fun Fc Sc => foc_vals Sc (hdd W)
    rw [← List.map_append] at fo
    exact spX_of fo hl e3 ho hQ
/-! ### methods -/
def tMX (X : Cx) (Wx : WX) (m : Str) (k : Nat) (ta : TE) (t : TA) : TE := fun σ H Q => ta σ H fun x H1 => ∃ (a C dx : Addr) (fs : List (Str × V)) (g : Addr) (fd : FuncData) (ps : List Str) (sp : Sp) (dvs : List V) (us : List Value), x = .ref a ∧ H1 a = some (.ins C dx fs) ∧ Cls X.K C ∧ Meth X.K C m g ∧ fs.lookup m = none ∧
  FnOk X.prog X.w X.K X.mg X.base (L2N.CX X.prog X.w) k g fd ps sp ∧ Binds X.K fd ps us ∧ Vals dvs us ∧ t σ H1 fun vs H2 => sp (x :: (vs ++ dvs)) H2 Q (WE Wx σ)
theorem pe_mx {pl : Sem Bool} {ta : TE} {t : TA} (he : PE X o ta) (hr : Room k X.A) (tk : L2N.Takes X Wx) (ha : PA X (e :: es) t)
    (hst : starEach (e :: es) X.env = (false, eval e X.env) :: starEach es X.env := by rfl) (hpl : (backTo pos (starEach es X.env)).any (·.1) = false := by rfl)
    (ht : eval (.Call (.Attribute o m apos) (e :: es) [] pos) X.env = (do
      let ov ← eval o X.env
      standAt apos.atName
      let (f, first) ← holding [ov] (getMethod ov m pl)
      callWith pos f first (backTo pos (starEach (e :: es) X.env)) (backToKw pos (keywordEach [] X.env))) := by rfl) :
    PE X (.Call (.Attribute o m apos) (e :: es) [] pos) (tMX X Wx m k ta t) := by
  refine ⟨fun pins s σ H Q I h => ?_⟩
  refine PySem.W.methodCall_KW (pl := pl) (thn (he.run pins s σ H _ I h) fun u s1 ⟨x, H1, I1, rx, a, C, dx, fs, g, fd, ps, sp, dvs, us0, ex, ea, c, hm, l, F, hb, hd, q⟩ => ?_) ht
  subst ex
  obtain rfl : u = Value.ref a := rx
  refine getmeth_ok I1 ea c hm l ?_
  refine PySem.W.callWith_K (first := [.ref a]) (h₀ := X.base) I.ok.mod.kin hm.kp (thn (ha.run pos pins s1 σ H1 _ I1 q) fun us s2 ⟨vs, H2, I2, r, q2⟩ => ⟨I2.kIn, ?_⟩) hst hpl
  exact run_fnSD (us := .ref a :: us) (vs := .ref a :: vs) F hr hb hd (L2N.passAt tk σ) I2 (.cons rfl r) q2
theorem pe_mx0 {pl : Sem Bool} {ta : TE} (he : PE X o ta) (hr : Room k X.A) (tk : L2N.Takes X Wx)
    (ht : eval (.Call (.Attribute o m apos) [] [] pos) X.env = (do
      let ov ← eval o X.env
      standAt apos.atName
      let (f, first) ← holding [ov] (getMethod ov m pl)
      callWith pos f first (backTo pos (starEach [] X.env)) (backToKw pos (keywordEach [] X.env))) := by rfl) :
    PE X (.Call (.Attribute o m apos) [] [] pos) (tMX X Wx m k ta tNil) := by
  refine ⟨fun pins s σ H Q I h => ?_⟩
  refine PySem.W.methodCall_KW (pl := pl) (thn (he.run pins s σ H _ I h) fun u s1 ⟨x, H1, I1, rx, a, C, dx, fs, g, fd, ps, sp, dvs, us0, ex, ea, c, hm, l, F, hb, hd, q⟩ => ?_) ht
  subst ex
  obtain rfl : u = Value.ref a := rx
  refine getmeth_ok I1 ea c hm l ?_
  exact PySem.W.callWith_K0 (first := [.ref a]) I1.kIn hm.kp (run_fnSD (us := [.ref a]) (vs := [.ref a]) F hr hb hd (L2N.passAt tk σ) I1 (.cons rfl .nil) q)
/-- the methods' table -/
abbrev MT := Str → Option RX
def OkMT (X : Cx) (m : Str) (k n : Nat) (dd : List D) (runs : MT) : Prop := ∀ c run, runs c = some run → OkM X.prog X.w X.K X.mg X.base c m k n dd run
/-- o.m(..), o a slot: the arguments may change things -/
def xMethS (i : Nat) (m : Str) (n : Nat) (dd : List D) (runs : MT) (k : FXA) : FX := fun ρ μ => (ρ[i]?).bind fun t => match t with
  | .obj c ns _ => if fidx m ns = none then (runs c).bind fun run => (k ρ μ).bind fun o => match o with
    | .ok as ρ1 μ1 => (mo (.slot i :: as) ρ1).bind fun z => if (z.1 ++ dd).length = n then (run (z.1 ++ dd) μ1).bind (xPut fun ys => mi (.slot i :: as) z.2 (ys.take z.1.length)) else none
    | .ex c fs ρ1 μ1 => some (.ex c fs ρ1 μ1)
    else none
  | _ => none
theorem methS_run {i : Nat} {t : TA} {runs : MT} (OM : OkMT X m k n dd runs) (k1 : PAr X Wx t kf) {σ : L2.St} {W : Wd} {ρ μ : List D} {F : List Addr} (S : Sta X.K W σ ρ μ F) {o : EO} (ho : xMethS i m n dd runs kf ρ μ = some o) {Q : VK} (hQ : GoesE X.K Wx Q σ W F o) : tMX X Wx m k (tVar i) t σ W.H Q := by
  obtain ⟨t0, e0, ho⟩ := bind_some ho
  cases t0 with
  | obj c ns ds0 =>
    have ho2 : (if fidx m ns = none then (runs c).bind fun run => (kf ρ μ).bind fun o => match o with
      | .ok as ρ1 μ1 => (mo (.slot i :: as) ρ1).bind fun z => if (z.1 ++ dd).length = n then (run (z.1 ++ dd) μ1).bind (xPut fun ys => mi (.slot i :: as) z.2 (ys.take z.1.length)) else none
      | .ex c fs ρ1 μ1 => some (.ex c fs ρ1 μ1)
      else none) = some o := ho
    by_cases hf : fidx m ns = none
    case neg => rw [if_neg hf] at ho2; cases ho2
    rw [if_pos hf] at ho2
    obtain ⟨run, e1, ho2⟩ := bind_some ho2
    obtain ⟨o1, e2, ho2⟩ := bind_some ho2
    obtain ⟨g, fd, ps, dvs, us, hF, hb, hv, hdd, hc, hm⟩ := OM c run e1
    obtain ⟨F1, F2, q1, _, _⟩ := S.ex
    obtain ⟨v, G, hv2, r0⟩ := RS_get q1 e0 (fun z => nomatch z)
    obtain ⟨a, dx, vs0, F', rfl, hH, hn, hR, rfl⟩ := r0
    refine ⟨.ref a, hv2, a, _, dx, _, g, fd, ps, _, dvs, us, rfl, hH, hc, hm, fidx_none hf, hF, hb, hv, ?_⟩
    refine k1 σ W ρ μ F S o1 e2 _ ?_
    cases o1 with
    | ok as ρ1 μ1 =>
      intro vs W1 F1 r S1 mv
      obtain ⟨z, e3, ho3⟩ := bind_some (show (mo (.slot i :: as) ρ1).bind (fun z => if (z.1 ++ dd).length = n then (run (z.1 ++ dd) μ1).bind (xPut fun ys => mi (.slot i :: as) z.2 (ys.take z.1.length)) else none) = some o from ho2)
      obtain ⟨ds, ρr⟩ := z
      by_cases hl : (ds ++ dd).length = n
      case neg => rw [if_neg hl] at ho3; cases ho3
      rw [if_pos hl] at ho3
      obtain ⟨o2, e4, ho3⟩ := bind_some ho3
      have fo := (foc_args (as := .slot i :: as) (vs := .ref a :: vs) S1 ⟨.ref a, vs, rfl, hv2, r⟩ e3).trans fun Fc Sc => foc_vals Sc (hdd W1)
      rw [← List.map_append] at fo
      exact spX_of fo hl e4 ho3 (hQ.after mv)
    | ex c fs ρ1 μ1 =>
      cases ho2
      exact hQ
  | _ => cases ho
theorem px_methS {pl : Sem Bool} {i : Nat} {y : Str} {runs : MT} (OM : OkMT X m k n dd runs) (hp : PE X (.Name y p) (tVar i)) (hr : Room k X.A) (tk : L2N.Takes X Wx) (ha : PAX X Wx (e :: es) kf)
    (hst : starEach (e :: es) X.env = (false, eval e X.env) :: starEach es X.env := by rfl) (hpl : (backTo pos (starEach es X.env)).any (·.1) = false := by rfl)
    (ht : eval (.Call (.Attribute (.Name y p) m apos) (e :: es) [] pos) X.env = (do
      let ov ← eval (.Name y p) X.env
      standAt apos.atName
      let (f, first) ← holding [ov] (getMethod ov m pl)
      callWith pos f first (backTo pos (starEach (e :: es) X.env)) (backToKw pos (keywordEach [] X.env))) := by rfl) :
    PX X Wx (.Call (.Attribute (.Name y p) m apos) (e :: es) [] pos) (xMethS i m n dd runs kf) := by
  obtain ⟨t, pt, k1⟩ := ha
  exact ⟨_, pe_mx hp hr tk pt hst hpl ht, fun σ W ρ μ F S o ho Q hQ => methS_run OM k1 S ho hQ⟩
theorem px_methS0 {pl : Sem Bool} {i : Nat} {y : Str} {runs : MT} (OM : OkMT X m k n dd runs) (hp : PE X (.Name y p) (tVar i)) (hr : Room k X.A) (tk : L2N.Takes X Wx)
    (ht : eval (.Call (.Attribute (.Name y p) m apos) [] [] pos) X.env = (do
      let ov ← eval (.Name y p) X.env
      standAt apos.atName
      let (f, first) ← holding [ov] (getMethod ov m pl)
      callWith pos f first (backTo pos (starEach [] X.env)) (backToKw pos (keywordEach [] X.env))) := by rfl) :
    PX X Wx (.Call (.Attribute (.Name y p) m apos) [] [] pos) (xMethS i m n dd runs xaNil) := by
  refine ⟨_, pe_mx0 hp hr tk ht, fun σ W ρ μ F S o ho Q hQ => methS_run OM (t := tNil) (kf := xaNil) ?_ S ho hQ⟩
  intro σ W ρ μ F S o ho Q hQ
  cases ho
  exact hQ [] W F rfl S (Ext.refl S.ok).mvr
end
end Fw
/-! # methods by paths and of new instances; makers; what is shared -/
namespace Fw
open PySem PySem.Spec PyProof.Rows L2
open Evl (Ex)
theorem rdp_det {K : PySem.W.Frag} {H : Hp} : ∀ {p : List Str} {u v v' : V}, rdp K H u p v → rdp K H u p v' → v = v'
  | [], _, _, _, h, h' => h.symm.trans h'
  | y :: p, u, v, v', ⟨a, C, dx, fs, w, h1, h2, h3, h4, h5, h6⟩, ⟨a', C', dx', fs', w', g1, g2, g3, g4, g5, g6⟩ => by
    subst h1
    cases g1
    rw [h2] at g2
    cases g2
    rw [h5] at g5
    cases g5
    exact rdp_det h6 g6
theorem rdp_ex {K : PySem.W.Frag} {H H' : Hp} (x : Ex H H') : ∀ {p : List Str} {u v : V}, rdp K H u p v → rdp K H' u p v
  | [], _, _, h => h
  | y :: p, u, v, ⟨a, C, dx, fs, w, h1, h2, h3, h4, h5, h6⟩ => ⟨a, C, dx, fs, w, h1, x _ _ h2, h3, h4, h5, rdp_ex x h6⟩
/-- e is the path p from the slot i -/
def PPath (X : Cx) (e : Expr) (i : Nat) (p : List Str) : Prop := ∃ te : TE, PE X e te ∧ ∀ (σ : L2.St) (H : Hp) (Q : VK) (u v : V), σ[i]? = some (some u) → rdp X.K H u p v → Q v H → te σ H Q
def flL (ds : List D) : Bool := ds.all fl
theorem RL_fl {K : PySem.W.Frag} {W : Wd} : ∀ {ds : List D} {vs : List V} {F : List Addr}, flL ds = true → RL K W ds vs F → F = []
  | [], _, _, _, h => h.2
  | d :: ds, _, _, q, h => by
    obtain ⟨v, vs', F1, F2, h1, h2, h3, h4⟩ := h
    have q1 : (fl d && flL ds) = true := q
    obtain ⟨qa, qb⟩ := Bool.and_eq_true_iff.mp q1
    rw [h4, R_fl qa h2, RL_fl qb h3]
    rfl
section
variable {X : Cx} {Wx : WX} {e a b c o : Expr} {es : List Expr} {f g : FX} {p apos pos : Pos} {kq : FA} {kf : FXA} {x m : Str} {k n i : Nat} {dd : List D} {run : RX} {q : List Str} {ok : OkT} {runs : MT}
theorem pp_var {y : Str} (hp : PE X (.Name y pos) (tVar i)) : PPath X (.Name y pos) i [] := ⟨_, hp, fun σ H Q u v hu h hQ => ⟨u, hu, by
  have e : u = v := h
  rw [e]
  exact hQ⟩⟩
theorem pp_fld (h : PPath X e i q) (hb : attributeBase e x X.env (eval e X.env) = eval e X.env := by rfl) : PPath X (.Attribute e x pos) i (q ++ [x]) := by
  obtain ⟨te, p, k⟩ := h
  refine ⟨_, pe_fld p hb, fun σ H Q u v hu hr hQ => ?_⟩
  obtain ⟨w, h1, a, C, dx, fs, w', h2, h3, h4, h5, h6, h7⟩ := rdp_app hr
  refine k σ H _ u w hu h1 ⟨a, C, dx, fs, w', h2, h3, h4, h5, h6, ?_⟩
  have e : w' = v := h7
  rw [e]
  exact hQ
/-- by a path, the arguments quiet -/
def xMethQ (ok : OkT) (i : Nat) (q : List Str) (m : Str) (n : Nat) (dd : List D) (runs : MT) (k : FA) : FX := fun ρ μ => (ρ[i]?).bind fun r => (pget ok q r).bind fun t => match t with
  | .obj c ns _ => if fidx m ns = none then (runs c).bind fun run => (k ρ μ).bind fun as => if flL as = true ∧ (t :: (as ++ dd)).length = n then (run (t :: (as ++ dd)) μ).bind (xPut fun ys => (put1 fun t' => (pput q r t').map fun r' => ρ.set i r') (ys.take 1)) else none else none
  | .ref j => match μ[j]? with
    | some (.obj c ns _) => if fidx m ns = none then (runs c).bind fun run => (k ρ μ).bind fun as => if flL as = true ∧ (t :: (as ++ dd)).length = n then (run (t :: (as ++ dd)) μ).bind (xPut fun ys => some ρ) else none else none
    | _ => none
  | _ => none
theorem foc_nil {K : PySem.W.Frag} {W : Wd} {σ : L2.St} {ρ μ : List D} {F : List Addr} (S : Sta K W σ ρ μ F) : Foc K W σ ρ μ F [] [] fun ys => if ys = [] then some ρ else none := by
  obtain ⟨Fc, S2, sub, k⟩ := sta_frame (τ := []) (xs := []) S rfl
  refine ⟨Fc, S2, sub, fun W' xs' μ' Fc' G E ρ' hp S' nd own hE mv => ?_⟩
  by_cases e : xs' = []
  · subst e
    cases hp
    exact k W' [] μ' Fc' G E S' nd own hE mv
  · have hp2 : (if xs' = [] then some ρ else none) = some ρ' := hp
    rw [if_neg e] at hp2
    cases hp2
theorem methQ_run {te : TE} {t : TA} (T : CE X.K ok) (OM : OkMT X m k n dd runs) (h0 : ∀ (σ : L2.St) (H : Hp) (Q : VK) (u v : V), σ[i]? = some (some u) → rdp X.K H u q v → Q v H → te σ H Q)
    (k1 : ∀ (σ : L2.St) (W : Wd) (ρ μ : List D) (F : List Addr), Sta X.K W σ ρ μ F → ∀ ds, kq ρ μ = some ds → ∀ Q : List V → Hp → Prop, (∀ vs W' G, Ext W W' → RL X.K W' ds vs G → Q vs W'.H) → t σ W.H Q)
    {σ : L2.St} {W : Wd} {ρ μ : List D} {F : List Addr} (S : Sta X.K W σ ρ μ F) {o : EO} (ho : xMethQ ok i q m n dd runs kq ρ μ = some o) {Q : VK} (hQ : GoesE X.K Wx Q σ W F o) : tMX X Wx m k te t σ W.H Q := by
  obtain ⟨r, e0, ho⟩ := bind_some ho
  obtain ⟨t0, e1, ho⟩ := bind_some ho
  obtain ⟨u, v, hu, hr, Fc, Sc, _⟩ := foc_sp T S e0 e1
  refine h0 σ W.H _ u v hu hr ?_
  obtain ⟨G0, F0, r1, _, _⟩ := sta_tail Sc
  rw [R1_iff] at r1
  rcases r1 with ⟨z, _⟩ | ⟨v1, ev, r1⟩
  · have := (pget_ne e1).2
    rw [z] at this
    cases this
  injection ev with ev
  subst ev
  cases t0 with
  | obj c ns ds0 =>
    have ho2 : (if fidx m ns = none then (runs c).bind fun run => (kq ρ μ).bind fun as => if flL as = true ∧ (D.obj c ns ds0 :: (as ++ dd)).length = n then (run (D.obj c ns ds0 :: (as ++ dd)) μ).bind (xPut fun ys => (put1 fun t' => (pput q r t').map fun r' => ρ.set i r') (ys.take 1)) else none else none) = some o := ho
    by_cases hf : fidx m ns = none
    case neg => rw [if_neg hf] at ho2; cases ho2
    rw [if_pos hf] at ho2
    obtain ⟨run, e2, ho2⟩ := bind_some ho2
    obtain ⟨as, e3, ho2⟩ := bind_some ho2
    by_cases hl : flL as = true ∧ (D.obj c ns ds0 :: (as ++ dd)).length = n
    case neg => rw [if_neg hl] at ho2; cases ho2
    rw [if_pos hl] at ho2
    obtain ⟨o2, e4, ho2⟩ := bind_some ho2
    obtain ⟨gf, fd, ps, dvs, us, hF, hb, hv, hdd, hc, hm⟩ := OM c run e2
    obtain ⟨a, dx, vs0, F', rfl, hH, hn, hR, rfl⟩ := r1
    refine ⟨a, _, dx, _, gf, fd, ps, _, dvs, us, rfl, hH, hc, hm, fidx_none hf, hF, hb, hv, ?_⟩
    refine k1 σ W ρ μ F S as e3 _ fun vs W1 G x1 ra => ?_
    have z := RL_fl hl.1 ra
    subst z
    obtain ⟨u', v', hu', hr', fo⟩ := foc_sp T (S.ext x1) e0 e1
    rw [hu] at hu'
    cases hu'
    have ev : v' = .ref a := rdp_det hr' (rdp_ex x1.ex hr)
    subst ev
    have fo2 := fo.trans fun Fc Sc => foc_vals Sc (RL_app ra (hdd W1))
    exact spX_of (vs := .ref a :: (vs ++ dvs)) fo2 hl.2 e4 ho2 (hQ.after x1.mvr)
  | ref j =>
    have ho2 : (match μ[j]? with
      | some (.obj c ns _) => if fidx m ns = none then (runs c).bind fun run => (kq ρ μ).bind fun as => if flL as = true ∧ (D.ref j :: (as ++ dd)).length = n then (run (D.ref j :: (as ++ dd)) μ).bind (xPut fun ys => some ρ) else none else none
      | _ => none) = some o := ho
    cases e9 : μ[j]? with
    | none => rw [e9] at ho2; cases ho2
    | some t2 =>
      rw [e9] at ho2
      cases t2 with
      | obj c ns ds0 =>
        have ho3 : (if fidx m ns = none then (runs c).bind fun run => (kq ρ μ).bind fun as => if flL as = true ∧ (D.ref j :: (as ++ dd)).length = n then (run (D.ref j :: (as ++ dd)) μ).bind (xPut fun ys => some ρ) else none else none) = some o := ho2
        by_cases hf : fidx m ns = none
        case neg => rw [if_neg hf] at ho3; cases ho3
        rw [if_pos hf] at ho3
        obtain ⟨run, e2, ho3⟩ := bind_some ho3
        obtain ⟨as, e3, ho3⟩ := bind_some ho3
        by_cases hl : flL as = true ∧ (D.ref j :: (as ++ dd)).length = n
        case neg => rw [if_neg hl] at ho3; cases ho3
        rw [if_pos hl] at ho3
        obtain ⟨o2, e4, ho3⟩ := bind_some ho3
        obtain ⟨gf, fd, ps, dvs, us, hF, hb, hv, hdd, hc, hm⟩ := OM c run e2
        have rj := r1
        obtain ⟨a, rfl, h3, hG0⟩ := r1
        obtain ⟨F1, F2, _, h4, _⟩ := S.ex
        obtain ⟨a', G', h5, h6, _⟩ := RL_map_get h4 e9
        rw [h3] at h5
        cases h5
        obtain ⟨a2, dx, vs0, F', ea, hH, hn, hR, _⟩ := h6
        cases ea
        refine ⟨_, _, dx, _, gf, fd, ps, _, dvs, us, rfl, hH, hc, hm, fidx_none hf, hF, hb, hv, ?_⟩
        refine k1 σ W ρ μ F S as e3 _ fun vs W1 G x1 ra => ?_
        have z := RL_fl hl.1 ra
        subst z
        subst hG0
        have fo2 := (foc_nil (S.ext x1)).trans fun Fc Sc => foc_vals (ds := D.ref j :: (as ++ dd)) (vs := .ref a :: (vs ++ dvs)) Sc ⟨.ref a, vs ++ dvs, [], [], rfl, R_ext x1 _ rj, RL_app ra (hdd W1), rfl⟩
        exact spX_of (vs := .ref a :: (vs ++ dvs)) (fo2.put_imp (put' := fun ys => some ρ) fun ys zs hz => by
          cases hz
          show (if ys.take ([] : List D).length = [] then some ρ else none) = some ρ
          rw [List.length_nil, List.take_zero, if_pos rfl]) hl.2 e4 ho3 (hQ.after x1.mvr)
      | _ => cases ho2
  | _ => cases ho
theorem px_methQ {pl : Sem Bool} (T : CE X.K ok) (OM : OkMT X m k n dd runs) (hp : PPath X o i q) (hr : Room k X.A) (tk : L2N.Takes X Wx) (ha : PAQ X (e :: es) kq)
    (hst : starEach (e :: es) X.env = (false, eval e X.env) :: starEach es X.env := by rfl) (hpl : (backTo pos (starEach es X.env)).any (·.1) = false := by rfl)
    (ht : eval (.Call (.Attribute o m apos) (e :: es) [] pos) X.env = (do
      let ov ← eval o X.env
      standAt apos.atName
      let (f, first) ← holding [ov] (getMethod ov m pl)
      callWith pos f first (backTo pos (starEach (e :: es) X.env)) (backToKw pos (keywordEach [] X.env))) := by rfl) :
    PX X Wx (.Call (.Attribute o m apos) (e :: es) [] pos) (xMethQ ok i q m n dd runs kq) := by
  obtain ⟨t, pt, k1⟩ := ha
  obtain ⟨te, pe, k0⟩ := hp
  exact ⟨_, pe_mx pe hr tk pt hst hpl ht, fun σ W ρ μ F S o ho Q hQ => methQ_run T OM k0 k1 S ho hQ⟩
theorem px_methQ0 {pl : Sem Bool} (T : CE X.K ok) (OM : OkMT X m k n dd runs) (hp : PPath X o i q) (hr : Room k X.A) (tk : L2N.Takes X Wx)
    (ht : eval (.Call (.Attribute o m apos) [] [] pos) X.env = (do
      let ov ← eval o X.env
      standAt apos.atName
      let (f, first) ← holding [ov] (getMethod ov m pl)
      callWith pos f first (backTo pos (starEach [] X.env)) (backToKw pos (keywordEach [] X.env))) := by rfl) :
    PX X Wx (.Call (.Attribute o m apos) [] [] pos) (xMethQ ok i q m n dd runs aNil) := by
  obtain ⟨te, pe, k0⟩ := hp
  refine ⟨_, pe_mx0 pe hr tk ht, fun σ W ρ μ F S o ho Q hQ => methQ_run (kq := aNil) T OM k0 (t := tNil) (fun σ W ρ μ F S ds hd Q q => ?_) S ho hQ⟩
  cases hd
  exact q [] W [] (Ext.refl S.ok) ⟨rfl, rfl⟩
/-! ### what stands at the front is dropped behind -/
def consE (t : D) : EO → EO
  | .ok d ρ μ => .ok d (t :: ρ) μ
  | .ex c fs ρ μ => .ex c fs (t :: ρ) μ
theorem goes_drop {K : PySem.W.Frag} {Q : VK} {σ : L2.St} {W W0 : Wd} {F F0 : List Addr} {o : EO} {oo : Option V} {t : D} (hQ : GoesE K Wx Q σ W0 F0 o) (mv0 : Mv W0 W F0 F) : GoesE K (fun cls dx _ H => Wx cls dx σ H) Q (oo :: σ) W F (consE t o) := by
  cases o with
  | ok d ρ' μ' =>
    intro v W' G F' r S nd own mv
    obtain ⟨G1, F2, _, S2, e⟩ := sta_tail S
    subst e
    have sub : (G ++ F2).Sublist (G ++ (G1 ++ F2)) := List.Sublist.append (List.Sublist.refl G) (List.sublist_append_right G1 F2)
    exact hQ v W' G F2 r S2 (nd.sublist sub) own ((mv0.trans mv).sub (fun _ h => h) fun a ha => sub.subset ha)
  | ex c fs ρ' μ' =>
    intro dx W' F' r S mv
    obtain ⟨G1, F2, _, S2, e⟩ := sta_tail S
    subst e
    exact hQ dx W' F2 r S2 ((mv0.trans mv).sub (fun _ h => h) fun a ha => List.mem_append_right _ ha)
/-- a method of a new instance that nobody keeps -/
def xMethT (m : Str) (n : Nat) (dd : List D) (runs : MT) (g : FX) (k : FA) : FX := fun ρ μ => (g ρ μ).bind fun o => match o with
  | .ok t ρ1 μ1 => (match t with
    | .obj c ns _ => if fidx m ns = none then (runs c).bind fun run => (k ρ1 μ1).bind fun as => if flL as = true ∧ (t :: (as ++ dd)).length = n then (run (t :: (as ++ dd)) μ1).bind (xPut fun ys => (ys.head?).map fun _ => ρ1) else none else none
    | _ => none)
  | .ex c fs ρ1 μ1 => some (.ex c fs ρ1 μ1)
theorem front_put {run2 : EO} {ρ1 : List D} {o : EO} (h : xPut (fun ys => (ys.head?).map fun _ => ρ1) run2 = some o) : ∃ t', xPut (fun ys => (put1 fun d' => some (d' :: ρ1)) (ys.take 1)) run2 = some (consE t' o) := by
  cases run2 with
  | ok d ys μ' =>
    cases ys with
    | nil => cases h
    | cons y ys =>
      cases h
      exact ⟨y, rfl⟩
  | ex c fs ys μ' =>
    cases ys with
    | nil => cases h
    | cons y ys =>
      cases h
      exact ⟨y, rfl⟩
theorem methT_run {te : TE} {t : TA} (OM : OkMT X m k n dd runs) (h0 : PXr X Wx te g)
    (k1 : ∀ (σ : L2.St) (W : Wd) (ρ μ : List D) (F : List Addr), Sta X.K W σ ρ μ F → ∀ ds, kq ρ μ = some ds → ∀ Q : List V → Hp → Prop, (∀ vs W' G, Ext W W' → RL X.K W' ds vs G → Q vs W'.H) → t σ W.H Q) : PXr X Wx (tMX X Wx m k te t) (xMethT m n dd runs g kq) := by
  intro σ W ρ μ F S o ho Q hQ
  obtain ⟨o1, e1, ho⟩ := bind_some ho
  refine h0 σ W ρ μ F S o1 e1 _ ?_
  cases o1 with
  | ok t0 ρ1 μ1 =>
    intro v W1 G F1 r S1 nd own mv
    cases t0 with
    | obj c ns ds0 =>
      have ho2 : (if fidx m ns = none then (runs c).bind fun run => (kq ρ1 μ1).bind fun as => if flL as = true ∧ (D.obj c ns ds0 :: (as ++ dd)).length = n then (run (D.obj c ns ds0 :: (as ++ dd)) μ1).bind (xPut fun ys => (ys.head?).map fun _ => ρ1) else none else none) = some o := ho
      by_cases hf : fidx m ns = none
      case neg => rw [if_neg hf] at ho2; cases ho2
      rw [if_pos hf] at ho2
      obtain ⟨run, e2, ho2⟩ := bind_some ho2
      obtain ⟨as, e3, ho2⟩ := bind_some ho2
      by_cases hl : flL as = true ∧ (D.obj c ns ds0 :: (as ++ dd)).length = n
      case neg => rw [if_neg hl] at ho2; cases ho2
      rw [if_pos hl] at ho2
      obtain ⟨o2, e4, ho2⟩ := bind_some ho2
      obtain ⟨gf, fd, ps, dvs, us, hF, hb, hv, hdd, hc, hm⟩ := OM c run e2
      have rt := r
      obtain ⟨a, dx, vs0, F', rfl, hH, hn, hR, hG⟩ := r
      refine ⟨a, _, dx, _, gf, fd, ps, _, dvs, us, rfl, hH, hc, hm, fidx_none hf, hF, hb, hv, ?_⟩
      refine k1 σ W1 ρ1 μ1 F1 S1 as e3 _ fun vs W2 G2 x2 ra => ?_
      have z := RL_fl hl.1 ra
      subst z
      have Sf := sta_cons (o := some (.ref a)) (R1_of (R_ext x2 _ rt)) (S1.ext x2) nd fun b hb => (own b hb).ext x2
      have fo2 := (foc_front Sf).trans fun Fc Sc => foc_vals Sc (RL_app ra (hdd W2))
      obtain ⟨t', ht'⟩ := front_put ho2
      exact spX_of (Wx := fun cls dx _ H => Wx cls dx σ H) (vs := .ref a :: (vs ++ dvs)) fo2 hl.2 e4 ht' (goes_drop hQ (mv.trans x2.mvr))
    | _ => cases ho
  | ex c fs ρ1 μ1 =>
    cases ho
    exact hQ
theorem px_methT {pl : Sem Bool} (OM : OkMT X m k n dd runs) (hp : PX X Wx o g) (hr : Room k X.A) (tk : L2N.Takes X Wx) (ha : PAQ X (e :: es) kq)
    (hst : starEach (e :: es) X.env = (false, eval e X.env) :: starEach es X.env := by rfl) (hpl : (backTo pos (starEach es X.env)).any (·.1) = false := by rfl)
    (ht : eval (.Call (.Attribute o m apos) (e :: es) [] pos) X.env = (do
      let ov ← eval o X.env
      standAt apos.atName
      let (f, first) ← holding [ov] (getMethod ov m pl)
      callWith pos f first (backTo pos (starEach (e :: es) X.env)) (backToKw pos (keywordEach [] X.env))) := by rfl) :
    PX X Wx (.Call (.Attribute o m apos) (e :: es) [] pos) (xMethT m n dd runs g kq) := by
  obtain ⟨t, pt, k1⟩ := ha
  obtain ⟨te, pe, k0⟩ := hp
  exact ⟨_, pe_mx pe hr tk pt hst hpl ht, methT_run OM k0 k1⟩
theorem px_methT0 {pl : Sem Bool} (OM : OkMT X m k n dd runs) (hp : PX X Wx o g) (hr : Room k X.A) (tk : L2N.Takes X Wx)
    (ht : eval (.Call (.Attribute o m apos) [] [] pos) X.env = (do
      let ov ← eval o X.env
      standAt apos.atName
      let (f, first) ← holding [ov] (getMethod ov m pl)
      callWith pos f first (backTo pos (starEach [] X.env)) (backToKw pos (keywordEach [] X.env))) := by rfl) :
    PX X Wx (.Call (.Attribute o m apos) [] [] pos) (xMethT m n dd runs g aNil) := by
  obtain ⟨te, pe, k0⟩ := hp
  refine ⟨_, pe_mx0 pe hr tk ht, methT_run (kq := aNil) (t := tNil) OM k0 fun σ W ρ μ F S ds hd Q q => ?_⟩
  cases hd
  exact q [] W [] (Ext.refl S.ok) ⟨rfl, rfl⟩
/-! ### makers -/
def xMake (c : Str) (n : Nat) (dd : List D) (run : RX) (k : FXA) : FX := xA k fun ds ρ μ => if (D.obj c [] [] :: (ds ++ dd)).length = n then (run (D.obj c [] [] :: (ds ++ dd)) μ).bind fun o => match o with
  | .ok d (t :: _) μ' => (match d with
    | .non => if isUn t = true then none else some (.ok t ρ μ')
    | _ => none)
  | .ex cx fs (_ :: _) μ' => some (.ex cx fs ρ μ')
  | _ => none
  else none
theorem runM {pins : List (Addr × Obj)} {σ : L2.St} {H : Hp} {s : Shared} {Q : VK} {us : List Value} {vs dvs : List V} {ds : List Value} {C f : Addr} {fd : FuncData} {ps : List Str} {sp : Sp} (M : Mk X.K C f) (F : FnOk X.prog X.w X.K X.mg X.base (L2N.CX X.prog X.w) k f fd ps sp) (hr : Room (k + 1) X.A) (hb : Binds X.K fd ps ds) (hd : Vals dvs ds)
    (tk : L2N.Takes X Wx) (I : Inv X pins σ H s) (r : Vals vs us)
    (h : ∀ x dx, H x = none → H dx = none → dx ≠ x → sp (.ref x :: (vs ++ dvs)) (upd (upd H dx (.own x)) x (.ins C dx [])) (fun v H2 => v = .non ∧ Q (.ref x) H2) (WE Wx σ)) :
    wpAny (model X.prog X.w) X.A (call (.ref C) us) (EP X pins σ Q) X.xe s := by
  have hq := h (s.heap.objs.size + 1) s.heap.objs.size (I.hok.fresh (Nat.le_succ _)) (I.hok.fresh (Nat.le_refl _)) (Nat.ne_of_lt (Nat.lt_succ_self _))
  have I2 := Inv.made (C := C) I
  have r2 : Vals (V.ref (s.heap.objs.size + 1) :: (vs ++ dvs)) (Value.ref (s.heap.objs.size + 1) :: (us ++ ds)) := .cons rfl (r.append hd)
  have hl : (Value.ref (s.heap.objs.size + 1) :: us ++ ds).length = ps.length := by
    have e := r2.length
    rw [F.len _ _ _ _ hq] at e
    exact e.symm
  refine wpAny_call (make_map (f := f) I.kIn M.makes M.init (beq_iff_eq.mp M.fn) (codeAny_mono (F.run _ X.stack _ _ ⟨Value.ref (s.heap.objs.size + 1) :: us, []⟩ (Value.ref (s.heap.objs.size + 1) :: (us ++ ds)) _ _ _ (hr.make C us [])
    (I2.env0.make C us []) (hb _ (Value.ref (s.heap.objs.size + 1) :: us) I2.kIn hl) r2 hq) fun r s' hq' => ?_))
  cases r with
  | error e => exact L2N.passAt tk σ pins _ _ e s' I2 hq'
  | ok fl =>
    cases fl with
    | ret u =>
      obtain ⟨v, H', I3, rv, ev, q3⟩ := I2.after hq'
      subst ev
      exact ⟨rv, ⟨V.ref (s.heap.objs.size + 1), H', I3, rfl, q3⟩⟩
    | next => exact False.elim hq'
    | brk => exact False.elim hq'
    | cont => exact False.elim hq'
def tMk (C : Addr) (sp : Sp) (dvs : List V) (Wx : WX) (t : TA) : TE := fun σ H Q => t σ H fun vs H1 => ∀ x dx, H1 x = none → H1 dx = none → dx ≠ x →
  sp (.ref x :: (vs ++ dvs)) (upd (upd H1 dx (.own x)) x (.ins C dx [])) (fun v H2 => v = .non ∧ Q (.ref x) H2) (WE Wx σ)
theorem make_run {c : Str} {t : TA} {dvs : List V} (hdd : ∀ W : Wd, RL X.K W dd dvs []) (k1 : PAr X Wx t kf) : PXr X Wx (tMk (He.ga X.K c) (spX X.K n run) dvs Wx t) (xMake c n dd run kf) := by
  intro σ W ρ μ F S o ho Q hQ
  refine runA_bind k1 S ho hQ fun ds vs W1 ρ1 μ1 F1 ra S1 mv ho1 x dx hx hdx ne => ?_
  by_cases hl : (D.obj c [] [] :: (ds ++ dd)).length = n
  case neg => rw [if_neg hl] at ho1; cases ho1
  rw [if_pos hl] at ho1
  obtain ⟨o2, e4, ho1⟩ := bind_some ho1
  have x1 : Ext W1 (W1.put dx (.own x)) := Ext.put S1.ok hdx
  have hx2 : (W1.put dx (.own x)).H x = none := by
    show upd W1.H dx _ x = none
    rw [upd_ne fun z => ne z.symm]
    exact hx
  have x2 : Ext W1 ((W1.put dx (.own x)).put x (.ins (He.ga X.K c) dx [])) := x1.trans (Ext.put x1.ok hx2)
  have rt : R X.K ((W1.put dx (.own x)).put x (.ins (He.ga X.K c) dx [])) (.obj c [] []) (.ref x) [x] := ⟨x, dx, [], [], rfl, upd_same, rfl, ⟨rfl, rfl⟩, rfl⟩
  have xF : x ∉ F1 := fun z => by
    obtain ⟨_, w⟩ := S1.own x z
    rcases w with ⟨xs, w⟩ | ⟨C, dx, fs, w⟩ <;> rw [hx] at w <;> cases w
  have nofr : ¬ W1.Fr x := fun z => S1.ok x z hx
  have Sf := sta_cons (o := some (.ref x)) (R1_of rt) (S1.ext x2) (List.nodup_cons.mpr ⟨xF, S1.nd⟩) fun b hb => by
    obtain rfl := List.mem_singleton.mp hb
    exact ⟨nofr, .inr ⟨_, dx, _, upd_same⟩⟩
  have mv2 : Mv W ((W1.put dx (.own x)).put x (.ins (He.ga X.K c) dx [])) F ([x] ++ F1) := mv.trans ⟨fun b o h _ => x2.ex b o h, x2.fr, fun b h => (x2.nf b h).elim .inl fun z => .inr (.inl z), fun b hb => (List.mem_cons.mp hb).elim (fun z => .inr (z ▸ hx)) .inl, ⟨[], (List.append_nil _).symm⟩⟩
  have fo2 := (foc_front Sf).trans fun Fc Sc => foc_vals Sc (RL_app (RL_ext x2 ds ra) (hdd _))
  cases o2 with
  | ok d ys μ' =>
    cases ys with
    | nil => cases ho1
    | cons t' ys =>
      cases d with
      | non =>
        have ho3 : (if isUn t' = true then none else some (EO.ok t' ρ1 μ')) = some o := ho1
        by_cases hu : isUn t' = true
        case pos => rw [if_pos hu] at ho3; cases ho3
        rw [if_neg hu] at ho3
        cases ho3
        refine spX_of (Wx := fun cls dx _ H => Wx cls dx σ H) (vs := .ref x :: (vs ++ dvs)) (o := .ok .non (t' :: ρ1) μ') fo2 hl e4 rfl ?_
        intro v W' G F' r S' nd own mv3
        obtain ⟨rfl, rfl⟩ := r
        obtain ⟨G1, F2, r1, S2, e⟩ := sta_tail S'
        subst e
        rw [R1_iff] at r1
        rcases r1 with ⟨z, _⟩ | ⟨v1, ev, r1⟩
        · rw [z] at hu
          exact absurd rfl hu
        injection ev with ev
        subst ev
        exact ⟨rfl, hQ (.ref x) W' G1 F2 r1 S2 nd (fun b hb => S'.own b (List.mem_append_left _ hb)) (mv2.trans mv3)⟩
      | _ => cases ho1
  | ex cx fs ys μ' =>
    cases ys with
    | nil => cases ho1
    | cons t' ys =>
      cases ho1
      exact spX_of (Wx := fun cls dx _ H => Wx cls dx σ H) (vs := .ref x :: (vs ++ dvs)) (o := .ex cx fs (t' :: ρ1) μ') fo2 hl e4 rfl (goes_drop (o := .ex cx fs ρ1 μ') (t := t') (Q := fun v H2 => v = .non ∧ Q (.ref x) H2) hQ mv2)
theorem px_make {c : Str} (O : OkK X.prog X.w X.K X.mg X.base c k n dd run) (hr : Room (k + 1) X.A) (tk : L2N.Takes X Wx) (ha : PAX X Wx (e :: es) kf) (hg : Gl X c := by rfl) (hdb : (c == ("__debug__" : Str)) = false := by decide)
    (he : starEach (e :: es) X.env = (false, eval e X.env) :: starEach es X.env := by rfl) (hpl : (backTo pos (starEach es X.env)).any (·.1) = false := by rfl) : PX X Wx (.Call (.Name c p) (e :: es) [] pos) (xMake c n dd run kf) := by
  obtain ⟨f, fd, ps, dvs, us, hF, hb, hv, hdd, M, hm⟩ := O
  obtain ⟨t, pt, k1⟩ := ha
  refine ⟨tMk (He.ga X.K c) (spX X.K n run) dvs Wx t, ⟨fun pins s σ H Q I h => ?_⟩, make_run hdd k1⟩
  refine wpAny_Call_Name_kw (ld_glob I hg hm ?_ hdb)
  refine PySem.W.callWith_K (h₀ := X.base) I.ok.mod.kin M.kp (thn (pt.run pos pins s σ H _ I h) fun us s1 ⟨vs, H1, I1, r, q⟩ => ⟨I1.kIn, ?_⟩) he hpl
  exact runM M hF hr hb hv tk I1 r q
theorem px_make0 {c : Str} (O : OkK X.prog X.w X.K X.mg X.base c k n dd run) (hr : Room (k + 1) X.A) (tk : L2N.Takes X Wx) (hg : Gl X c := by rfl) (hdb : (c == ("__debug__" : Str)) = false := by decide) : PX X Wx (.Call (.Name c p) [] [] pos) (xMake c n dd run xaNil) := by
  obtain ⟨f, fd, ps, dvs, us, hF, hb, hv, hdd, M, hm⟩ := O
  refine ⟨tMk (He.ga X.K c) (spX X.K n run) dvs Wx tNil, ⟨fun pins s σ H Q I h => ?_⟩, make_run hdd ?_⟩
  · refine wpAny_Call_Name_kw (ld_glob I hg hm ?_ hdb)
    exact PySem.W.callWith_K0 I.kIn M.kp (runM (us := []) M hF hr hb hv tk I .nil h)
  · intro σ W ρ μ F S o ho Q hQ
    cases ho
    exact hQ [] W F rfl S (Ext.refl S.ok).mvr
/-- a new instance that several will know -/
def xShare (g : FX) : FX := fun ρ μ => (g ρ μ).bind fun o => match o with
  | .ok d ρ1 μ1 => (match d with
    | .obj _ _ _ => some (.ok (.ref μ1.length) ρ1 (μ1 ++ [d]))
    | _ => none)
  | .ex c fs ρ1 μ1 => some (.ex c fs ρ1 μ1)
theorem px_share (h : PX X Wx e g) : PX X Wx e (xShare g) := by
  obtain ⟨te, p, k1⟩ := h
  refine ⟨te, p, fun σ W ρ μ F S o ho Q hQ => ?_⟩
  obtain ⟨o1, e1, ho⟩ := bind_some ho
  refine k1 σ W ρ μ F S o1 e1 _ ?_
  cases o1 with
  | ex c fs ρ1 μ1 =>
    cases ho
    exact hQ
  | ok d ρ1 μ1 =>
    cases d with
    | obj c ns ds =>
      cases ho
      intro v W' G F' r S' nd own mv
      have rt := r
      obtain ⟨a, dx, vs, F0, rfl, hH, hn, hR, hG⟩ := r
      have lt : Lt W' ⟨W'.H, W'.Fr, W'.m ++ [a]⟩ := ⟨fun _ _ z => z, fun _ _ z => z, fun _ _ _ _ z z' => ⟨z, z'⟩, fun k b z => by
        show (W'.m ++ [a])[k]? = some b
        rw [List.getElem?_append_left (List.getElem?_eq_some_iff.mp z).1]
        exact z⟩
      obtain ⟨⟨F1, F2, h1, h2, h3⟩, nd2, own2, ok2⟩ := S'
      subst h3
      have lm : μ1.length = W'.m.length := by
        have := RL_len h2
        rw [List.length_map] at this
        exact this.symm
      have pm : (F1 ++ (F2 ++ G)).Perm (G ++ (F1 ++ F2)) := by
        rw [← List.append_assoc]
        exact List.perm_append_comm
      have r2 : RL X.K ⟨W'.H, W'.Fr, W'.m ++ [a]⟩ (μ1 ++ [.obj c ns ds]) ((W'.m ++ [a]).map V.ref) (F2 ++ G) := by
        rw [List.map_append]
        exact RL_app (RL_same lt rfl μ1 h2) ⟨.ref a, [], G, [], rfl, R_same lt rfl _ rt, ⟨rfl, rfl⟩, (List.append_nil G).symm⟩
      refine hQ (.ref a) ⟨W'.H, W'.Fr, W'.m ++ [a]⟩ [] (F1 ++ (F2 ++ G)) ⟨a, rfl, ?_, rfl⟩ ⟨⟨F1, F2 ++ G, RS_same lt rfl h1, r2, rfl⟩, nodup_of_perm pm nd, fun b hb => ?_, ok2⟩ (nodup_of_perm pm nd) (fun _ hb => nomatch hb) ⟨mv.keep, mv.fr, mv.nf, fun b hb => mv.own b (pm.mem_iff.mp hb), ?_⟩
      · show (W'.m ++ [a])[μ1.length]? = some a
        rw [lm, List.getElem?_append_right (Nat.le_refl _), Nat.sub_self]
        rfl
      · rcases List.mem_append.mp (pm.mem_iff.mp hb) with z | z
        · exact own b z
        · exact own2 b z
      · obtain ⟨l, hl⟩ := mv.m
        exact ⟨l ++ [a], by show W'.m ++ [a] = _; rw [hl, List.append_assoc]⟩
    | _ => cases ho
end
end Fw
/-! # statements that change something -/
namespace Fw
open PySem PySem.Spec PyProof.Rows L2
open Evl (Ex)
/-- by a statement's own end -/
def xS (g : FX) (k : D → FS) : FS := fun ρ μ => (g ρ μ).bind fun o => match o with
  | .ok d ρ1 μ1 => k d ρ1 μ1
  | .ex c fs ρ1 μ1 => some (.ex c fs ρ1 μ1)
section
variable {X : Cx} {Wx : WX} {e a b c o : Expr} {es : List Expr} {f g : FX} {p apos pos pos' : Pos} {kq : FA} {kf : FXA} {x m : Str} {k n i : Nat} {q : List Str} {ok : OkT} {ob : List Nat} {ss ss' : List Stmt} {f1 f2 : FS}
theorem runS_bind {te : TE} {k : D → FS} (h1 : PXr X Wx te g) {E : Ends} {σ : L2.St} {W : Wd} {ρ μ : List D} {F : List Addr} (S : Sta X.K W σ ρ μ F) {o : SO} (ho : xS g k ρ μ = some o) (h : Goes X.K ob Wx E σ W F o) {Q : VK}
    (hk : ∀ d v W1 G ρ1 μ1 F1, R X.K W1 d v G → Sta X.K W1 σ ρ1 μ1 F1 → (G ++ F1).Nodup → (∀ a ∈ G, Own W1 a) → Mv W W1 F (G ++ F1) → k d ρ1 μ1 = some o → Q v W1.H) : te σ W.H Q := by
  obtain ⟨o1, e1, ho⟩ := bind_some ho
  refine h1 σ W ρ μ F S o1 e1 Q ?_
  cases o1 with
  | ok d ρ1 μ1 => exact fun v W1 G F1 r S1 nd own mv => hk d v W1 G ρ1 μ1 F1 r S1 nd own mv ho
  | ex c fs ρ1 μ1 =>
    cases ho
    exact fun dx W' F' r S' mv => h dx σ W' F' r S' mv Kept.refl
/-! ### a name is set, a value is dropped, returned, asked -/
def fSetX (i : Nat) (g : FX) : FS := xS g fun d ρ μ => if isUn d = true then none else some (.nx (ρ.set i d) μ)
theorem R_notun {K : PySem.W.Frag} {W : Wd} {d : D} {v : V} {G : List Addr} (r : R K W d v G) : isUn d = false := by
  cases d <;> first
    | rfl
    | exact r.elim
theorem sta_setG {K : PySem.W.Frag} {W : Wd} {σ : L2.St} {ρ μ : List D} {G F : List Addr} {d : D} {v : V} (r : R K W d v G) (S : Sta K W σ ρ μ F) (nd : (G ++ F).Nodup) (own : ∀ a ∈ G, Own W a) (i : Nat) : ∃ F', Sta K W (σ.set i (some v)) (ρ.set i d) μ F' ∧ ∀ a ∈ F', a ∈ G ++ F := by
  have hl := S.len
  by_cases hi : i < ρ.length
  · obtain ⟨F1, S1, sub1⟩ := S.set (i := i) (d := .un) (o := some v) (show R1 K W .un (some v) [] from rfl)
    have nd1 : (G ++ F1).Nodup := by
      have z := List.nodup_append.mp nd
      exact List.nodup_append.mpr ⟨z.1, S1.nd, fun a ha b hb => z.2.2 a ha b (sub1 b hb)⟩
    have Sf := sta_cons (o := some v) (R1_of r) S1 nd1 own
    obtain ⟨F2, S2, sub2⟩ := sta_in (m := i) Sf (by rw [List.getElem?_set_self (by omega)])
    rw [List.set_set] at S2
    exact ⟨F2, S2, fun a ha => (List.mem_append.mp (sub2 a ha)).elim (List.mem_append_left _) fun z => List.mem_append_right _ (sub1 a z)⟩
  · rw [List.set_eq_of_length_le (by omega), List.set_eq_of_length_le (by omega)]
    exact ⟨F, S, fun a ha => List.mem_append_right _ ha⟩
theorem ps1_setX {i : Nat} {y : Str} {py : Pos} (hN : X.N.Nodup) (hi : X.N[i]? = some y) (hx : Loc X.env.scope y) (he : PX X Wx e g) (hs : swapsWith e (some (.Name y py)) pos.line X.env = pure false := by rfl) (hf : X.fn y = true ∨ X.env.scope.names.lookup y = some .local := by first | exact .inl rfl | exact .inr rfl) (ho : i ∉ ob := by decide) :
    PS1 X ob Wx (.Assign [.Name y py] e pos) (fSetX i g) := by
  obtain ⟨te, p, k⟩ := he
  refine ⟨_, ps_set hN hi hx p hs hf, fun E σ W ρ μ F S o ho1 h => ?_⟩
  refine runS_bind k S ho1 h fun d v W1 G ρ1 μ1 F1 r S1 nd own mv hk => ?_
  rw [if_neg (by rw [R_notun r]; exact Bool.false_ne_true)] at hk
  cases hk
  obtain ⟨F2, S2, sub⟩ := sta_setG r S1 nd own i
  exact h _ W1 F2 S2 (mv.sub (fun _ h => h) sub) (Kept.set ho)
def fSetTX (gt : D → List D → Option (List D)) (g : FX) : FS := xS g fun d ρ μ => if data d = true then (gt d ρ).map fun ρ' => .nx ρ' μ else none
def fExX (g : FX) : FS := xS g fun _ ρ μ => some (.nx ρ μ)
theorem mv_drop {W W1 : Wd} {F G F1 : List Addr} (mv : Mv W W1 F (G ++ F1)) : Mv W W1 F F1 := mv.sub (fun _ h => h) fun a ha => List.mem_append_right _ ha
theorem ps1_exX (he : PX X Wx e g) (hsw : swapsWith e none pos.line X.env = pure false := by rfl) : PS1 X ob Wx (.Expr e pos) (fExX g) := by
  obtain ⟨te, p, k⟩ := he
  refine ⟨_, ps_expr p hsw, fun E σ W ρ μ F S o ho1 h => ?_⟩
  refine runS_bind k S ho1 h fun d v W1 G ρ1 μ1 F1 r S1 nd own mv hk => ?_
  cases hk
  exact h σ W1 F1 S1 (mv_drop mv) Kept.refl
def fRetX (g : FX) : FS := xS g fun d ρ μ => some (.rt d ρ μ)
theorem ps1_retX (he : PX X Wx e g) : PS1 X ob Wx (.Return (some e) pos) (fRetX g) := by
  obtain ⟨te, p, k⟩ := he
  refine ⟨_, ps_ret p, fun E σ W ρ μ F S o ho1 h => ?_⟩
  refine runS_bind k S ho1 h fun d v W1 G ρ1 μ1 F1 r S1 nd own mv hk => ?_
  cases hk
  exact h v σ W1 G F1 r S1 nd own mv Kept.refl
def fIfX (t : FX) (f g : FS) : FS := xS t fun d ρ μ => match d with
  | .bl b => if b = true then f ρ μ else g ρ μ
  | _ => none
theorem ps1_ifX (hc : PTX X Wx e g) (ha : PSS X ob Wx ss f1) (hb : PSS X ob Wx ss' f2) : PS1 X ob Wx (.If e ss ss' pos) (fIfX g f1 f2) := by
  obtain ⟨t0, p0, k0⟩ := hc
  obtain ⟨t1, p1, k1⟩ := ha
  obtain ⟨t2, p2, k2⟩ := hb
  refine ⟨_, ps_if p0 p1 p2, fun E σ W ρ μ F S o ho h => ?_⟩
  obtain ⟨o1, e1, ho⟩ := bind_some ho
  refine k0 σ W ρ μ F S o1 e1 _ ?_
  cases o1 with
  | ok d ρ1 μ1 =>
    cases d with
    | bl b =>
      intro W1 F1 S1 mv
      have ho2 : (if b = true then f1 ρ1 μ1 else f2 ρ1 μ1) = some o := ho
      cases b with
      | true =>
        rw [if_pos rfl] at ho2 ⊢
        exact k1 E σ W1 ρ1 μ1 F1 S1 o ho2 (h.after mv Kept.refl)
      | false =>
        rw [if_neg Bool.false_ne_true] at ho2 ⊢
        exact k2 E σ W1 ρ1 μ1 F1 S1 o ho2 (h.after mv Kept.refl)
    | _ => cases ho
  | ex c fs ρ1 μ1 =>
    cases ho
    exact fun dx W' F' r S' mv => h dx σ W' F' r S' mv Kept.refl
/-! ### a field is set -/
def fFldX (ok : OkT) (i : Nat) (q : List Str) (x : Str) (g : FX) : FS := xS g fun d ρ μ => (ρ[i]?).bind fun r => (pget ok q r).bind fun t => match t with
  | .obj c ns ds => if ok c x = true ∧ ns.length < 1000 then (pput q r (putD x d c ns ds)).map fun r' => .nx (ρ.set i r') μ else none
  | .ref j => match μ[j]? with
    | some (.obj c ns ds) => if ok c x = true ∧ ns.length < 1000 ∧ fl d = true then some (.nx ρ (μ.set j (putD x d c ns ds))) else none
    | _ => none
  | _ => none
theorem zip_len {ns : List Str} {vs : List V} (h : ns.length = vs.length) : (ns.zip vs).length = ns.length := by
  rw [List.length_zip, h, Nat.min_self]
theorem putD_ne {d : D} {c : Str} {ns : List Str} {ds : List D} : isUn (putD x d c ns ds) = false := by
  unfold putD
  cases fidx x ns <;> rfl
theorem fld_run {te : TE} (T : CE X.K ok) {E : Ends} {σ : L2.St} {W W1 : Wd} (h0 : ∀ (Q : VK) (u v : V), σ[i]? = some (some u) → rdp X.K W1.H u q v → Q v W1.H → te σ W1.H Q) {ρ1 μ1 : List D} {F F1 G : List Addr} {d : D} {y : V}
    (ry : R X.K W1 d y G) (S1 : Sta X.K W1 σ ρ1 μ1 F1) (nd : (G ++ F1).Nodup) (own : ∀ a ∈ G, Own W1 a) (mv : Mv W W1 F (G ++ F1)) {o : SO} (h : Goes X.K ob Wx E σ W F o)
    (hk : ((ρ1[i]?).bind fun r => (pget ok q r).bind fun t => match t with
      | .obj c ns ds => if ok c x = true ∧ ns.length < 1000 then (pput q r (putD x d c ns ds)).map fun r' => SO.nx (ρ1.set i r') μ1 else none
      | .ref j => match μ1[j]? with
        | some (.obj c ns ds) => if ok c x = true ∧ ns.length < 1000 ∧ fl d = true then some (.nx ρ1 (μ1.set j (putD x d c ns ds))) else none
        | _ => none
      | _ => none) = some o) :
    te σ W1.H fun z H2 => ∃ a C dx fs, z = .ref a ∧ H2 a = some (.ins C dx fs) ∧ Cls X.K C ∧ NoAttr X.K C x ∧ fs.length < 1000 ∧ E.nx σ (upd H2 a (.ins C dx (putF x y fs))) := by
  obtain ⟨r, e0, hk⟩ := bind_some hk
  obtain ⟨t0, e1, hk⟩ := bind_some hk
  obtain ⟨u, v, hu, hr, Fc, Sc, subc, put⟩ := foc_sp T S1 e0 e1
  refine h0 _ u v hu hr ?_
  obtain ⟨G0, F0, r1, S0, eF⟩ := sta_tail Sc
  rw [R1_iff] at r1
  rcases r1 with ⟨z, _⟩ | ⟨v1, ev, r1⟩
  · have := (pget_ne e1).2
    rw [z] at this
    cases this
  injection ev with ev
  subst ev
  cases t0 with
  | obj c ns ds =>
    have hk2 : (if ok c x = true ∧ ns.length < 1000 then (pput q r (putD x d c ns ds)).map fun r' => SO.nx (ρ1.set i r') μ1 else none) = some o := hk
    by_cases hc : ok c x = true ∧ ns.length < 1000
    case neg => rw [if_neg hc] at hk2; cases hk2
    rw [if_pos hc] at hk2
    obtain ⟨r', e2, z⟩ := map_some hk2
    subst z
    obtain ⟨a, dx, vs, F', rfl, hH, hn, hR, rfl⟩ := r1
    obtain ⟨cl, na⟩ := T c x hc.1
    have lv := RL_len hR
    refine ⟨a, _, dx, _, rfl, hH, cl, na, by rw [zip_len (by rw [hn, lv])]; exact hc.2, ?_⟩
    have nd0 := List.nodup_append.mp nd
    have ndFc := Sc.nd
    rw [eF] at ndFc
    have ndO := List.nodup_append.mp ndFc
    have inFc : ∀ b ∈ a :: F', b ∈ F1 := fun b hb => subc b (by rw [eF]; exact List.mem_append_left _ hb)
    have ndG : (G ++ (a :: F')).Nodup := List.nodup_append.mpr ⟨nd0.1, ndO.1, fun b hb b' hb' => nd0.2.2 b hb b' (inFc b' hb')⟩
    have oa : Own W1 a := S1.own a (inFc a (List.mem_cons_self ..))
    obtain ⟨F'', rn, nd2, sub2⟩ := R_put (x := x) hH hn hR ry ndG oa.1
    obtain ⟨⟨F3, F4, p1, p2, p3⟩, nd3, own3, ok3⟩ := S0
    obtain ⟨_, rfl⟩ := p1
    have e6 : F0 = F4 := p3
    subst e6
    have naF : a ∉ F0 := fun z => ndO.2.2 a (List.mem_cons_self ..) a z rfl
    have lt : Lt W1 ⟨upd W1.H a (.ins (He.ga X.K c) dx (putF x y (ns.zip vs))), W1.Fr, W1.m⟩ := Lt.upd_ins hH oa.1
    have hst : RL X.K ⟨upd W1.H a (.ins (He.ga X.K c) dx (putF x y (ns.zip vs))), W1.Fr, W1.m⟩ μ1 (W1.m.map V.ref) F0 := RL_keep lt μ1 (fun b hb => upd_ne fun z => naF (z ▸ hb)) p2
    have okW : WOk ⟨upd W1.H a (.ins (He.ga X.K c) dx (putF x y (ns.zip vs))), W1.Fr, W1.m⟩ := fun b hb => by
      show upd W1.H a _ b ≠ none
      by_cases z : b = a
      · rw [z, upd_same]
        exact fun z => nomatch z
      · rw [upd_ne z]
        exact S1.ok b hb
    have ownU : ∀ b, Own W1 b → Own ⟨upd W1.H a (.ins (He.ga X.K c) dx (putF x y (ns.zip vs))), W1.Fr, W1.m⟩ b := fun b hb => by
      refine ⟨hb.1, ?_⟩
      show (∃ xs, upd W1.H a _ b = _) ∨ ∃ C dx fs, upd W1.H a _ b = _
      by_cases z : b = a
      · rw [z, upd_same]
        exact .inr ⟨_, _, _, rfl⟩
      · rw [upd_ne z]
        exact hb.2
    have ndN : (F'' ++ F0).Nodup := List.nodup_append.mpr ⟨nd2, ndO.2.1, fun b hb b' hb' z => by
      subst z
      rcases List.mem_append.mp (sub2 b hb) with w | w
      · exact nd0.2.2 b w b (subc b (by rw [eF]; exact List.mem_append_right _ hb')) rfl
      · exact ndO.2.2 b w b hb' rfl⟩
    have ownN : ∀ b ∈ F'' ++ F0, Own W1 b := fun b hb => by
      rcases List.mem_append.mp hb with w | w
      · rcases List.mem_append.mp (sub2 b w) with w | w
        · exact own b w
        · exact S1.own b (inFc b w)
      · exact S1.own b (subc b (by rw [eF]; exact List.mem_append_right _ w))
    have mvU : Mv W1 ⟨upd W1.H a (.ins (He.ga X.K c) dx (putF x y (ns.zip vs))), W1.Fr, W1.m⟩ (G ++ Fc) ([] ++ (F'' ++ F0)) := ⟨fun b o hb nb => by
        show upd W1.H a _ b = some o
        rw [upd_ne fun z => nb (List.mem_append_right _ (by rw [z, eF]; exact List.mem_append_left _ (List.mem_cons_self ..)))]
        exact hb, fun _ h => h, fun _ h => .inl h, fun b hb => .inl (by
        rcases List.mem_append.mp hb with w | w
        · cases w
        · rcases List.mem_append.mp w with w | w
          · rcases List.mem_append.mp (sub2 b w) with w | w
            · exact List.mem_append_left _ w
            · exact List.mem_append_right _ (by rw [eF]; exact List.mem_append_left _ w)
          · exact List.mem_append_right _ (by rw [eF]; exact List.mem_append_right _ w)), ⟨[], (List.append_nil _).symm⟩⟩
    obtain ⟨F9, S9, _, mv9⟩ := put _ [putD x d c ns ds] μ1 (F'' ++ F0) [] G _ (by
        show (pput q r (putD x d c ns ds)).map (fun d' => ρ1.set i d') = some (ρ1.set i r')
        rw [e2]
        rfl) ⟨⟨F'', F0, ⟨some (.ref a), [], F'', [], rfl, R1_of rn, ⟨rfl, rfl⟩, (List.append_nil _).symm⟩, hst, rfl⟩, ndN, fun b hb => ownU b (ownN b hb), okW⟩ ndN (fun _ hb => nomatch hb) (fun b hb => ⟨own b hb, fun z => nd0.2.2 b hb b z rfl⟩) mvU
    exact h σ _ F9 S9 (mv.trans mv9) Kept.refl
  | ref j =>
    have hk2 : (match μ1[j]? with
      | some (.obj c ns ds) => if ok c x = true ∧ ns.length < 1000 ∧ fl d = true then some (SO.nx ρ1 (μ1.set j (putD x d c ns ds))) else none
      | _ => none) = some o := hk
    cases e9 : μ1[j]? with
    | none => rw [e9] at hk2; cases hk2
    | some t2 =>
      rw [e9] at hk2
      cases t2 with
      | obj c ns ds =>
        have hk3 : (if ok c x = true ∧ ns.length < 1000 ∧ fl d = true then some (SO.nx ρ1 (μ1.set j (putD x d c ns ds))) else none) = some o := hk2
        by_cases hc : ok c x = true ∧ ns.length < 1000 ∧ fl d = true
        case neg => rw [if_neg hc] at hk3; cases hk3
        rw [if_pos hc] at hk3
        cases hk3
        have z := R_fl hc.2.2 ry
        subst z
        obtain ⟨a, rfl, h3, hG0⟩ := r1
        obtain ⟨⟨FA, F2, p1, p2, p3⟩, nd3, own3, ok3⟩ := S1
        subst p3
        obtain ⟨v0, A, B, C, q1, q2, q3, q4⟩ := RL_lens p2 e9
        subst q2
        rw [List.getElem?_map, h3] at q1
        injection q1 with q1
        subst q1
        obtain ⟨a2, dx, vs, F', ea, hH, hn, hR, eB⟩ := q3
        injection ea with ea
        subst ea
        obtain ⟨cl, na⟩ := T c x hc.1
        have lv := RL_len hR
        refine ⟨a, _, dx, _, rfl, hH, cl, na, by rw [zip_len (by rw [hn, lv])]; exact hc.2.1, ?_⟩
        subst eB
        have ndAll := List.nodup_append.mp nd3
        have ndB := List.nodup_append.mp ndAll.2.1
        have ndB2 := List.nodup_append.mp ndB.2.1
        have oa : Own W1 a := own3 a (List.mem_append_right _ (List.mem_append_right _ (List.mem_append_left _ (List.mem_cons_self ..))))
        obtain ⟨F'', rn, nd2, sub2⟩ := R_put (x := x) (Gy := []) hH hn hR ry ndB2.1 oa.1
        have sub3 : ∀ b ∈ F'', b ∈ a :: F' := fun b hb => (List.mem_append.mp (sub2 b hb)).elim (fun z => nomatch z) id
        have lt : Lt W1 ⟨upd W1.H a (.ins (He.ga X.K c) dx (putF x y (ns.zip vs))), W1.Fr, W1.m⟩ := Lt.upd_ins hH oa.1
        have off : ∀ b, b ≠ a → (⟨upd W1.H a (.ins (He.ga X.K c) dx (putF x y (ns.zip vs))), W1.Fr, W1.m⟩ : Wd).H b = W1.H b := fun b hb => upd_ne hb
        have aFA : a ∉ FA := fun z => ndAll.2.2 a z a (List.mem_append_right _ (List.mem_append_left _ (List.mem_cons_self ..))) rfl
        have aAC : a ∉ A ++ C := fun z => by
          rcases List.mem_append.mp z with w | w
          · exact ndB.2.2 a w a (List.mem_append_left _ (List.mem_cons_self ..)) rfl
          · exact ndB2.2.2 a (List.mem_cons_self ..) a w rfl
        have rr := q4 _ (putD x d c ns ds) (.ref a) F'' lt (fun b hb => off b fun z => aAC (z ▸ hb)) rn
        have es : (W1.m.map V.ref).set j (.ref a) = W1.m.map V.ref := set_self (by rw [List.getElem?_map, h3]; rfl)
        rw [es] at rr
        have okW : WOk ⟨upd W1.H a (.ins (He.ga X.K c) dx (putF x y (ns.zip vs))), W1.Fr, W1.m⟩ := fun b hb => by
          show upd W1.H a _ b ≠ none
          by_cases z : b = a
          · rw [z, upd_same]
            exact fun z => nomatch z
          · rw [upd_ne z]
            exact ok3 b hb
        have subF : ∀ b ∈ FA ++ (A ++ (F'' ++ C)), b ∈ FA ++ (A ++ ((a :: F') ++ C)) := fun b hb => by
          rcases List.mem_append.mp hb with w | w
          · exact List.mem_append_left _ w
          · refine List.mem_append_right _ ?_
            rcases List.mem_append.mp w with w | w
            · exact List.mem_append_left _ w
            · refine List.mem_append_right _ ?_
              rcases List.mem_append.mp w with w | w
              · exact List.mem_append_left _ (sub3 b w)
              · exact List.mem_append_right _ w
        have ndN : (FA ++ (A ++ (F'' ++ C))).Nodup := List.nodup_append.mpr ⟨ndAll.1, List.nodup_append.mpr ⟨ndB.1, List.nodup_append.mpr ⟨nd2, ndB2.2.1, fun b hb b' hb' => ndB2.2.2 b (sub3 b hb) b' hb'⟩, fun b hb b' hb' => ndB.2.2 b hb b' ((List.mem_append.mp hb').elim (fun w => List.mem_append_left _ (sub3 b' w)) (List.mem_append_right _))⟩, fun b hb b' hb' => by
          have w := subF b' (List.mem_append_right _ hb')
          rcases List.mem_append.mp w with w | w
          · intro e
            subst e
            rcases List.mem_append.mp hb' with z | z
            · exact ndAll.2.2 b hb b (List.mem_append_left _ z) rfl
            · refine ndAll.2.2 b hb b (List.mem_append_right _ ?_) rfl
              rcases List.mem_append.mp z with z | z
              · exact List.mem_append_left _ (sub3 b z)
              · exact List.mem_append_right _ z
          · exact ndAll.2.2 b hb b' w⟩
        refine h σ ⟨upd W1.H a (.ins (He.ga X.K c) dx (putF x y (ns.zip vs))), W1.Fr, W1.m⟩ (FA ++ (A ++ (F'' ++ C))) ⟨⟨FA, _, RS_keep lt (fun b hb => off b fun z => aFA (z ▸ hb)) p1, rr, rfl⟩, ndN, fun b hb => ?_, okW⟩ (mv.trans ⟨fun b o hb nb => ?_, fun _ h => h, fun _ h => .inl h, fun b hb => .inl (List.mem_append_right _ (subF b hb)), ⟨[], (List.append_nil _).symm⟩⟩) Kept.refl
        · have hb1 := own3 b (subF b hb)
          refine ⟨hb1.1, ?_⟩
          show (∃ xs, upd W1.H a _ b = _) ∨ ∃ C dx fs, upd W1.H a _ b = _
          by_cases z : b = a
          · rw [z, upd_same]
            exact .inr ⟨_, _, _, rfl⟩
          · rw [upd_ne z]
            exact hb1.2
        · show upd W1.H a _ b = some o
          rw [upd_ne fun z => nb (List.mem_append_right _ (List.mem_append_right _ (List.mem_append_right _ (List.mem_append_left _ (by rw [z]; exact List.mem_cons_self ..)))))]
          exact hb
      | _ => cases hk2
  | _ => cases hk
theorem ps1_fldX {ep : Expr} (T : CE X.K ok) (hp : PPath X ep i q) (he : PX X Wx e g) (hs : swapsWith e (some (.Attribute ep x pos')) pos.line X.env = pure false := by rfl) : PS1 X ob Wx (.Assign [.Attribute ep x pos'] e pos) (fFldX ok i q x g) := by
  obtain ⟨tv, pv, kv⟩ := he
  obtain ⟨te, pe, k0⟩ := hp
  refine ⟨_, ps_fld pe pv hs, fun E σ W ρ μ F S o ho1 h => ?_⟩
  exact runS_bind kv S ho1 h fun d v W1 G ρ1 μ1 F1 r S1 nd own mv hk => fld_run T (fun Q u v => k0 σ _ Q u v) r S1 nd own mv h hk
/-! ### raise -/
def fRaise (c : Str) : FS := fun ρ μ => some (.ex c [] ρ μ)
theorem ps1_raise {c : Str} {t : L2.St → Hp → XK → Prop} (hc : X.calm = true) (tk : L2N.Takes X Wx) (he : L2N.PMk X e t) (ht : ∀ (σ : L2.St) (H : Hp) (Q : XK), Q (.ref (He.ga X.K c)) none H → t σ H Q) : PS1 X ob Wx (.Raise (some e) none pos) (fRaise c) :=
  ⟨_, L2N.ps_raise hc tk he, fun E σ W ρ μ F S o ho h => by
    cases ho
    exact ht σ W.H _ (h none σ W F (.inl ⟨rfl, rfl⟩) S (Ext.refl S.ok).mvr Kept.refl)⟩
end
end Fw
/-! # defs and methods that only look at what is lent -/
namespace Fw
open PySem PySem.Spec PyProof.Rows L2
open Evl (Ex)
mutual
/-- nothing of it is changed meanwhile -/
def fz : D → D
  | .tup ds => .tup (fzL ds)
  | .lst ds => .lst (fzL ds)
  | .ml ds => .lst (fzL ds)
  | .obj c ns ds => .fo c ns (fzL ds)
  | .fo c ns ds => .fo c ns (fzL ds)
  | d => d
def fzL : List D → List D
  | [] => []
  | d :: ds => fz d :: fzL ds
end
theorem fzL_len : ∀ ds : List D, (fzL ds).length = ds.length
  | [] => rfl
  | d :: ds => congrArg Nat.succ (fzL_len ds)
mutual
theorem fz_data : ∀ d : D, data d = true → fz d = d
  | .non, _ => rfl
  | .bl _, _ => rfl
  | .int _, _ => rfl
  | .str _, _ => rfl
  | .tup ds, h => congrArg D.tup (fzL_data ds h)
  | .lst ds, h => congrArg D.lst (fzL_data ds h)
  | .ml _, h => by cases h
  | .obj _ _ _, h => by cases h
  | .fo _ _ _, h => by cases h
  | .ref _, h => by cases h
  | .un, h => by cases h
theorem fzL_data : ∀ ds : List D, dataL ds = true → fzL ds = ds
  | [], _ => rfl
  | d :: ds, h => by
    obtain ⟨a, b⟩ := Bool.and_eq_true_iff.mp (show (data d && dataL ds) = true from h)
    show fz d :: fzL ds = d :: ds
    rw [fz_data d a, fzL_data ds b]
end
abbrev Wd.all (W : Wd) : Wd := ⟨W.H, fun a => W.H a ≠ none, W.m⟩
theorem Wd.all_ok {W : Wd} : WOk W.all := fun _ h => h
section
variable {K : PySem.W.Frag} {W : Wd}
mutual
theorem R_fz (ok : WOk W) : ∀ (d : D) {v : V} {F : List Addr}, R K W d v F → R K W.all (fz d) v []
  | .non, _, _, h => ⟨h.1, rfl⟩
  | .bl _, _, _, h => ⟨h.1, rfl⟩
  | .int _, _, _, h => ⟨h.1, rfl⟩
  | .str _, _, _, h => ⟨h.1, rfl⟩
  | .tup ds, _, _, h => by
    obtain ⟨a, vs, h1, h2, h3⟩ := h
    exact ⟨a, vs, h1, h2, RL_fz ok ds h3⟩
  | .lst ds, _, _, h => by
    obtain ⟨a, vs, h1, h2, h3, h4⟩ := h
    exact ⟨a, vs, h1, h2.imp (fun z => ⟨z.1, ok a z.2⟩) id, RL_fz ok ds h3, rfl⟩
  | .ml ds, _, _, h => by
    obtain ⟨a, vs, F', h1, h2, h3, h4⟩ := h
    exact ⟨a, vs, h1, .inl ⟨.inl h2, fun z => by rw [show W.H a = some (.lst vs) from h2] at z; cases z⟩, RL_fz ok ds h3, rfl⟩
  | .obj c ns ds, _, _, h => by
    obtain ⟨a, dx, vs, F', h1, h2, h3, h4, h5⟩ := h
    have nf : W.H a ≠ none := by
      rw [h2]
      exact fun z => nomatch z
    exact ⟨a, dx, vs, h1, h2, nf, by rw [fzL_len]; exact h3, RL_fz ok ds h4, rfl⟩
  | .fo c ns ds, _, _, h => by
    obtain ⟨a, dx, vs, h1, h2, h3, h4, h5, h6⟩ := h
    exact ⟨a, dx, vs, h1, h2, ok a h3, by rw [fzL_len]; exact h4, RL_fz ok ds h5, rfl⟩
  | .ref k, _, _, h => by
    obtain ⟨a, h1, h2, h3⟩ := h
    exact ⟨a, h1, h2, rfl⟩
  | .un, _, _, h => h.elim
theorem RL_fz (ok : WOk W) : ∀ (ds : List D) {vs : List V} {F : List Addr}, RL K W ds vs F → RL K W.all (fzL ds) vs []
  | [], _, _, h => ⟨h.1, rfl⟩
  | d :: ds, _, _, h => by
    obtain ⟨v, vs', F1, F2, h1, h2, h3, h4⟩ := h
    exact ⟨v, vs', [], [], h1, R_fz ok d h2, RL_fz ok ds h3, rfl⟩
end
mutual
/-- data without lists -/
def noL : D → Bool
  | .non => true
  | .bl _ => true
  | .int _ => true
  | .str _ => true
  | .tup ds => noLL ds
  | _ => false
def noLL : List D → Bool
  | [] => true
  | d :: ds => noL d && noLL ds
end
mutual
theorem R_noL {W' : Wd} (hH : W'.H = W.H) : ∀ (d : D) {v : V} {F : List Addr}, noL d = true → R K W d v F → R K W' d v []
  | .non, _, _, _, h => ⟨h.1, rfl⟩
  | .bl _, _, _, _, h => ⟨h.1, rfl⟩
  | .int _, _, _, _, h => ⟨h.1, rfl⟩
  | .str _, _, _, _, h => ⟨h.1, rfl⟩
  | .tup ds, _, _, q, h => by
    obtain ⟨a, vs, h1, h2, h3⟩ := h
    exact ⟨a, vs, h1, by rw [hH]; exact h2, RL_noL hH ds q h3⟩
  | .lst _, _, _, q, _ => by cases q
  | .ml _, _, _, q, _ => by cases q
  | .obj _ _ _, _, _, q, _ => by cases q
  | .fo _ _ _, _, _, q, _ => by cases q
  | .ref _, _, _, q, _ => by cases q
  | .un, _, _, q, _ => by cases q
theorem RL_noL {W' : Wd} (hH : W'.H = W.H) : ∀ (ds : List D) {vs : List V} {F : List Addr}, noLL ds = true → RL K W ds vs F → RL K W' ds vs []
  | [], _, _, _, h => ⟨h.1, rfl⟩
  | d :: ds, _, _, q, h => by
    obtain ⟨v, vs', F1, F2, h1, h2, h3, h4⟩ := h
    obtain ⟨qa, qb⟩ := Bool.and_eq_true_iff.mp (show (noL d && noLL ds) = true from q)
    exact ⟨v, vs', [], [], h1, R_noL hH d qa h2, RL_noL hH ds qb h3, rfl⟩
end
/-- what may come back -/
def resF : D → Option D
  | .ml ds => if noLL ds = true then some (.lst ds) else none
  | d => if noL d = true then some d else none
end
theorem resF_noL {d d' : D} (h : resF d = some d') (hn : ∀ ds, d ≠ .ml ds) : noL d = true ∧ d' = d := by
  unfold resF at h
  split at h
  · exact absurd rfl (hn _)
  · by_cases z : noL d = true
    · rw [if_pos z] at h
      exact ⟨z, (Option.some.inj h).symm⟩
    · rw [if_neg z] at h
      cases h
abbrev RF := List D → List D → Option D
def spF (K : PySem.W.Frag) (n : Nat) (run : RF) : Sp := fun vs H Q _ => ∃ (W : Wd) (ds μ : List D) (d : D), W.H = H ∧ WOk W ∧ RL K W ds vs [] ∧ RL K W μ (W.m.map V.ref) [] ∧ ds.length = n ∧ run ds μ = some d ∧
  ∀ v W' G, R K W' d v G → WOk W' → G.Nodup → (∀ a ∈ G, Own W' a) → Mv W W' [] G → Q v W'.H
def runF (N : Nat) (f : FS) : RF := fun ds μ => match f (ds ++ List.replicate (N - ds.length) .un) μ with
  | some (.rt d _ _) => some d
  | some (.nx _ _) => some .non
  | _ => none
theorem fnf_def {P : Program} {w : World} {K : PySem.W.Frag} {mg : Str → Option Value} {base : Heap} {nm qual : Str} {params : Arguments} {body : List Stmt} {scope : Scope} {dvs0 : List V} {kws : List (Str × V)} {fa : Addr} {fd : FuncData} {N ps : List Str} {k n : Nat} {f : FS} {run : RF} {ob : List Nat}
    (F : FunD K nm qual params body scope dvs0 kws fa fd) (Sc : FnScope N ps scope) (hn : ps.length = n)
    (h : ∀ (cdv : Value) (A : Around) (outer : List Env) (s : Shared) (H : Hp) (E : XK), Room k (A.deeper (envOfC qual scope s.heap.objs.size fa cdv)) → PSS (cxOf (L2N.CX P w) P w K mg base N qual scope fa cdv A outer s H E) ob (fun _ _ _ _ => False) body f)
    (hr : ∀ ds μ d, run ds μ = some d → runF N.length f ds μ = some d) : FnOk P w K mg base (L2N.CX P w) (k + 1) fa fd ps (spF K n run) := by
  refine F.ok Sc (fun vs H Q E q => ?_) (fun cdv A outer s H vs Q E hroom q => ?_)
  · obtain ⟨W, ds, μ, d, _, _, r, _, hl, _⟩ := q
    rw [RL_len r, hl, hn]
  · obtain ⟨W, ds, μ, d, hH, okW, r, rm, hl, hrun, q⟩ := q
    subst hH
    obtain ⟨ts, p, kk⟩ := h cdv A outer s W.H E hroom
    refine ⟨ts, p, ?_⟩
    have lv : vs.length = ds.length := RL_len r
    have e0 : L2.start N vs = vs.map some ++ List.replicate (N.length - ds.length) none := by
      unfold L2.start
      rw [lv]
    rw [e0]
    have S : Sta K W (vs.map some ++ List.replicate (N.length - ds.length) none) (ds ++ List.replicate (N.length - ds.length) .un) μ [] := ⟨⟨[], [], RS_start _ r, rm, rfl⟩, List.nodup_nil, (fun _ h => nomatch h), okW⟩
    have hq := hr ds μ d hrun
    unfold runF at hq
    cases e1 : f (ds ++ List.replicate (N.length - ds.length) .un) μ with
    | none => rw [e1] at hq; cases hq
    | some o =>
      rw [e1] at hq
      refine kk _ _ W _ μ [] S o e1 ?_
      cases o with
      | nx ρ' μ' =>
        cases hq
        intro σ' W' F' S' mv kp
        exact q .non W' [] ⟨rfl, rfl⟩ S'.ok List.nodup_nil (fun _ hb => nomatch hb) (mv.sub (fun _ h => h) fun _ hb => nomatch hb)
      | rt d' ρ' μ' =>
        cases hq
        intro v σ' W' G F' rv S' nd own mv kp
        exact q v W' G rv S'.ok (nd.sublist (List.sublist_append_left G F')) own (mv.sub (fun _ h => h) fun _ hb => List.mem_append_left _ hb)
      | _ => cases hq
def OkF (P : Program) (w : World) (K : PySem.W.Frag) (mg : Str → Option Value) (base : Heap) (x : Str) (k n : Nat) (dd : List D) (run : RF) : Prop :=
  ∃ (f : Addr) (fd : FuncData) (ps : List Str) (dvs : List V) (us : List Value), FnOk P w K mg base (L2N.CX P w) k f fd ps (spF K n run) ∧ Binds K fd ps us ∧ Vals dvs us ∧ (∀ W : Wd, RL K W dd dvs []) ∧ mg x = some (.ref f) ∧ PySem.W.keepIn K (.ref f) = true
def OkFM (P : Program) (w : World) (K : PySem.W.Frag) (mg : Str → Option Value) (base : Heap) (c m : Str) (k n : Nat) (dd : List D) (run : RF) : Prop :=
  ∃ (f : Addr) (fd : FuncData) (ps : List Str) (dvs : List V) (us : List Value), FnOk P w K mg base (L2N.CX P w) k f fd ps (spF K n run) ∧ Binds K fd ps us ∧ Vals dvs us ∧ (∀ W : Wd, RL K W dd dvs []) ∧ Cls K (He.ga K c) ∧ Meth K (He.ga K c) m f
/-- into a def that only looks, and back -/
theorem look_back {K : PySem.W.Frag} {n : Nat} {run : RF} {W : Wd} {σ : L2.St} {ρ μ ds : List D} {F : List Addr} {vs : List V} {d d' : D} {Q : VK} {E : XK} (S : Sta K W σ ρ μ F) (r : RL K W.all ds vs []) (hn : ds.length = n) (hr : run ds (fzL μ) = some d) (hd : resF d = some d')
    (q : ∀ v W', Ext W W' → R K W' d' v [] → Q v W'.H) : spF K n run vs W.H Q E := by
  obtain ⟨F1, F2, _, h2, _⟩ := S.ex
  refine ⟨W.all, ds, fzL μ, d, rfl, Wd.all_ok, r, RL_fz S.ok μ h2, hn, hr, fun v W2 G rv ok2 _ own mv => ?_⟩
  have hx : Ext W ⟨W2.H, fun a => W.Fr a ∨ ((W2.Fr a ∨ a ∈ G) ∧ W.H a = none), W.m⟩ := by
    refine ⟨fun a o e => mv.keep a o e (fun z => nomatch z), fun a h => .inl h, fun a h => ?_, rfl, fun a h => ?_⟩
    · rcases h with h | h
      · exact .inl h
      · exact .inr h.2
    · rcases h with h | ⟨h | h, _⟩
      · intro z
        cases e : W.H a with
        | none => exact S.ok a h e
        | some o =>
          have := mv.keep a o e (fun z => nomatch z)
          rw [show W2.H a = none from z] at this
          cases this
      · exact ok2 a h
      · obtain ⟨_, w⟩ := own a h
        intro z
        rcases w with ⟨xs, w⟩ | ⟨C, dx, fs, w⟩ <;> rw [show W2.H a = none from z] at w <;> cases w
  refine q v ⟨W2.H, fun a => W.Fr a ∨ ((W2.Fr a ∨ a ∈ G) ∧ W.H a = none), W.m⟩ hx ?_
  have hH : (⟨W2.H, fun a => W.Fr a ∨ ((W2.Fr a ∨ a ∈ G) ∧ W.H a = none), W.m⟩ : Wd).H = W2.H := rfl
  cases d with
  | ml es =>
    have hd2 : (if noLL es = true then some (D.lst es) else none) = some d' := hd
    by_cases hl : noLL es = true
    case neg => rw [if_neg hl] at hd2; cases hd2
    rw [if_pos hl] at hd2
    cases hd2
    obtain ⟨a, ws, F', h1, h3, h4, h5⟩ := rv
    have ha : a ∈ G := by
      rw [h5]
      exact List.mem_cons_self ..
    have hf : W.Fr a ∨ ((W2.Fr a ∨ a ∈ G) ∧ W.H a = none) := .inr ⟨.inr ha, (mv.own a ha).elim (fun z => nomatch z) id⟩
    exact ⟨a, ws, h1, .inl ⟨.inl h3, hf⟩, RL_noL hH es hl h4, rfl⟩
  | _ =>
    obtain ⟨hl, rfl⟩ := resF_noL hd fun _ z => nomatch z
    exact R_noL hH _ hl rv
def qRunF (n : Nat) (dd : List D) (run : RF) (k : FA) : FQ := fun ρ μ => (k ρ μ).bind fun as => if (fzL as ++ dd).length = n then (run (fzL as ++ dd) (fzL μ)).bind resF else none
section
variable {X : Cx} {Wx : WX} {e o : Expr} {es : List Expr} {p apos pos : Pos} {kq : FA} {x m : Str} {k n : Nat} {dd : List D} {run : RF} {f : FQ}
theorem pq_callF (O : OkF X.prog X.w X.K X.mg X.base x k n dd run) (hr : Room k X.A) (ha : PAQ X (e :: es) kq) (hg : Gl X x := by rfl) (hdb : (x == ("__debug__" : Str)) = false := by decide)
    (he : starEach (e :: es) X.env = (false, eval e X.env) :: starEach es X.env := by rfl) (hpl : (backTo pos (starEach es X.env)).any (·.1) = false := by rfl) : PQ X (.Call (.Name x p) (e :: es) [] pos) (qRunF n dd run kq) := by
  obtain ⟨f, fd, ps, dvs, us, hF, hb, hv, hdd, hm, hk⟩ := O
  obtain ⟨t, pt, k1⟩ := ha
  refine ⟨_, pe_call hF hr hg hm hk hb hv passN pt hdb he hpl, fun σ W ρ μ F S d hd Q q => ?_⟩
  obtain ⟨as, e1, hd⟩ := bind_some hd
  by_cases hl : (fzL as ++ dd).length = n
  case neg => rw [if_neg hl] at hd; cases hd
  rw [if_pos hl] at hd
  obtain ⟨d', e2, hd⟩ := bind_some hd
  refine k1 σ W ρ μ F S as e1 _ fun vs W1 G1 x1 r1 => ?_
  exact look_back (S.ext x1) (RL_app (RL_fz x1.ok as r1) (hdd _)) hl e2 hd fun v W2 x2 r2 => q v W2 [] (x1.trans x2) r2
abbrev MTF := Str → Option RF
def OkMTF (X : Cx) (m : Str) (k n : Nat) (dd : List D) (runs : MTF) : Prop := ∀ c run, runs c = some run → OkFM X.prog X.w X.K X.mg X.base c m k n dd run
def clsO : D → Option (Str × List Str)
  | .obj c ns _ => some (c, ns)
  | .fo c ns _ => some (c, ns)
  | _ => none
def clsOf (μ : List D) : D → Option (Str × List Str)
  | .ref j => (μ[j]?).bind clsO
  | d => clsO d
theorem R_cls {K : PySem.W.Frag} {W : Wd} {t : D} {v : V} {G : List Addr} {z : Str × List Str} (r : R K W t v G) (h : clsO t = some z) : ∃ a dx vs, v = .ref a ∧ W.H a = some (.ins (He.ga K z.1) dx (z.2.zip vs)) := by
  cases t with
  | obj c ns ds =>
    cases h
    obtain ⟨a, dx, vs, F', h1, h2, _⟩ := r
    exact ⟨a, dx, vs, h1, h2⟩
  | fo c ns ds =>
    cases h
    obtain ⟨a, dx, vs, h1, h2, _⟩ := r
    exact ⟨a, dx, vs, h1, h2⟩
  | _ => cases h
def qMethF (m : Str) (n : Nat) (dd : List D) (runs : MTF) (f : FQ) (k : FA) : FQ := fun ρ μ => (f ρ μ).bind fun t => (clsOf μ t).bind fun z => if fidx m z.2 = none then (runs z.1).bind fun run => (k ρ μ).bind fun as => if (fz t :: (fzL as ++ dd)).length = n then (run (fz t :: (fzL as ++ dd)) (fzL μ)).bind resF else none else none
theorem methF_run {te : TE} {t : TA} {runs : MTF} (OM : OkMTF X m k n dd runs) (h0 : ∀ (σ : L2.St) (W : Wd) (ρ μ : List D) (F : List Addr), Sta X.K W σ ρ μ F → ∀ d, f ρ μ = some d → ∀ Q : VK, (∀ v W' G, Ext W W' → R X.K W' d v G → Q v W'.H) → te σ W.H Q)
    (k1 : ∀ (σ : L2.St) (W : Wd) (ρ μ : List D) (F : List Addr), Sta X.K W σ ρ μ F → ∀ ds, kq ρ μ = some ds → ∀ Q : List V → Hp → Prop, (∀ vs W' G, Ext W W' → RL X.K W' ds vs G → Q vs W'.H) → t σ W.H Q)
    {σ : L2.St} {W : Wd} {ρ μ : List D} {F : List Addr} (S : Sta X.K W σ ρ μ F) {d : D} (hd : qMethF m n dd runs f kq ρ μ = some d) {Q : VK} (q : ∀ v W' G, Ext W W' → R X.K W' d v G → Q v W'.H) : tMX X (fun _ _ _ _ => False) m k te t σ W.H Q := by
  obtain ⟨t0, e0, hd⟩ := bind_some hd
  obtain ⟨z, e1, hd⟩ := bind_some hd
  by_cases hf : fidx m z.2 = none
  case neg => rw [if_neg hf] at hd; cases hd
  rw [if_pos hf] at hd
  obtain ⟨run, e2, hd⟩ := bind_some hd
  obtain ⟨as, e3, hd⟩ := bind_some hd
  by_cases hl : (fz t0 :: (fzL as ++ dd)).length = n
  case neg => rw [if_neg hl] at hd; cases hd
  rw [if_pos hl] at hd
  obtain ⟨d', e4, hd⟩ := bind_some hd
  obtain ⟨g, fd, ps, dvs, us, hF, hb, hv, hdd, hc, hm⟩ := OM z.1 run e2
  refine h0 σ W ρ μ F S t0 e0 _ fun v W1 G1 x1 r1 => ?_
  have S1 := S.ext x1
  have hv2 : ∃ a dx vs, v = .ref a ∧ W1.H a = some (.ins (He.ga X.K z.1) dx (z.2.zip vs)) := by
    cases t0 with
    | ref j =>
      obtain ⟨t2, e5, e6⟩ := bind_some (show (μ[j]?).bind clsO = some z from e1)
      obtain ⟨a, rfl, h3, _⟩ := r1
      obtain ⟨F1, F2, _, h4, _⟩ := S1.ex
      obtain ⟨a', G', h5, h6, _⟩ := RL_map_get h4 e5
      rw [h3] at h5
      cases h5
      exact R_cls h6 e6
    | _ => exact R_cls r1 e1
  obtain ⟨a, dx, vs0, rfl, hH⟩ := hv2
  refine ⟨a, _, dx, _, g, fd, ps, _, dvs, us, rfl, hH, hc, hm, fidx_none hf, hF, hb, hv, ?_⟩
  refine k1 σ W1 ρ μ F S1 as e3 _ fun vs W2 G2 x2 r2 => ?_
  exact look_back (ds := fz t0 :: (fzL as ++ dd)) (vs := .ref a :: (vs ++ dvs)) (S1.ext x2) ⟨.ref a, vs ++ dvs, [], [], rfl, R_fz x2.ok t0 (R_ext x2 t0 r1), RL_app (RL_fz x2.ok as r2) (hdd _), rfl⟩ hl e4 hd fun v W3 x3 r3 => q v W3 [] ((x1.trans x2).trans x3) r3
theorem pq_methF {pl : Sem Bool} {runs : MTF} (OM : OkMTF X m k n dd runs) (hp : PQ X o f) (hr : Room k X.A) (ha : PAQ X (e :: es) kq)
    (hst : starEach (e :: es) X.env = (false, eval e X.env) :: starEach es X.env := by rfl) (hpl : (backTo pos (starEach es X.env)).any (·.1) = false := by rfl)
    (ht : eval (.Call (.Attribute o m apos) (e :: es) [] pos) X.env = (do
      let ov ← eval o X.env
      standAt apos.atName
      let (f, first) ← holding [ov] (getMethod ov m pl)
      callWith pos f first (backTo pos (starEach (e :: es) X.env)) (backToKw pos (keywordEach [] X.env))) := by rfl) :
    PQ X (.Call (.Attribute o m apos) (e :: es) [] pos) (qMethF m n dd runs f kq) := by
  obtain ⟨t, pt, k1⟩ := ha
  obtain ⟨te, pe, k0⟩ := hp
  exact ⟨_, pe_mx pe hr takesN0 pt hst hpl ht, fun σ W ρ μ F S d hd Q q => methF_run OM k0 k1 S hd q⟩
theorem pq_methF0 {pl : Sem Bool} {runs : MTF} (OM : OkMTF X m k n dd runs) (hp : PQ X o f) (hr : Room k X.A)
    (ht : eval (.Call (.Attribute o m apos) [] [] pos) X.env = (do
      let ov ← eval o X.env
      standAt apos.atName
      let (f, first) ← holding [ov] (getMethod ov m pl)
      callWith pos f first (backTo pos (starEach [] X.env)) (backToKw pos (keywordEach [] X.env))) := by rfl) :
    PQ X (.Call (.Attribute o m apos) [] [] pos) (qMethF m n dd runs f aNil) := by
  obtain ⟨te, pe, k0⟩ := hp
  refine ⟨_, pe_mx0 pe hr takesN0 ht, fun σ W ρ μ F S d hd Q q => methF_run (kq := aNil) (t := tNil) OM k0 (fun σ W ρ μ F S ds hd Q q => ?_) S hd q⟩
  cases hd
  exact q [] W [] (Ext.refl S.ok) ⟨rfl, rfl⟩
end
end Fw
/-! # more statements; tables -/
namespace Fw
open PySem PySem.Spec PyProof.Rows L2
open Evl (Ex)
section
variable {X : Cx} {Wx : WX} {e a b c o ep : Expr} {es : List Expr} {f g : FX} {p apos pos pos' tpos : Pos} {kq : FA} {kf : FXA} {x m : Str} {k n i : Nat} {q : List Str} {ok : OkT} {ob : List Nat} {qq : FQ}
/-! ### o.x += e, o.x -= e of whole numbers -/
def iAdd : D → D → Option D
  | .int a, .int b => some (.int (a + b))
  | _, _ => none
def iSub : D → D → Option D
  | .int a, .int b => some (.int (a - b))
  | _, _ => none
def xAug (ok : OkT) (i : Nat) (q : List Str) (x : Str) (op : D → D → Option D) (f : FQ) : FX := fun ρ μ => (ρ[i]?).bind fun r => (pget ok q r).bind fun t => (dFld ok x μ t).bind fun a => (f ρ μ).bind fun b => (op a b).map fun d => .ok d ρ μ
def fFldAug (ok : OkT) (i : Nat) (q : List Str) (x : Str) (op : D → D → Option D) (f : FQ) : FS := fFldX ok i q x (xAug ok i q x op f)
theorem ps1_fldaug {op : Operator} {o2 : D → D → Option D} {rd : V → V → Hp → VK → Prop} (T : CE X.K ok) (hop : InOp X op rd) (h2 : ∀ u v d (W : Wd), o2 u v = some d → ∃ z, fl d = true ∧ R X.K W d z [] ∧ ∀ u' v' F G, R X.K W u u' F → R X.K W v v' G → ∀ Q : VK, Q z W.H → rd u' v' W.H Q) (hp : PPath X ep i q) (he : PQ X e qq) :
    PS1 X ob Wx (.AugAssign (.Attribute ep x tpos) op e pos) (fFldAug ok i q x o2 qq) := by
  obtain ⟨tv, pv, kv⟩ := he
  obtain ⟨te, pe, k0⟩ := hp
  refine ⟨_, ps_fldaug pe pv hop, fun E σ W ρ μ F S o ho h => ?_⟩
  obtain ⟨o1, e1, ho⟩ := bind_some ho
  obtain ⟨r, e2, e1⟩ := bind_some e1
  obtain ⟨t, e3, e1⟩ := bind_some e1
  obtain ⟨a, e4, e1⟩ := bind_some e1
  obtain ⟨b, e5, e1⟩ := bind_some e1
  obtain ⟨d, e6, z⟩ := map_some e1
  subst z
  -- the field, read
  have rdq : ∀ (W1 : Wd) (S1 : Sta X.K W1 σ ρ μ F), ∃ u v ad C dx fs w G, σ[i]? = some (some u) ∧ rdp X.K W1.H u q v ∧ v = .ref ad ∧ W1.H ad = some (.ins C dx fs) ∧ Cls X.K C ∧ NoAttr X.K C x ∧ fs.lookup x = some w ∧ R X.K W1 a w G := by
    intro W1 S1
    obtain ⟨u, v, hu, hr, Fc, Sc, _, _⟩ := foc_sp T S1 e2 e3
    obtain ⟨G0, F0, r1, _, _⟩ := sta_tail Sc
    rw [R1_iff] at r1
    rcases r1 with ⟨z, _⟩ | ⟨v1, ev, r1⟩
    · have := (pget_ne e3).2
      rw [z] at this
      cases this
    injection ev with ev
    subst ev
    have main : ∀ (t : D) (G : List Addr) (u : V), R X.K W1 t u G → dFo ok x t = some a → ∃ ad C dx fs w G, u = .ref ad ∧ W1.H ad = some (.ins C dx fs) ∧ Cls X.K C ∧ NoAttr X.K C x ∧ fs.lookup x = some w ∧ R X.K W1 a w G := by
      intro t G u r he
      cases t with
      | obj c ns ds =>
        have he2 : (if ok c x = true then (fidx x ns).bind fun i => ds[i]? else none) = some a := he
        by_cases hk : ok c x = true
        case neg => rw [if_neg hk] at he2; cases he2
        rw [if_pos hk] at he2
        obtain ⟨j, h1, h2⟩ := bind_some he2
        obtain ⟨ad, dx, vs, F', rfl, hH, hn, hR, rfl⟩ := r
        obtain ⟨w, G1, q1, q2, _⟩ := RL_get hR h2
        obtain ⟨cl, na⟩ := T c x hk
        exact ⟨ad, _, dx, _, w, G1, rfl, hH, cl, na, by rw [fidx_lookup h1 (by rw [hn, RL_len hR])]; exact q1, q2⟩
      | fo c ns ds =>
        have he2 : (if ok c x = true then (fidx x ns).bind fun i => ds[i]? else none) = some a := he
        by_cases hk : ok c x = true
        case neg => rw [if_neg hk] at he2; cases he2
        rw [if_pos hk] at he2
        obtain ⟨j, h1, h2⟩ := bind_some he2
        obtain ⟨ad, dx, vs, rfl, hH, _, hn, hR, rfl⟩ := r
        obtain ⟨w, G1, q1, q2, _⟩ := RL_get hR h2
        obtain ⟨cl, na⟩ := T c x hk
        exact ⟨ad, _, dx, _, w, G1, rfl, hH, cl, na, by rw [fidx_lookup h1 (by rw [hn, RL_len hR])]; exact q1, q2⟩
      | _ => cases he
    cases t with
    | ref j =>
      obtain ⟨t2, e7, e8⟩ := bind_some (show (μ[j]?).bind (dFo ok x) = some a from e4)
      obtain ⟨ad, rfl, h3, _⟩ := r1
      obtain ⟨F1, F2, _, h4, _⟩ := S1.ex
      obtain ⟨ad', G', h5, h6, _⟩ := RL_map_get h4 e7
      rw [h3] at h5
      cases h5
      obtain ⟨ad2, C, dx, fs, w, G2, z1, z2⟩ := main t2 G' _ h6 e8
      exact ⟨u, _, ad2, C, dx, fs, w, G2, hu, hr, z1, z2⟩
    | _ =>
      obtain ⟨ad2, C, dx, fs, w, G2, z1, z2⟩ := main _ _ _ r1 e4
      exact ⟨u, _, ad2, C, dx, fs, w, G2, hu, hr, z1, z2⟩
  obtain ⟨u, v, ad, C, dx, fs, w, G, hu, hr, rfl, hH, cl, na, hl, rw_⟩ := rdq W S
  refine k0 σ W.H _ u _ hu hr ⟨ad, C, dx, fs, w, rfl, hH, cl, na, hl, ?_⟩
  refine kv σ W ρ μ F S b e5 _ fun y W1 G1 x1 r1 => ?_
  obtain ⟨z, hfl, rz, hrd⟩ := h2 a b d W1 e6
  refine hrd w y G G1 (R_ext x1 a rw_) r1 _ ?_
  have S1 := S.ext x1
  have run := fld_run (te := fun _ H Q => Q (.ref ad) H) (E := E) (F := F) (G := []) (x := x) (q := q) (ok := ok) (i := i) (d := d) (y := z) (ob := ob) (Wx := Wx) T (fun Q u' v' hu' hr' hQ => by
    rw [hu] at hu'
    cases hu'
    have ev : v' = .ref ad := rdp_det hr' (rdp_ex x1.ex hr)
    rw [ev] at hQ
    exact hQ) rz S1 S1.nd (fun _ hb => nomatch hb) x1.mvr h (by
      show ((ρ[i]?).bind fun r => (pget ok q r).bind _) = _
      exact ho)
  obtain ⟨a2, C2, dx2, fs2, ea, h3, _, _, h4, h5⟩ := run
  cases ea
  have e := h3
  rw [x1.ex _ _ hH] at e
  cases e
  exact ⟨_, _, h3, h4, h5⟩
theorem aug_add (W : Wd) (u v d : D) (h : iAdd u v = some d) : ∃ z, fl d = true ∧ R X.K W d z [] ∧ ∀ u' v' F G, R X.K W u u' F → R X.K W v v' G → ∀ Q : VK, Q z W.H → rAdd u' v' W.H Q := by
  cases u with
  | int a =>
    cases v with
    | int b =>
      cases h
      refine ⟨.int (a + b), rfl, ⟨rfl, rfl⟩, fun u' v' F G r1 r2 Q hQ => ?_⟩
      obtain ⟨rfl, _⟩ := r1
      obtain ⟨rfl, _⟩ := r2
      exact ⟨a, b, rfl, rfl, hQ⟩
    | _ => cases h
  | _ => cases h
theorem aug_sub (W : Wd) (u v d : D) (h : iSub u v = some d) : ∃ z, fl d = true ∧ R X.K W d z [] ∧ ∀ u' v' F G, R X.K W u u' F → R X.K W v v' G → ∀ Q : VK, Q z W.H → rSub u' v' W.H Q := by
  cases u with
  | int a =>
    cases v with
    | int b =>
      cases h
      refine ⟨.int (a - b), rfl, ⟨rfl, rfl⟩, fun u' v' F G r1 r2 Q hQ => ?_⟩
      obtain ⟨rfl, _⟩ := r1
      obtain ⟨rfl, _⟩ := r2
      exact ⟨a, b, rfl, rfl, hQ⟩
    | _ => cases h
  | _ => cases h
theorem ps1_fldadd (T : CE X.K ok) (hp : PPath X ep i q) (he : PQ X e qq) : PS1 X ob Wx (.AugAssign (.Attribute ep x tpos) .Add e pos) (fFldAug ok i q x iAdd qq) := ps1_fldaug T in_add (fun u v d W h => aug_add W u v d h) hp he
theorem ps1_fldsub (T : CE X.K ok) (hp : PPath X ep i q) (he : PQ X e qq) : PS1 X ob Wx (.AugAssign (.Attribute ep x tpos) .Sub e pos) (fFldAug ok i q x iSub qq) := ps1_fldaug T in_sub (fun u v d W h => aug_sub W u v d h) hp he
/-! ### o.xs.append(e) -/
def fAppF (ok : OkT) (i : Nat) (q : List Str) (f : FQ) : FS := fun ρ μ => (ρ[i]?).bind fun r => (pget ok q r).bind fun t => match t with
  | .ml ds => (f ρ μ).bind fun d => if data d = true ∧ ds.length ≤ LIM then (pput q r (.ml (ds ++ [d]))).map fun r' => .nx (ρ.set i r') μ else none
  | _ => none
theorem ps1_appF (T : CE X.K ok) (hp : PPath X ep i q) (hcall : ∀ (to te : TE), PE X ep to → PE X e te → PE X (.Call (.Attribute ep "append" apos) [e] [] p) (tBM X.K "list" rAppend to (tCons te tNil))) (he : PQ X e qq)
    (hsw : swapsWith (.Call (.Attribute ep "append" apos) [e] [] p) none pos.line X.env = pure false := by rfl) : PS1 X ob Wx (.Expr (.Call (.Attribute ep "append" apos) [e] [] p) pos) (fAppF ok i q qq) := by
  obtain ⟨te, pe, kv⟩ := he
  obtain ⟨to, po, k0⟩ := hp
  refine ⟨_, ps_expr (hcall to te po pe) hsw, fun E σ W ρ μ F S o ho h => ?_⟩
  obtain ⟨r, e2, ho⟩ := bind_some ho
  obtain ⟨t, e3, ho⟩ := bind_some ho
  cases t with
  | ml ds =>
    obtain ⟨d, e1, ho⟩ := bind_some (show (qq ρ μ).bind (fun d => if data d = true ∧ ds.length ≤ LIM then (pput q r (.ml (ds ++ [d]))).map fun r' => SO.nx (ρ.set i r') μ else none) = some o from ho)
    by_cases hd : data d = true ∧ ds.length ≤ LIM
    case neg => rw [if_neg hd] at ho; cases ho
    rw [if_pos hd] at ho
    obtain ⟨r', e4, z⟩ := map_some ho
    subst z
    obtain ⟨u, v, hu, hr, Fc, Sc, _, _⟩ := foc_sp T S e2 e3
    obtain ⟨G0, F0, r1, _, _⟩ := sta_tail Sc
    rw [R1_iff] at r1
    rcases r1 with ⟨z, _⟩ | ⟨v1, ev, r1⟩
    · cases z
    injection ev with ev
    subst ev
    obtain ⟨ad, vs, F', rfl, h2, h3, hB⟩ := r1
    refine k0 σ W.H _ u _ hu hr ⟨.inl ⟨rfl, vs, Evl.sq_of h2⟩, ?_⟩
    refine kv σ W ρ μ F S d e1 _ fun y W1 G x1 r1 => ?_
    have z := R_data d hd.1 r1
    subst z
    have S1 := S.ext x1
    obtain ⟨u', v', hu', hr', Fc, Sc, subc, put⟩ := foc_sp T S1 e2 e3
    rw [hu] at hu'
    cases hu'
    have ev : v' = .ref ad := rdp_det hr' (rdp_ex x1.ex hr)
    subst ev
    obtain ⟨G0, F0, r2, S0, eF⟩ := sta_tail Sc
    rw [R1_iff] at r2
    rcases r2 with ⟨z, _⟩ | ⟨v1, ev, r2⟩
    · cases z
    injection ev with ev
    subst ev
    obtain ⟨a2, vs2, F2, ea, h4, h5, hB2⟩ := r2
    cases ea
    rw [x1.ex _ _ h2] at h4
    cases h4
    subst hB2
    have lv : vs.length = ds.length := RL_len h5
    obtain ⟨⟨F3, F4, p1, p2, p3⟩, nd3, own3, ok3⟩ := S0
    obtain ⟨_, rfl⟩ := p1
    have e6 : F0 = F4 := p3
    subst e6
    have ndFc := Sc.nd
    rw [eF] at ndFc
    have ndO := List.nodup_append.mp ndFc
    have nd2 := List.nodup_cons.mp ndO.1
    have ha : Own W1 ad := S1.own ad (subc ad (by rw [eF]; exact List.mem_append_left _ (List.mem_cons_self ..)))
    have lt : Lt W1 ⟨upd W1.H ad (.lst (vs ++ [y])), W1.Fr, W1.m⟩ := Lt.upd_lst (x1.ex _ _ h2) ha.1
    have off : ∀ b, b ≠ ad → (⟨upd W1.H ad (.lst (vs ++ [y])), W1.Fr, W1.m⟩ : Wd).H b = W1.H b := fun b hb => upd_ne hb
    have naF : ad ∉ F0 := fun z => ndO.2.2 ad (List.mem_cons_self ..) ad z rfl
    have rn : R X.K ⟨upd W1.H ad (.lst (vs ++ [y])), W1.Fr, W1.m⟩ (.ml (ds ++ [d])) (.ref ad) (ad :: F2) := ⟨ad, vs ++ [y], F2, rfl, upd_same, by
      have k1 : RL X.K ⟨upd W1.H ad (.lst (vs ++ [y])), W1.Fr, W1.m⟩ ds vs F2 := RL_keep lt ds (fun b hb => off b fun z => nd2.1 (z ▸ hb)) h5
      have k2 : RL X.K ⟨upd W1.H ad (.lst (vs ++ [y])), W1.Fr, W1.m⟩ [d] [y] [] := ⟨y, [], [], [], rfl, R_lt lt d r1, ⟨rfl, rfl⟩, rfl⟩
      have z := RL_app k1 k2
      rw [List.append_nil] at z
      exact z, rfl⟩
    have hst : RL X.K ⟨upd W1.H ad (.lst (vs ++ [y])), W1.Fr, W1.m⟩ μ (W1.m.map V.ref) F0 := RL_keep lt μ (fun b hb => off b fun z => naF (z ▸ hb)) p2
    obtain ⟨F9, S9, _, mv9⟩ := put ⟨upd W1.H ad (.lst (vs ++ [y])), W1.Fr, W1.m⟩ [.ml (ds ++ [d])] μ ((ad :: F2) ++ F0) [] [] _ (by
        show (pput q r (.ml (ds ++ [d]))).map (fun d' => ρ.set i d') = some (ρ.set i r')
        rw [e4]
        rfl) ⟨⟨ad :: F2, F0, ⟨some (.ref ad), [], ad :: F2, [], rfl, R1_of rn, ⟨rfl, rfl⟩, (List.append_nil _).symm⟩, hst, rfl⟩, ndFc, fun b hb => by
          have hb1 := Sc.own b (by rw [eF]; exact hb)
          refine ⟨hb1.1, ?_⟩
          show (∃ xs, upd W1.H ad _ b = _) ∨ ∃ C dx fs, upd W1.H ad _ b = _
          by_cases z : b = ad
          · rw [z, upd_same]
            exact .inl ⟨_, rfl⟩
          · rw [upd_ne z]
            exact hb1.2, fun b hb => by
          show upd W1.H ad _ b ≠ none
          by_cases z : b = ad
          · rw [z, upd_same]
            exact fun z => nomatch z
          · rw [upd_ne z]
            exact x1.ok b hb⟩ ndFc (fun _ hb => nomatch hb) (fun _ hb => nomatch hb) ⟨fun b o hb nb => by
        show upd W1.H ad _ b = some o
        rw [upd_ne fun z => nb (by rw [z, eF]; exact List.mem_append_right _ (List.mem_append_left _ (List.mem_cons_self ..)))]
        exact hb, fun _ h => h, fun _ h => .inl h, fun b hb => .inl (by rw [eF]; exact hb), ⟨[], (List.append_nil _).symm⟩⟩
    exact ⟨ad, vs, y, rfl, rfl, x1.ex _ _ h2, lim_lt (by omega), h σ _ F9 S9 (x1.mvr.trans mv9) Kept.refl⟩
  | _ => cases ho
/-! ### list(e) -/
def qListOf (f : FQ) : FA := fun ρ μ => (f ρ μ).bind fun d => (seqD d).bind fun ds => if dataL ds = true then some ds else none
theorem pn_list {px : Pos} (he : PQ X e qq) (hm : X.mg "list" = none) (hg : Gl X "list" := by rfl) (hv : bootBuiltins "list" = some (.type "list") := by decide +kernel) (hs : starEach [e] X.env = (false, eval e X.env) :: starEach [] X.env := by rfl) (hpl : (backTo pos (starEach [] X.env)).any (·.1) = false := by rfl) :
    PN X (.Call (.Name "list" px) [e] [] pos) (qListOf qq) := by
  obtain ⟨te, pe, kv⟩ := he
  refine ⟨_, pe_callTy call_list_of hg hm hv (pa_cons pe pa_nil hs) (by decide) (by decide) hs hpl, fun σ W ρ μ F S ds hd Q q => ?_⟩
  obtain ⟨d, e1, hd⟩ := bind_some hd
  obtain ⟨es, e2, hd⟩ := bind_some hd
  by_cases hl : dataL es = true
  case neg => rw [if_neg hl] at hd; cases hd
  rw [if_pos hl] at hd
  cases hd
  refine kv σ W ρ μ F S d e1 _ fun y W1 G x1 r1 => ?_
  obtain ⟨a, vs, G', rfl, h2, h3⟩ := R_seq e2 r1
  have z := RL_data _ hl h3
  subst z
  refine ⟨a, vs, rfl, h2, fun l hl2 => ?_⟩
  have x2 : Ext W1 (W1.put l (.lst vs)) := Ext.put x1.ok hl2
  exact q l (W1.put l (.lst vs)) ⟨x1.trans x2, Evl.fresh_back x1.ex hl2, fun z => x1.ok l z hl2, vs, upd_same, RL_ext x2 _ h3⟩
end
/-! ### tables -/
def okT (L : List (Str × Str)) : OkT := fun c x => L.any fun p => decide (p.1 = c ∧ p.2 = x)
theorem ce_of {K : PySem.W.Frag} {L : List (Str × Str)} (h : ∀ p ∈ L, Cls K (He.ga K p.1) ∧ NoAttr K (He.ga K p.1) p.2) : CE K (okT L) := fun c x hk => by
  obtain ⟨p, hp, h2⟩ := List.any_eq_true.mp hk
  obtain ⟨rfl, rfl⟩ := of_decide_eq_true h2
  exact h p hp
section
variable {P : Program} {w : World} {K : PySem.W.Frag} {mg : Str → Option Value} {base : Heap} {x c m : Str} {j k n : Nat} {dd : List D}
theorem OkQ.mono {run : List D → Option D} (h : OkQ P w K mg base x j n dd run) (hk : j ≤ k) : OkQ P w K mg base x k n dd run := by
  obtain ⟨f, fd, ps, dvs, us, a1, a2⟩ := h
  exact ⟨f, fd, ps, dvs, us, a1.mono hk, a2⟩
theorem OkX.mono {run : RX} (h : OkX P w K mg base x j n dd run) (hk : j ≤ k) : OkX P w K mg base x k n dd run := by
  obtain ⟨f, fd, ps, dvs, us, a1, a2⟩ := h
  exact ⟨f, fd, ps, dvs, us, a1.mono hk, a2⟩
theorem OkM.mono {run : RX} (h : OkM P w K mg base c m j n dd run) (hk : j ≤ k) : OkM P w K mg base c m k n dd run := by
  obtain ⟨f, fd, ps, dvs, us, a1, a2⟩ := h
  exact ⟨f, fd, ps, dvs, us, a1.mono hk, a2⟩
theorem OkK.mono {run : RX} (h : OkK P w K mg base c j n dd run) (hk : j ≤ k) : OkK P w K mg base c k n dd run := by
  obtain ⟨f, fd, ps, dvs, us, a1, a2⟩ := h
  exact ⟨f, fd, ps, dvs, us, a1.mono hk, a2⟩
theorem OkF.mono {run : RF} (h : OkF P w K mg base x j n dd run) (hk : j ≤ k) : OkF P w K mg base x k n dd run := by
  obtain ⟨f, fd, ps, dvs, us, a1, a2⟩ := h
  exact ⟨f, fd, ps, dvs, us, a1.mono hk, a2⟩
theorem OkFM.mono {run : RF} (h : OkFM P w K mg base c m j n dd run) (hk : j ≤ k) : OkFM P w K mg base c m k n dd run := by
  obtain ⟨f, fd, ps, dvs, us, a1, a2⟩ := h
  exact ⟨f, fd, ps, dvs, us, a1.mono hk, a2⟩
end
/-- a table by the class's name -/
def tbl {α : Type} (L : List (Str × α)) : Str → Option α := fun c => match L with
  | [] => none
  | (d, a) :: L => if d = c then some a else tbl L c
theorem tbl_ok {α : Type} {p : Str → α → Prop} : ∀ {L : List (Str × α)}, (∀ z ∈ L, p z.1 z.2) → ∀ c a, tbl L c = some a → p c a
  | [], _, c, a, h => by cases h
  | (d, b) :: L, hp, c, a, h => by
    have h2 : (if d = c then some b else tbl L c) = some a := h
    by_cases e : d = c
    · rw [if_pos e] at h2
      cases h2
      exact e ▸ hp _ (List.mem_cons_self ..)
    · rw [if_neg e] at h2
      exact tbl_ok (fun z hz => hp z (List.mem_cons_of_mem _ hz)) c a h2
end Fw
/-! # the law that looks; quiet defs within what changes; reckoning -/
namespace Fw
open PySem PySem.Spec PyProof.Rows L2
open Evl (Ex)
theorem hob_of {ks : List Bool} {ob : List Nat} (h : ((List.range ks.length).all fun i => !(ks.getD i false) || ob.contains i) = true) : ∀ i : Nat, ks[i]? = some true → i ∈ ob := fun i hi => by
  have hl := (List.getElem?_eq_some_iff.mp hi).1
  have := List.all_eq_true.mp h i (List.mem_range.mpr hl)
  rw [List.getD_eq_getElem?_getD, hi] at this
  simpa using this
theorem law_spF {K : PySem.W.Frag} {run : RF} {H : Hp} {a : Addr} {ns : List Int} {E : XK} (hS : SqL K H a (ns.map V.int)) (hr : run [.lst (ns.map D.int)] [] = some (.bl true)) : spF K 1 run [.ref a] H (fun v _ => v = .bl true) E := by
  have rl : ∀ (W : Wd) (l : List Int), RL K W (l.map D.int) (l.map V.int) [] := fun W l => by
    induction l with
    | nil => exact ⟨rfl, rfl⟩
    | cons i l ih => exact rl_int ih
  refine ⟨⟨H, fun b => H b ≠ none, []⟩, [.lst (ns.map D.int)], [], .bl true, rfl, fun b h => h, ⟨.ref a, [], [], [], rfl, ⟨a, _, rfl, ?_, rl _ ns, rfl⟩, ⟨rfl, rfl⟩, rfl⟩, ⟨rfl, rfl⟩, rfl, hr, fun v W' G r _ _ _ _ => r.1⟩
  rcases hS with h | h
  · refine .inl ⟨h, ?_⟩
    rcases h with h | ⟨o, h⟩
    · show H a ≠ none
      rw [h]
      exact fun z => nomatch z
    · show H a ≠ none
      rw [h]
      exact fun z => nomatch z
  · exact .inr (.inr h)
section
variable {X : Cx} {Wx : WX} {e a b c o : Expr} {es : List Expr} {f g : FX} {p apos pos : Pos} {kf : FXA} {x m : Str} {k n i : Nat} {dd : List D} {ob : List Nat}
def xPB (t : FB) : FX := fun ρ μ => (t ρ μ).map fun b => .ok (.bl b) ρ μ
theorem ptx_b {t : FB} (h : PB X a t) : PTX X Wx a (xPB t) := ptx_q h
theorem ps1_setTX {tg : Expr} {vs : List Nat} {gt : D → List D → Option (List D)} (he : PX X Wx e g) (hg : PGD X tg vs gt) (hs : swapsWithSole [tg] e pos.line X.env = pure false := by rfl) (hw : swappedStores [tg] e X.env = pure none := by rfl)
    (h1 : (assignEach [tg] X.env).map (·.2) = [assign tg X.env] := by rfl) (hv : ∀ i ∈ ob, i ∉ vs := by decide) : PS1 X ob Wx (.Assign [tg] e pos) (fSetTX gt g) := by
  obtain ⟨te, p, k⟩ := he
  obtain ⟨tgt, p1, k1⟩ := hg
  refine ⟨_, ps_asg p p1 hs hw h1, fun E σ W ρ μ F S o ho h => ?_⟩
  refine runS_bind k S ho h fun d v W1 G ρ1 μ1 F1 r S1 nd own mv hk => ?_
  by_cases hd : data d = true
  case neg => rw [if_neg hd] at hk; cases hk
  rw [if_pos hd] at hk
  obtain ⟨ρ', e2, z⟩ := map_some hk
  subst z
  have z := R_data d hd r
  subst z
  exact k1 σ W1 ρ1 μ1 F1 d v S1 r ρ' e2 _ fun σ' F' S' sub hw => h σ' W1 F' S' (mv.sub (fun _ h => h) fun a ha => sub a ha) (Kept.of_wipe hw hv)
/-- a quiet def, the arguments of any sort -/
def xRunQ (n : Nat) (dd : List D) (run : List D → Option D) (k : FXA) : FX := xA k fun ds ρ μ => if dataL ds = true ∧ (ds ++ dd).length = n then (run (ds ++ dd)).bind fun d => if data d = true then some (.ok d ρ μ) else none else none
theorem px_callQ {run : List D → Option D} (O : OkQ X.prog X.w X.K X.mg X.base x k n dd run) (hr : Room k X.A) (ha : PAX X Wx (e :: es) kf) (hg : Gl X x := by rfl) (hdb : (x == ("__debug__" : Str)) = false := by decide)
    (he : starEach (e :: es) X.env = (false, eval e X.env) :: starEach es X.env := by rfl) (hpl : (backTo pos (starEach es X.env)).any (·.1) = false := by rfl) : PX X Wx (.Call (.Name x p) (e :: es) [] pos) (xRunQ n dd run kf) := by
  obtain ⟨f, fd, ps, dvs, us, hF, hb, hv, hdd, hdt, hm, hk⟩ := O
  obtain ⟨t, pt, k1⟩ := ha
  refine ⟨_, pe_call hF hr hg hm hk hb hv passN pt hdb he hpl, fun σ W ρ μ F S o ho Q hQ => ?_⟩
  refine runA_bind k1 S ho hQ fun ds vs W1 ρ1 μ1 F1 r S1 mv ho1 => ?_
  by_cases hl : dataL ds = true ∧ (ds ++ dd).length = n
  case neg => rw [if_neg hl] at ho1; cases ho1
  rw [if_pos hl] at ho1
  obtain ⟨d', e2, ho1⟩ := bind_some ho1
  by_cases hd : data d' = true
  case neg => rw [if_neg hd] at ho1; cases ho1
  rw [if_pos hd] at ho1
  cases ho1
  exact call_back hl.1 hdt S1.ok (RL_app r (hdd W1)) hl.2 e2 hd fun v W2 x2 r2 => hQ v W2 [] F1 r2 (S1.ext x2) S1.nd (fun _ hb => nomatch hb) (mv.trans x2.mvr)
end
/-! ### reckoning -/
section
variable {x0 : D} {ρ μ : List D}
def eB (o : Option EO) (k : D → FX) : Option EO := match o with
  | some (.ok d ρ' μ') => if fl d = true then k d ρ' μ' else none
  | some (.ex c fs ρ' μ') => some (.ex c fs ρ' μ')
  | none => none
theorem xB_eq (f : FX) (k : D → FX) : xB f k (x0 :: ρ) μ = eB (f (x0 :: ρ) μ) k := by
  unfold xB eB
  cases f (x0 :: ρ) μ with
  | none => rfl
  | some o => cases o <;> rfl
theorem eB_ok (d : D) (ρ' μ' : List D) (k : D → FX) : eB (some (.ok d ρ' μ')) k = if fl d = true then k d ρ' μ' else none := rfl
theorem eB_ex (c : Str) (fs : List (Str × D)) (ρ' μ' : List D) (k : D → FX) : eB (some (.ex c fs ρ' μ')) k = some (.ex c fs ρ' μ') := rfl
def eT (o : Option EO) (k : Bool → FX) : Option EO := match o with
  | some (.ok d ρ' μ') => (match d with
    | .bl b => k b ρ' μ'
    | _ => none)
  | some (.ex c fs ρ' μ') => some (.ex c fs ρ' μ')
  | none => none
theorem xT_eq (f : FX) (k : Bool → FX) : xT f k (x0 :: ρ) μ = eT (f (x0 :: ρ) μ) k := by
  unfold xT eT
  cases f (x0 :: ρ) μ with
  | none => rfl
  | some o => cases o <;> rfl
theorem eT_bl (b : Bool) (ρ' μ' : List D) (k : Bool → FX) : eT (some (.ok (.bl b) ρ' μ')) k = k b ρ' μ' := rfl
theorem eT_ex (c : Str) (fs : List (Str × D)) (ρ' μ' : List D) (k : Bool → FX) : eT (some (.ex c fs ρ' μ')) k = some (.ex c fs ρ' μ') := rfl
def eS (o : Option EO) (k : D → FS) : Option SO := match o with
  | some (.ok d ρ' μ') => k d ρ' μ'
  | some (.ex c fs ρ' μ') => some (.ex c fs ρ' μ')
  | none => none
theorem xS_eq (f : FX) (k : D → FS) : xS f k (x0 :: ρ) μ = eS (f (x0 :: ρ) μ) k := by
  unfold xS eS
  cases f (x0 :: ρ) μ with
  | none => rfl
  | some o => cases o <;> rfl
theorem eS_ok (d : D) (ρ' μ' : List D) (k : D → FS) : eS (some (.ok d ρ' μ')) k = k d ρ' μ' := rfl
theorem eS_ex (c : Str) (fs : List (Str × D)) (ρ' μ' : List D) (k : D → FS) : eS (some (.ex c fs ρ' μ')) k = some (.ex c fs ρ' μ') := rfl
theorem xQ_eq (q : FQ) : xQ q (x0 :: ρ) μ = (q (x0 :: ρ) μ).bind fun d => if fl d = true then some (.ok d (x0 :: ρ) μ) else none := rfl
theorem xN_eq (k : FA) : xN k (x0 :: ρ) μ = (k (x0 :: ρ) μ).map fun ds => .ok (.ml ds) (x0 :: ρ) μ := rfl
theorem xMove_eq (i : Nat) : xMove i (x0 :: ρ) μ = ((x0 :: ρ)[i]?).bind fun d => if isUn d = true then none else some (.ok d ((x0 :: ρ).set i .un) μ) := rfl
theorem xOp_eq (o : D → D → Option D) (f g : FX) : xOp o f g (x0 :: ρ) μ = eB (f (x0 :: ρ) μ) fun x => xB g fun y => fun ρ μ => (o x y).bind fun d => if data d = true then some (.ok d ρ μ) else none := xB_eq _ _
theorem xNot_eq (f : FX) : xNot f (x0 :: ρ) μ = eT (f (x0 :: ρ) μ) fun b ρ μ => some (.ok (.bl (!b)) ρ μ) := xT_eq _ _
theorem xAnd_eq (f g : FX) : xAnd f g (x0 :: ρ) μ = eT (f (x0 :: ρ) μ) fun b ρ μ => if b = true then g ρ μ else some (.ok (.bl false) ρ μ) := xT_eq _ _
theorem xOr_eq (f g : FX) : xOr f g (x0 :: ρ) μ = eT (f (x0 :: ρ) μ) fun b ρ μ => if b = true then some (.ok (.bl true) ρ μ) else g ρ μ := xT_eq _ _
theorem xPB_eq (t : FB) : xPB t (x0 :: ρ) μ = (t (x0 :: ρ) μ).map fun b => .ok (.bl b) (x0 :: ρ) μ := rfl
theorem xIsi_eq (T : String) (f : FX) : xIsi T f (x0 :: ρ) μ = eB (f (x0 :: ρ) μ) fun d ρ μ => (tyN d).bind fun n => (kitB n T).map fun b => .ok (.bl b) ρ μ := xB_eq _ _
def aB (o : Option AO) (k : List AV → List D → List D → Option EO) : Option EO := match o with
  | some (.ok as ρ' μ') => k as ρ' μ'
  | some (.ex c fs ρ' μ') => some (.ex c fs ρ' μ')
  | none => none
theorem aB_ok (as : List AV) (ρ' μ' : List D) (k : List AV → List D → List D → Option EO) : aB (some (.ok as ρ' μ')) k = k as ρ' μ' := rfl
theorem aB_ex (c : Str) (fs : List (Str × D)) (ρ' μ' : List D) (k : List AV → List D → List D → Option EO) : aB (some (.ex c fs ρ' μ')) k = some (.ex c fs ρ' μ') := rfl
theorem xA_eq (k : FXA) (g : List D → FX) : xA k g (x0 :: ρ) μ = aB (k (x0 :: ρ) μ) fun as ρ1 μ1 => (avals as).bind fun ds => g ds ρ1 μ1 := by
  unfold xA aB
  cases k (x0 :: ρ) μ with
  | none => rfl
  | some o => cases o <;> rfl
theorem xaNil_eq : xaNil (x0 :: ρ) μ = some (.ok [] (x0 :: ρ) μ) := rfl
def eA (o : Option EO) (k : D → List D → List D → Option AO) : Option AO := match o with
  | some (.ok d ρ' μ') => k d ρ' μ'
  | some (.ex c fs ρ' μ') => some (.ex c fs ρ' μ')
  | none => none
theorem eA_ok (d : D) (ρ' μ' : List D) (k : D → List D → List D → Option AO) : eA (some (.ok d ρ' μ')) k = k d ρ' μ' := rfl
theorem eA_ex (c : Str) (fs : List (Str × D)) (ρ' μ' : List D) (k : D → List D → List D → Option AO) : eA (some (.ex c fs ρ' μ')) k = some (.ex c fs ρ' μ') := rfl
theorem xaCons_eq (f : FX) (k : FXA) : xaCons f k (x0 :: ρ) μ = eA (f (x0 :: ρ) μ) fun d ρ1 μ1 => if fl d = true then aoCons (.val d) (k ρ1 μ1) else none := by
  unfold xaCons eA
  cases f (x0 :: ρ) μ with
  | none => rfl
  | some o => cases o <;> rfl
theorem aoCons_ok (a : AV) (as : List AV) (ρ μ : List D) : aoCons a (some (.ok as ρ μ)) = some (.ok (a :: as) ρ μ) := rfl
theorem aoCons_ex (a : AV) (c : Str) (fs : List (Str × D)) (ρ μ : List D) : aoCons a (some (.ex c fs ρ μ)) = some (.ex c fs ρ μ) := rfl
theorem xaSlot_eq (j : Nat) (k : FXA) : xaSlot j k (x0 :: ρ) μ = ((x0 :: ρ)[j]?).bind fun d => if isUn d = true then none else aoCons (.slot j) (k (x0 :: ρ) μ) := rfl
theorem avals_nil : avals [] = some [] := rfl
theorem avals_val (d : D) (as : List AV) : avals (.val d :: as) = (avals as).map fun ds => d :: ds := rfl
theorem xTup_eq (k : FXA) : xTup k (x0 :: ρ) μ = aB (k (x0 :: ρ) μ) fun as ρ1 μ1 => (avals as).bind fun ds => if ds.length ≤ 100 ∧ dataL ds = true then some (.ok (.tup ds) ρ1 μ1) else none := xA_eq _ _
theorem xCall_eq (o : List D → Option D) (k : FXA) : xCall o k (x0 :: ρ) μ = aB (k (x0 :: ρ) μ) fun as ρ1 μ1 => (avals as).bind fun ds => (o ds).bind fun d => if data d = true then some (.ok d ρ1 μ1) else none := xA_eq _ _
theorem xRunQ_eq (n : Nat) (dd : List D) (run : List D → Option D) (k : FXA) : xRunQ n dd run k (x0 :: ρ) μ = aB (k (x0 :: ρ) μ) fun as ρ1 μ1 => (avals as).bind fun ds => if dataL ds = true ∧ (ds ++ dd).length = n then (run (ds ++ dd)).bind fun d => if data d = true then some (.ok d ρ1 μ1) else none else none := xA_eq _ _
theorem xRun_eq (n : Nat) (dd : List D) (run : RX) (k : FXA) : xRun n dd run k (x0 :: ρ) μ = aB (k (x0 :: ρ) μ) fun as ρ1 μ1 => (mo as ρ1).bind fun z => if (z.1 ++ dd).length = n then (run (z.1 ++ dd) μ1).bind (xPut fun ys => mi as z.2 (ys.take z.1.length)) else none := by
  unfold xRun aB
  cases k (x0 :: ρ) μ with
  | none => rfl
  | some o => cases o <;> rfl
theorem xPut_ok (put : List D → Option (List D)) (d : D) (ds μ : List D) : xPut put (.ok d ds μ) = (put ds).map fun ρ' => .ok d ρ' μ := rfl
theorem xPut_ex (put : List D → Option (List D)) (c : Str) (fs : List (Str × D)) (ds μ : List D) : xPut put (.ex c fs ds μ) = (put ds).map fun ρ' => .ex c fs ρ' μ := rfl
theorem mo_nil : mo [] ρ = some ([], ρ) := rfl
theorem mo_val (d : D) (as : List AV) : mo (.val d :: as) ρ = (mo as ρ).map fun z => (d :: z.1, z.2) := rfl
theorem mo_slot (j : Nat) (as : List AV) : mo (.slot j :: as) ρ = (mo as ρ).bind fun z => (z.2[j]?).bind fun d => if isUn d = true then none else some (d :: z.1, z.2.set j .un) := rfl
theorem mi_nil : mi [] ρ [] = some ρ := by unfold mi; rfl
theorem mi_val (d d' : D) (as : List AV) (ds : List D) : mi (.val d :: as) ρ (d' :: ds) = mi as ρ ds := by rw [mi]
theorem mi_slot (j : Nat) (d' : D) (as : List AV) (ds : List D) : mi (.slot j :: as) ρ (d' :: ds) = mi as (ρ.set j d') ds := by rw [mi]
/-- methods of a slot -/
def mSK (i : Nat) (m : Str) (n : Nat) (dd : List D) (runs : MT) (o : Option AO) (t : Option D) : Option EO := match t with
  | some (.obj c ns _) => if fidx m ns = none then (runs c).bind fun run => aB o fun as ρ1 μ1 => (mo (.slot i :: as) ρ1).bind fun z => if (z.1 ++ dd).length = n then (run (z.1 ++ dd) μ1).bind (xPut fun ys => mi (.slot i :: as) z.2 (ys.take z.1.length)) else none else none
  | _ => none
theorem xMethS_eq (i : Nat) (m : Str) (n : Nat) (dd : List D) (runs : MT) (k : FXA) : xMethS i m n dd runs k (x0 :: ρ) μ = mSK i m n dd runs (k (x0 :: ρ) μ) ((x0 :: ρ)[i]?) := by
  unfold xMethS mSK
  cases (x0 :: ρ)[i]? with
  | none => rfl
  | some t =>
    cases t with
    | obj c ns ds =>
      show (if fidx m ns = none then _ else none) = (if fidx m ns = none then _ else none)
      by_cases h : fidx m ns = none
      · rw [if_pos h, if_pos h]
        cases runs c with
        | none => rfl
        | some run =>
          unfold aB
          cases k (x0 :: ρ) μ with
          | none => rfl
          | some o => cases o <;> rfl
      · rw [if_neg h, if_neg h]
    | _ => rfl
theorem mSK_obj (i : Nat) (m : Str) (n : Nat) (dd : List D) (runs : MT) (o : Option AO) (c : Str) (ns : List Str) (ds : List D) : mSK i m n dd runs o (some (.obj c ns ds)) = if fidx m ns = none then (runs c).bind fun run => aB o fun as ρ1 μ1 => (mo (.slot i :: as) ρ1).bind fun z => if (z.1 ++ dd).length = n then (run (z.1 ++ dd) μ1).bind (xPut fun ys => mi (.slot i :: as) z.2 (ys.take z.1.length)) else none else none := rfl
/-- methods by a path -/
def mQK (q : List Str) (m : Str) (n : Nat) (dd : List D) (runs : MT) (ρ μ : List D) (i : Nat) (r : D) (o : Option (List D)) (t : Option D) : Option EO := match t with
  | some (.obj c ns ds) => if fidx m ns = none then (runs c).bind fun run => o.bind fun as => if flL as = true ∧ (D.obj c ns ds :: (as ++ dd)).length = n then (run (D.obj c ns ds :: (as ++ dd)) μ).bind (xPut fun ys => (put1 fun t' => (pput q r t').map fun r' => ρ.set i r') (ys.take 1)) else none else none
  | some (.ref j) => (match μ[j]? with
    | some (.obj c ns _) => if fidx m ns = none then (runs c).bind fun run => o.bind fun as => if flL as = true ∧ (D.ref j :: (as ++ dd)).length = n then (run (D.ref j :: (as ++ dd)) μ).bind (xPut fun ys => some ρ) else none else none
    | _ => none)
  | _ => none
theorem xMethQ_eq (ok : OkT) (i : Nat) (q : List Str) (m : Str) (n : Nat) (dd : List D) (runs : MT) (k : FA) : xMethQ ok i q m n dd runs k (x0 :: ρ) μ = ((x0 :: ρ)[i]?).bind fun r => mQK q m n dd runs (x0 :: ρ) μ i r (k (x0 :: ρ) μ) (pget ok q r) := by
  unfold xMethQ mQK
  cases (x0 :: ρ)[i]? with
  | none => rfl
  | some r =>
    simp only [Option.bind_some]
    generalize pget ok q r = t
    cases t with
    | none => rfl
    | some t => cases t <;> rfl
theorem mQK_obj (q : List Str) (m : Str) (n : Nat) (dd : List D) (runs : MT) (ρ μ : List D) (i : Nat) (r : D) (o : Option (List D)) (c : Str) (ns : List Str) (ds : List D) : mQK q m n dd runs ρ μ i r o (some (.obj c ns ds)) = if fidx m ns = none then (runs c).bind fun run => o.bind fun as => if flL as = true ∧ (D.obj c ns ds :: (as ++ dd)).length = n then (run (D.obj c ns ds :: (as ++ dd)) μ).bind (xPut fun ys => (put1 fun t' => (pput q r t').map fun r' => ρ.set i r') (ys.take 1)) else none else none := rfl
theorem put1_one (g : D → Option (List D)) (d : D) : put1 g [d] = g d := rfl
theorem pget_nil (ok : OkT) (d : D) : pget ok [] d = if isUn d = true then none else some d := by rw [pget]
theorem pget_cons (ok : OkT) (x : Str) (p : List Str) (c : Str) (ns : List Str) (ds : List D) : pget ok (x :: p) (.obj c ns ds) = if ok c x = true then (fidx x ns).bind fun i => (ds[i]?).bind (pget ok p) else none := by rw [pget]
theorem pput_nil (d e : D) : pput [] d e = if isUn e = true then none else some e := by rw [pput]
theorem pput_cons (x : Str) (p : List Str) (c : Str) (ns : List Str) (ds : List D) (e : D) : pput (x :: p) (.obj c ns ds) e = (fidx x ns).bind fun i => (ds[i]?).bind fun d => (pput p d e).map fun d' => .obj c ns (ds.set i d') := by rw [pput]
theorem qFld_eq (ok : OkT) (x : Str) (f : FQ) : qFld ok x f (x0 :: ρ) μ = (f (x0 :: ρ) μ).bind (dFld ok x μ) := rfl
theorem dFld_obj (ok : OkT) (x : Str) (c : Str) (ns : List Str) (ds : List D) : dFld ok x μ (.obj c ns ds) = if ok c x = true then (fidx x ns).bind fun i => ds[i]? else none := rfl
theorem dFld_fo (ok : OkT) (x : Str) (c : Str) (ns : List Str) (ds : List D) : dFld ok x μ (.fo c ns ds) = if ok c x = true then (fidx x ns).bind fun i => ds[i]? else none := rfl
theorem dFld_ref (ok : OkT) (x : Str) (k : Nat) : dFld ok x μ (.ref k) = (μ[k]?).bind (dFo ok x) := rfl
theorem dFo_obj (ok : OkT) (x : Str) (c : Str) (ns : List Str) (ds : List D) : dFo ok x (.obj c ns ds) = if ok c x = true then (fidx x ns).bind fun i => ds[i]? else none := rfl
theorem dFo_fo (ok : OkT) (x : Str) (c : Str) (ns : List Str) (ds : List D) : dFo ok x (.fo c ns ds) = if ok c x = true then (fidx x ns).bind fun i => ds[i]? else none := rfl
theorem varK_obj (c : Str) (ns : List Str) (ds : List D) : varK (some (.obj c ns ds)) = some (.obj c ns ds) := rfl
theorem varK_fo (c : Str) (ns : List Str) (ds : List D) : varK (some (.fo c ns ds)) = some (.fo c ns ds) := rfl
theorem varK_ref (k : Nat) : varK (some (.ref k)) = some (.ref k) := rfl
theorem qRunF_eq (n : Nat) (dd : List D) (run : RF) (k : FA) : qRunF n dd run k (x0 :: ρ) μ = (k (x0 :: ρ) μ).bind fun as => if (fzL as ++ dd).length = n then (run (fzL as ++ dd) (fzL μ)).bind resF else none := rfl
theorem qMethF_eq (m : Str) (n : Nat) (dd : List D) (runs : MTF) (f : FQ) (k : FA) : qMethF m n dd runs f k (x0 :: ρ) μ = (f (x0 :: ρ) μ).bind fun t => (clsOf μ t).bind fun z => if fidx m z.2 = none then (runs z.1).bind fun run => (k (x0 :: ρ) μ).bind fun as => if (fz t :: (fzL as ++ dd)).length = n then (run (fz t :: (fzL as ++ dd)) (fzL μ)).bind resF else none else none := rfl
theorem clsOf_obj (c : Str) (ns : List Str) (ds : List D) : clsOf μ (.obj c ns ds) = some (c, ns) := rfl
theorem clsOf_fo (c : Str) (ns : List Str) (ds : List D) : clsOf μ (.fo c ns ds) = some (c, ns) := rfl
theorem clsOf_ref (k : Nat) : clsOf μ (.ref k) = (μ[k]?).bind clsO := rfl
theorem xMake_eq (c : Str) (n : Nat) (dd : List D) (run : RX) (k : FXA) : xMake c n dd run k (x0 :: ρ) μ = aB (k (x0 :: ρ) μ) fun as ρ1 μ1 => (avals as).bind fun ds => if (D.obj c [] [] :: (ds ++ dd)).length = n then (run (D.obj c [] [] :: (ds ++ dd)) μ1).bind fun o => match o with
  | .ok d (t :: _) μ' => (match d with
    | .non => if isUn t = true then none else some (.ok t ρ1 μ')
    | _ => none)
  | .ex cx fs (_ :: _) μ' => some (.ex cx fs ρ1 μ')
  | _ => none
  else none := xA_eq _ _
theorem fSetX_eq (i : Nat) (g : FX) : fSetX i g (x0 :: ρ) μ = eS (g (x0 :: ρ) μ) fun d ρ μ => if isUn d = true then none else some (.nx (ρ.set i d) μ) := xS_eq _ _
theorem fSetTX_eq (gt : D → List D → Option (List D)) (g : FX) : fSetTX gt g (x0 :: ρ) μ = eS (g (x0 :: ρ) μ) fun d ρ μ => if data d = true then (gt d ρ).map fun ρ' => .nx ρ' μ else none := xS_eq _ _
theorem fExX_eq (g : FX) : fExX g (x0 :: ρ) μ = eS (g (x0 :: ρ) μ) fun _ ρ μ => some (.nx ρ μ) := xS_eq _ _
theorem fRetX_eq (g : FX) : fRetX g (x0 :: ρ) μ = eS (g (x0 :: ρ) μ) fun d ρ μ => some (.rt d ρ μ) := xS_eq _ _
def ifK (f g : FS) (d : D) (ρ μ : List D) : Option SO := match d with
  | .bl b => if b = true then f ρ μ else g ρ μ
  | _ => none
theorem ifK_bl (f g : FS) (b : Bool) : ifK f g (.bl b) ρ μ = if b = true then f ρ μ else g ρ μ := rfl
theorem fIfX_eq (t : FX) (f g : FS) : fIfX t f g (x0 :: ρ) μ = eS (t (x0 :: ρ) μ) (ifK f g) := xS_eq _ _
def fldK (ok : OkT) (i : Nat) (q : List Str) (x : Str) (d : D) (ρ μ : List D) (r : D) (t : Option D) : Option SO := match t with
  | some (.obj c ns ds) => if ok c x = true ∧ ns.length < 1000 then (pput q r (putD x d c ns ds)).map fun r' => .nx (ρ.set i r') μ else none
  | some (.ref j) => (match μ[j]? with
    | some (.obj c ns ds) => if ok c x = true ∧ ns.length < 1000 ∧ fl d = true then some (.nx ρ (μ.set j (putD x d c ns ds))) else none
    | _ => none)
  | _ => none
theorem fFldX_eq (ok : OkT) (i : Nat) (q : List Str) (x : Str) (g : FX) : fFldX ok i q x g (x0 :: ρ) μ = eS (g (x0 :: ρ) μ) fun d ρ μ => (ρ[i]?).bind fun r => fldK ok i q x d ρ μ r (pget ok q r) := by
  unfold fFldX
  rw [xS_eq]
  unfold eS
  cases g (x0 :: ρ) μ with
  | none => rfl
  | some o =>
    cases o with
    | ex c fs ρ' μ' => rfl
    | ok d ρ' μ' =>
      simp only
      cases ρ'[i]? with
      | none => rfl
      | some r =>
        simp only [Option.bind_some]
        unfold fldK
        generalize pget ok q r = t
        cases t with
        | none => rfl
        | some t => cases t <;> rfl
theorem fldK_obj (ok : OkT) (i : Nat) (q : List Str) (x : Str) (d : D) (ρ μ : List D) (r : D) (c : Str) (ns : List Str) (ds : List D) : fldK ok i q x d ρ μ r (some (.obj c ns ds)) = if ok c x = true ∧ ns.length < 1000 then (pput q r (putD x d c ns ds)).map fun r' => .nx (ρ.set i r') μ else none := rfl
theorem fFldAug_eq (ok : OkT) (i : Nat) (q : List Str) (x : Str) (op : D → D → Option D) (f : FQ) : fFldAug ok i q x op f (x0 :: ρ) μ = fFldX ok i q x (xAug ok i q x op f) (x0 :: ρ) μ := rfl
theorem xAug_eq (ok : OkT) (i : Nat) (q : List Str) (x : Str) (op : D → D → Option D) (f : FQ) : xAug ok i q x op f (x0 :: ρ) μ = ((x0 :: ρ)[i]?).bind fun r => (pget ok q r).bind fun t => (dFld ok x μ t).bind fun a => (f (x0 :: ρ) μ).bind fun b => (op a b).map fun d => .ok d (x0 :: ρ) μ := rfl
theorem iAdd_int (a b : Int) : iAdd (.int a) (.int b) = some (.int (a + b)) := rfl
theorem iSub_int (a b : Int) : iSub (.int a) (.int b) = some (.int (a - b)) := rfl
theorem fRaise_eq (c : Str) : fRaise c (x0 :: ρ) μ = some (.ex c [] (x0 :: ρ) μ) := rfl
theorem putD_some {x : Str} {ns : List Str} {i : Nat} (h : fidx x ns = some i) (d : D) (c : Str) (ds : List D) : putD x d c ns ds = .obj c ns (ds.set i d) := by
  unfold putD
  rw [h]
theorem isUn_obj (c : Str) (ns : List Str) (ds : List D) : isUn (.obj c ns ds) = false := rfl
theorem isUn_fo (c : Str) (ns : List Str) (ds : List D) : isUn (.fo c ns ds) = false := rfl
theorem isUn_ml (ds : List D) : isUn (.ml ds) = false := rfl
theorem isUn_lst (ds : List D) : isUn (.lst ds) = false := rfl
theorem isUn_tup (ds : List D) : isUn (.tup ds) = false := rfl
theorem isUn_int (i : Int) : isUn (.int i) = false := rfl
theorem isUn_str (i : List Nat) : isUn (.str i) = false := rfl
theorem isUn_bl (i : Bool) : isUn (.bl i) = false := rfl
theorem isUn_non : isUn .non = false := rfl
theorem isUn_ref (i : Nat) : isUn (.ref i) = false := rfl
theorem fl_int (i : Int) : fl (.int i) = true := rfl
theorem fl_str (i : List Nat) : fl (.str i) = true := rfl
theorem fl_bl (i : Bool) : fl (.bl i) = true := rfl
theorem fl_non : fl .non = true := rfl
theorem fl_ref (i : Nat) : fl (.ref i) = true := rfl
theorem fl_tup (ds : List D) : fl (.tup ds) = dataL ds := rfl
theorem fl_lst (ds : List D) : fl (.lst ds) = dataL ds := rfl
theorem flL_nil : flL [] = true := rfl
theorem flL_cons (d : D) (ds : List D) : flL (d :: ds) = (fl d && flL ds) := rfl
theorem resF_bl (b : Bool) : resF (.bl b) = some (.bl b) := rfl
theorem resF_int (b : Int) : resF (.int b) = some (.int b) := rfl
theorem resF_str (b : List Nat) : resF (.str b) = some (.str b) := rfl
theorem resF_non : resF .non = some .non := rfl
theorem resF_tup (ds : List D) : resF (.tup ds) = if noLL ds = true then some (.tup ds) else none := rfl
theorem resF_ml (ds : List D) : resF (.ml ds) = if noLL ds = true then some (.lst ds) else none := rfl
theorem fzL_nil : fzL [] = [] := rfl
theorem fzL_cons (d : D) (ds : List D) : fzL (d :: ds) = fz d :: fzL ds := rfl
theorem fz_int (i : Int) : fz (.int i) = .int i := rfl
theorem fz_str (i : List Nat) : fz (.str i) = .str i := rfl
theorem fz_bl (i : Bool) : fz (.bl i) = .bl i := rfl
theorem fz_non : fz .non = .non := rfl
theorem fz_ref (i : Nat) : fz (.ref i) = .ref i := rfl
theorem fz_tup (ds : List D) : fz (.tup ds) = .tup (fzL ds) := rfl
theorem fz_lst (ds : List D) : fz (.lst ds) = .lst (fzL ds) := rfl
theorem fz_ml (ds : List D) : fz (.ml ds) = .lst (fzL ds) := rfl
theorem fz_obj (c : Str) (ns : List Str) (ds : List D) : fz (.obj c ns ds) = .fo c ns (fzL ds) := rfl
theorem fz_fo (c : Str) (ns : List Str) (ds : List D) : fz (.fo c ns ds) = .fo c ns (fzL ds) := rfl
def rF (o : Option SO) : Option D := match o with
  | some (.rt d _ _) => some d
  | some (.nx _ _) => some .non
  | _ => none
theorem runF_eq (N : Nat) (f : FS) (ds : List D) : runF N f ds μ = rF (f (ds ++ List.replicate (N - ds.length) .un) μ) := rfl
theorem rF_rt (d : D) (ρ μ : List D) : rF (some (.rt d ρ μ)) = some d := rfl
theorem rF_nx (ρ μ : List D) : rF (some (.nx ρ μ)) = some .non := rfl
def rX (ks : List Bool) (ds : List D) (o : Option SO) : Option EO := o.bind fun o => match o with
  | .rt d ρ' μ' => if isUn d = true then none else (fin ks ds ρ').map fun ds' => .ok d ds' μ'
  | .nx ρ' μ' => (fin ks ds ρ').map fun ds' => .ok .non ds' μ'
  | .ex c fs ρ' μ' => (fin ks ds ρ').map fun ds' => .ex c fs ds' μ'
  | _ => none
theorem runX_eq (N : Nat) (ks : List Bool) (f : FS) (ds : List D) : runX N ks f ds μ = rX ks ds (f (ds ++ List.replicate (N - ds.length) .un) μ) := rfl
theorem rX_rt (ks : List Bool) (ds : List D) (d : D) (ρ' μ' : List D) : rX ks ds (some (.rt d ρ' μ')) = if isUn d = true then none else (fin ks ds ρ').map fun ds' => .ok d ds' μ' := rfl
theorem rX_nx (ks : List Bool) (ds : List D) (ρ' μ' : List D) : rX ks ds (some (.nx ρ' μ')) = (fin ks ds ρ').map fun ds' => .ok .non ds' μ' := rfl
theorem rX_ex (ks : List Bool) (ds : List D) (c : Str) (fs : List (Str × D)) (ρ' μ' : List D) : rX ks ds (some (.ex c fs ρ' μ')) = (fin ks ds ρ').map fun ds' => .ex c fs ds' μ' := rfl
theorem fin_nil : fin [] [] ρ = some [] := by rw [fin]
theorem fin_t (ks : List Bool) (d r : D) (ds : List D) : fin (true :: ks) (d :: ds) (r :: ρ) = if isUn r = true then none else (fin ks ds ρ).map fun l => r :: l := by rw [fin]
theorem fin_f (ks : List Bool) (d r : D) (ds : List D) : fin (false :: ks) (d :: ds) (r :: ρ) = if fl d = true then (fin ks ds ρ).map fun l => d :: l else none := by rw [fin]
end
end Fw
/-! # range with a step; index of a text -/
namespace Fw
open PySem PySem.Spec PyProof.Rows L2
open Evl (Ex)
def rangeS (i j c : Int) : List D := (List.range (Builtin.Range.rangeSize i j c).toNat).map fun (k : Nat) => .int (i + (k : Int) * c)
def rg3K (x y z : D) : Option (List D) := match x, y, z with
  | .int i, .int j, .int c => if (0 < c ∧ c < 1073741824) ∧ Builtin.Range.small i j c = true then some (rangeS i j c) else none
  | _, _, _ => none
def aR3 (f g h : FQ) : FA := fun ρ μ => (f ρ μ).bind fun x => (g ρ μ).bind fun y => (h ρ μ).bind fun z => rg3K x y z
theorem it_rangeS {K : PySem.W.Frag} {W0 : Wd} {Rel : Wd → Wd → Prop} {i j c : Int} : ItD K (Itc i c (Builtin.Range.rangeSize i j c).toNat) W0 (rangeS i j c) Rel where
  go := fun k W r h => by
    unfold rangeS at h
    rw [List.length_map, List.length_range] at h
    exact h
  st := fun k W r h => by
    unfold rangeS at h
    rw [List.length_map, List.length_range] at h
    exact h
  yl := fun k W x H' r ok h y => by
    obtain ⟨e, rfl⟩ := y
    unfold rangeS at h ⊢
    rw [List.length_map, List.length_range] at h
    exact ⟨W, .int (i + (k : Int) * c), e.symm, by rw [List.getElem?_map, List.getElem?_range h]; rfl, Ext.refl ok, rfl, rfl⟩
theorem rs_nonneg {i j c : Int} (hc : 0 < c) : 0 ≤ Builtin.Range.rangeSize i j c := by
  unfold Builtin.Range.rangeSize
  rw [if_pos hc]
  by_cases h : i < j
  · rw [if_pos h]
    have := Int.ediv_nonneg (a := j - i - 1) (b := c) (by omega) (by omega)
    omega
  · rw [if_neg h]
    exact Int.le_refl _
section
variable {X : Cx} {tg a b c : Expr} {f g h : FQ}
theorem pif_range3 {p pos : Pos} (ha : PQ X a f) (hb : PQ X b g) (hc : PQ X c h) (hm : X.mg "range" = none) (hg : Gl X "range" := by rfl) (hs : starEach [a, b, c] X.env = (false, eval a X.env) :: starEach [b, c] X.env := by rfl)
    (hs2 : starEach [b, c] X.env = (false, eval b X.env) :: starEach [c] X.env := by rfl) (hs3 : starEach [c] X.env = (false, eval c X.env) :: starEach [] X.env := by rfl) (hpl : (backTo pos (starEach [b, c] X.env)).any (·.1) = false := by rfl) :
    PIF X tg (.Call (.Name "range" p) [a, b, c] [] pos) (aR3 f g h) := by
  obtain ⟨t1, p1, k1⟩ := ha
  obtain ⟨t2, p2, k2⟩ := hb
  obtain ⟨t3, p3, k3⟩ := hc
  refine ⟨_, pi_range3 hg hm (pa_cons p1 (pa_cons p2 (pa_cons p3 pa_nil hs3) hs2) hs) hs hpl, fun σ W ρ μ F S ds hd Q q => ?_⟩
  obtain ⟨x, e1, hd⟩ := bind_some hd
  obtain ⟨y, e2, hd⟩ := bind_some hd
  obtain ⟨z, e3, hd⟩ := bind_some hd
  refine k1 σ W ρ μ F S x e1 _ fun v W1 G1 x1 r1 => ?_
  refine k2 σ W1 ρ μ F (S.ext x1) y e2 _ fun v' W2 G2 x2 r2 => ?_
  refine k3 σ W2 ρ μ F ((S.ext x1).ext x2) z e3 _ fun v'' W3 G3 x3 r3 => ?_
  cases x with
  | int i =>
    cases y with
    | int j =>
      cases z with
      | int c =>
        have hd2 : (if (0 < c ∧ c < 1073741824) ∧ Builtin.Range.small i j c = true then some (rangeS i j c) else none) = some ds := hd
        by_cases hl : (0 < c ∧ c < 1073741824) ∧ Builtin.Range.small i j c = true
        · rw [if_pos hl] at hd2
          cases hd2
          obtain ⟨rfl, _⟩ := r1
          obtain ⟨rfl, _⟩ := r2
          obtain ⟨rfl, _⟩ := r3
          exact ⟨i, j, c, (Builtin.Range.rangeSize i j c).toNat, rfl, ⟨by omega, by omega, hl.2, (Int.toNat_of_nonneg (rs_nonneg hl.1.1)).symm⟩, q _ W3 ((x1.trans x2).trans x3) it_rangeS⟩
        · rw [if_neg hl] at hd2
          cases hd2
      | _ => cases hd
    | _ => cases hd
  | _ => cases hd
theorem aR3_eq (x0 : D) (ρ μ : List D) : aR3 f g h (x0 :: ρ) μ = (f (x0 :: ρ) μ).bind fun x => (g (x0 :: ρ) μ).bind fun y => (h (x0 :: ρ) μ).bind fun z => rg3K x y z := rfl
theorem rg3K_int (i j c : Int) : rg3K (.int i) (.int j) (.int c) = if (0 < c ∧ c < 1073741824) ∧ Builtin.Range.small i j c = true then some (rangeS i j c) else none := rfl
end
/-! ### s.index(t) -/
def oIndex (s : List Nat) : List D → Option D
  | [.str t] => match Builtin.Str.occurrences (tr s) (tr t) 0 (tr s).length 1 with
    | i :: _ => some (.int (i : Nat))
    | [] => none
  | _ => none
theorem mtd_index {X : Cx} : MtD X "str.index" oIndex := by
  refine ⟨_, mt_sindex, fun W s ds vs G ok rl d hd Q q => ?_⟩
  match ds, hd with
  | [.str t], hd =>
    obtain ⟨v, rfl, r1⟩ := RL_one rl
    obtain ⟨rfl, _⟩ := r1
    have hd2 : (match Builtin.Str.occurrences (tr s) (tr t) 0 (tr s).length 1 with
      | i :: _ => some (D.int (i : Nat))
      | [] => none) = some d := hd
    cases e : Builtin.Str.occurrences (tr s) (tr t) 0 (tr s).length 1 with
    | nil => rw [e] at hd2; cases hd2
    | cons i rest =>
      rw [e] at hd2
      cases hd2
      exact ⟨tr s, tr t, i, rest, rfl, rfl, e, q _ W [] (Ext.refl ok) ⟨rfl, rfl⟩⟩
/-! ### names for what built-ins tell -/
def dMin (x y : D) : Option D := match x, y with | .int i, .int j => some (.int (if j < i then j else i)) | _, _ => none
def dMax (x y : D) : Option D := match x, y with | .int i, .int j => some (.int (if j > i then j else i)) | _, _ => none
def dStrI (x : D) : Option D := match x with | .int i => if i.natAbs.log2 < 1920 then some (.str (ofS (toString i))) else none | _ => none
theorem dMin_int (i j : Int) : dMin (.int i) (.int j) = some (.int (if j < i then j else i)) := rfl
theorem dMax_int (i j : Int) : dMax (.int i) (.int j) = some (.int (if j > i then j else i)) := rfl
theorem dStrI_int (i : Int) : dStrI (.int i) = if i.natAbs.log2 < 1920 then some (.str (ofS (toString i))) else none := rfl
end Fw
/-! # plain laws of the mirrors' operators -/
namespace Fw
open PySem PySem.Spec PyProof.Rows L2
theorem eqV_str (a b : List Nat) : eqV (.str (tr a)) (.str (tr b)) = decide (a = b) := by
  by_cases h : a = b
  · subst h
    simp [eqV]
  · have h2 : tr a ≠ tr b := fun z => h (tr_inj z)
    simp [eqV, h, h2]
theorem atoms_strs : ∀ es : List (List Nat), atoms (es.map D.str) = some ((es.map tr).map V.str)
  | [] => rfl
  | e :: es => by
    show ((some (V.str (tr e))).bind fun u => (atoms (es.map D.str)).map fun us => u :: us) = _
    rw [atoms_strs es]
    rfl
theorem inV_strs (t : List Nat) : ∀ es : List (List Nat), inV (.str (tr t)) ((es.map tr).map V.str) = decide (t ∈ es)
  | [] => by
    unfold inV
    simp
  | e :: es => by
    have ih := inV_strs t es
    unfold inV at ih ⊢
    rw [List.map_cons, List.map_cons, List.any_cons, ih, eqV_str]
    by_cases h : e = t
    · simp [h]
    · have h2 : ¬ t = e := fun z => h z.symm
      simp [h, h2]
theorem inDB_tup (t : List Nat) (ds : List D) : inDB (.str t) (.tup ds) = inSeq (.str t) (.tup ds) := by
  cases t with
  | nil => rfl
  | cons c t => cases t <;> rfl
theorem inDB_lst (t : List Nat) (ds : List D) : inDB (.str t) (.lst ds) = inSeq (.str t) (.lst ds) := by
  cases t with
  | nil => rfl
  | cons c t => cases t <;> rfl
theorem dIn_tup (t : List Nat) (es : List (List Nat)) : dIn (.str t) (.tup (es.map D.str)) = some (.bl (decide (t ∈ es))) := by
  unfold dIn
  rw [inDB_tup]
  unfold inSeq
  show Option.map D.bl ((some (es.map D.str)).bind fun ds => (some (V.str (tr t))).bind fun u => (atoms ds).map fun us => inV u us) = _
  rw [Option.bind_some, Option.bind_some, atoms_strs]
  show some (D.bl (inV (.str (tr t)) ((es.map tr).map V.str))) = _
  rw [inV_strs]
theorem dIn_lst (t : List Nat) (es : List (List Nat)) : dIn (.str t) (.lst (es.map D.str)) = some (.bl (decide (t ∈ es))) := by
  unfold dIn
  rw [inDB_lst]
  unfold inSeq
  show Option.map D.bl ((some (es.map D.str)).bind fun ds => (some (V.str (tr t))).bind fun u => (atoms ds).map fun us => inV u us) = _
  rw [Option.bind_some, Option.bind_some, atoms_strs]
  show some (D.bl (inV (.str (tr t)) ((es.map tr).map V.str))) = _
  rw [inV_strs]
theorem dNotIn_tup (t : List Nat) (es : List (List Nat)) : dNotIn (.str t) (.tup (es.map D.str)) = some (.bl (!decide (t ∈ es))) := by
  have h := dIn_tup t es
  unfold dIn at h
  obtain ⟨b, h1, h2⟩ := map_some h
  unfold dNotIn
  rw [h1]
  injection h2 with h2
  rw [← h2]
  rfl
theorem dNotIn_lst (t : List Nat) (es : List (List Nat)) : dNotIn (.str t) (.lst (es.map D.str)) = some (.bl (!decide (t ∈ es))) := by
  have h := dIn_lst t es
  unfold dIn at h
  obtain ⟨b, h1, h2⟩ := map_some h
  unfold dNotIn
  rw [h1]
  injection h2 with h2
  rw [← h2]
  rfl
theorem dIn_sign (c : Nat) (z : List Nat) : dIn (.str [c]) (.str z) = some (.bl (decide (c ∈ z))) := rfl
theorem dNotIn_sign (c : Nat) (z : List Nat) : dNotIn (.str [c]) (.str z) = some (.bl (!decide (c ∈ z))) := rfl
theorem boolsD_map : ∀ bs : List Bool, boolsD (bs.map D.bl) = some bs
  | [] => rfl
  | b :: bs => by
    show (boolsD (bs.map D.bl)).map (fun bs => b :: bs) = _
    rw [boolsD_map bs]
    rfl
theorem starts_take (e t : List Nat) : Txt.startswith (tr e) (tr t) = decide (e.take t.length = t) := by
  unfold Txt.startswith Builtin.Str.subAt
  rw [tr_length, tr_length, Nat.zero_add]
  show (decide (t.length ≤ e.length) && ((e.toArray.extract 0 t.length) == t.toArray)) = _
  rw [List.extract_toArray]
  have h1 : e.extract 0 t.length = e.take t.length := by
    rw [List.extract_eq_take_drop, List.drop_zero, Nat.sub_zero]
  rw [h1]
  by_cases h : e.take t.length = t
  · have hl : t.length ≤ e.length := by
      have := congrArg List.length h
      rw [List.length_take] at this
      omega
    rw [decide_eq_true h, decide_eq_true hl, h]
    simp
  · rw [decide_eq_false h]
    have h2 : ((e.take t.length).toArray == t.toArray) = false := by
      apply beq_eq_false_iff_ne.mpr
      intro z
      exact h (by simpa using z)
    rw [h2, Bool.and_false]
/-! ### equal trees -/
def cok (s : List Nat) : Bool := s.all fun c => decide (c < 1114112)
mutual
/-- trees without truths and instances, at most h deep, of signs -/
def pl : Nat → D → Bool
  | _, .non => true
  | _, .int _ => true
  | _, .str s => cok s
  | h + 1, .tup ds => plL h ds
  | h + 1, .lst ds => plL h ds
  | _, _ => false
def plL : Nat → List D → Bool
  | _, [] => true
  | h, d :: ds => pl h d && plL h ds
end
theorem strOk_tr {s : List Nat} (h : cok s = true) : PyData.canLay0 (.str (tr s)) = true := by
  show (tr s).cps.all (· < 0x110000) = true
  unfold cok at h
  rw [List.all_eq_true] at h
  rw [Array.all_eq_true]
  intro i hi
  have : s[i]'(by simpa using hi) ∈ s := List.getElem_mem _
  have := h _ this
  simpa using this
mutual
theorem pl_toP : ∀ (h : Nat) (d : D), pl h d = true → ∃ p, toP d = some p ∧ p.canLay0 = true ∧ p.depth ≤ h
  | _, .non, _ => ⟨_, rfl, rfl, by unfold PyData.depth; exact Nat.zero_le _⟩
  | _, .int i, _ => ⟨_, rfl, rfl, by unfold PyData.depth; exact Nat.zero_le _⟩
  | h, .str s, e => ⟨_, rfl, strOk_tr (by cases h <;> exact e), by unfold PyData.depth; exact Nat.zero_le _⟩
  | 0, .tup ds, e => by cases e
  | 0, .lst ds, e => by cases e
  | h + 1, .tup ds, e => by
    obtain ⟨ps, h1, h2, h3⟩ := plL_toP h ds e
    refine ⟨.tuple ps, ?_, ?_, ?_⟩
    · show (toPL ds).map PyData.tuple = _
      rw [h1]
      rfl
    · unfold PyData.canLay0
      exact h2
    · unfold PyData.depth
      omega
  | h + 1, .lst ds, e => by
    obtain ⟨ps, h1, h2, h3⟩ := plL_toP h ds e
    refine ⟨.list ps, ?_, ?_, ?_⟩
    · show (toPL ds).map PyData.list = _
      rw [h1]
      rfl
    · unfold PyData.canLay0
      exact h2
    · unfold PyData.depth
      omega
  | h, .bl _, e => by cases h <;> cases e
  | h, .ml _, e => by cases h <;> cases e
  | h, .obj _ _ _, e => by cases h <;> cases e
  | h, .fo _ _ _, e => by cases h <;> cases e
  | h, .ref _, e => by cases h <;> cases e
  | h, .un, e => by cases h <;> cases e
theorem plL_toP : ∀ (h : Nat) (ds : List D), plL h ds = true → ∃ ps, toPL ds = some ps ∧ PyData.canLayAll0 ps = true ∧ PyData.depthAll ps ≤ h
  | _, [], _ => ⟨[], rfl, rfl, by unfold PyData.depthAll; exact Nat.zero_le _⟩
  | h, d :: ds, e => by
    obtain ⟨a, b⟩ := Bool.and_eq_true_iff.mp (show (pl h d && plL h ds) = true by unfold plL at e; exact e)
    obtain ⟨p, h1, h2, h3⟩ := pl_toP h d a
    obtain ⟨ps, h4, h5, h6⟩ := plL_toP h ds b
    refine ⟨p :: ps, ?_, ?_, ?_⟩
    · show ((toP d).bind fun p => (toPL ds).map fun ps => p :: ps) = _
      rw [h1, h4]
      rfl
    · unfold PyData.canLayAll0
      rw [h2, h5]
      rfl
    · unfold PyData.depthAll
      omega
end
mutual
theorem eqv_pl : ∀ (x y : D) (h h' : Nat) (p q : PyData), pl h x = true → pl h' y = true → toP x = some p → toP y = some q → (PyData.eqv p q = true ↔ x = y)
  | .non, y, h, h', p, q, hx, hy, e1, e2 => by
    cases e1
    cases y <;> first
      | (cases h' <;> cases hy; done)
      | (cases e2; simp [PyData.eqv]; done)
      | (obtain ⟨z, _, rfl⟩ := map_some e2; simp [PyData.eqv])
  | .int i, y, h, h', p, q, hx, hy, e1, e2 => by
    cases e1
    cases y <;> first
      | (cases h' <;> cases hy; done)
      | (cases e2; simp [PyData.eqv]; done)
      | (obtain ⟨z, _, rfl⟩ := map_some e2; simp [PyData.eqv])
  | .str s, y, h, h', p, q, hx, hy, e1, e2 => by
    cases e1
    cases y <;> first
      | (cases h' <;> cases hy; done)
      | (cases e2
         simp only [PyData.eqv, beq_iff_eq, D.str.injEq]
         exact ⟨tr_inj, fun z => by rw [z]⟩)
      | (cases e2; simp [PyData.eqv]; done)
      | (obtain ⟨z, _, rfl⟩ := map_some e2; simp [PyData.eqv])
  | .tup xs, y, h, h', p, q, hx, hy, e1, e2 => by
    obtain ⟨ps, e3, rfl⟩ := map_some e1
    cases h with
    | zero => cases hx
    | succ h =>
      cases y with
      | tup ys =>
        cases h' with
        | zero => cases hy
        | succ h' =>
          obtain ⟨qs, e4, rfl⟩ := map_some e2
          have := eqvL_pl xs ys h h' ps qs hx hy e3 e4
          simp only [PyData.eqv, D.tup.injEq]
          exact this
      | lst ys =>
        obtain ⟨qs, e4, rfl⟩ := map_some e2
        simp [PyData.eqv]
      | non => cases e2; simp [PyData.eqv]
      | int i => cases e2; simp [PyData.eqv]
      | str s => cases e2; simp [PyData.eqv]
      | _ => cases h' <;> cases hy
  | .lst xs, y, h, h', p, q, hx, hy, e1, e2 => by
    obtain ⟨ps, e3, rfl⟩ := map_some e1
    cases h with
    | zero => cases hx
    | succ h =>
      cases y with
      | lst ys =>
        cases h' with
        | zero => cases hy
        | succ h' =>
          obtain ⟨qs, e4, rfl⟩ := map_some e2
          have := eqvL_pl xs ys h h' ps qs hx hy e3 e4
          simp only [PyData.eqv, D.lst.injEq]
          exact this
      | tup ys =>
        obtain ⟨qs, e4, rfl⟩ := map_some e2
        simp [PyData.eqv]
      | non => cases e2; simp [PyData.eqv]
      | int i => cases e2; simp [PyData.eqv]
      | str s => cases e2; simp [PyData.eqv]
      | _ => cases h' <;> cases hy
  | .bl _, _, h, _, _, _, hx, _, _, _ => by cases h <;> cases hx
  | .ml _, _, h, _, _, _, hx, _, _, _ => by cases h <;> cases hx
  | .obj _ _ _, _, h, _, _, _, hx, _, _, _ => by cases h <;> cases hx
  | .fo _ _ _, _, h, _, _, _, hx, _, _, _ => by cases h <;> cases hx
  | .ref _, _, h, _, _, _, hx, _, _, _ => by cases h <;> cases hx
  | .un, _, h, _, _, _, hx, _, _, _ => by cases h <;> cases hx
theorem eqvL_pl : ∀ (xs ys : List D) (h h' : Nat) (ps qs : List PyData), plL h xs = true → plL h' ys = true → toPL xs = some ps → toPL ys = some qs → (PyData.eqvAll ps qs = true ↔ xs = ys)
  | [], [], _, _, _, _, _, _, e1, e2 => by
    cases e1
    cases e2
    simp [PyData.eqvAll]
  | [], y :: ys, _, _, _, _, _, _, e1, e2 => by
    cases e1
    obtain ⟨p, _, e2⟩ := bind_some e2
    obtain ⟨ps, _, rfl⟩ := map_some e2
    simp [PyData.eqvAll]
  | x :: xs, [], _, _, _, _, _, _, e1, e2 => by
    cases e2
    obtain ⟨p, _, e1⟩ := bind_some e1
    obtain ⟨ps, _, rfl⟩ := map_some e1
    simp [PyData.eqvAll]
  | x :: xs, y :: ys, h, h', _, _, hx, hy, e1, e2 => by
    unfold plL at hx hy
    obtain ⟨a1, b1⟩ := Bool.and_eq_true_iff.mp hx
    obtain ⟨a2, b2⟩ := Bool.and_eq_true_iff.mp hy
    obtain ⟨p, p1, e1⟩ := bind_some e1
    obtain ⟨ps, p2, rfl⟩ := map_some e1
    obtain ⟨q, q1, e2⟩ := bind_some e2
    obtain ⟨qs, q2, rfl⟩ := map_some e2
    have h1 := eqv_pl x y h h' p q a1 a2 p1 q1
    have h2 := eqvL_pl xs ys h h' ps qs b1 b2 p2 q2
    simp only [PyData.eqvAll, Bool.and_eq_true, List.cons.injEq, h1, h2]
end
/-- equality of plain trees -/
theorem eqDB_pl {x y : D} {h h' : Nat} (hx : pl h x = true) (hy : pl h' y = true) (hh : h ≤ 60) (hh' : h' ≤ 60) : ∃ b, eqDB x y = some b ∧ (b = true ↔ x = y) := by
  obtain ⟨p, p1, p2, p3⟩ := pl_toP h x hx
  obtain ⟨q, q1, q2, q3⟩ := pl_toP h' y hy
  have gen : ∀ u v, atom x = some u → atom y = some v → ∃ b, (if scal u v = true then some (decide (u = v)) else none) = some b ∧ (b = true ↔ x = y) := by
    intro u v e1 e2
    cases x <;> first
      | (cases h <;> cases hx; done)
      | (cases e1; done)
      | (cases e1
         cases y <;> first
          | (cases h' <;> cases hy; done)
          | (cases e2; done)
          | (cases e2
             refine ⟨_, if_pos rfl, ?_⟩
             rw [decide_eq_true_iff]
             constructor
             · intro z
               first
                | rfl
                | (cases z; done)
                | (injection z with z; rw [z]; done)
                | (injection z with z; rw [tr_inj z])
             · intro z
               first
                | rfl
                | (cases z; done)
                | (injection z with z; rw [z])))
  unfold eqDB
  have sh : ∀ {p : PyData} {h : Nat}, p.canLay0 = true → p.depth ≤ h → h ≤ 60 → SeqAt.shaped p = true := fun h1 h2 h3 => Bool.and_eq_true_iff.mpr ⟨h1, decide_eq_true (by omega)⟩
  have rest : ∃ b, ((toP x).bind fun p => (toP y).bind fun q => if SeqAt.shaped p = true ∧ SeqAt.shaped q = true then some (PyData.eqv p q) else none) = some b ∧ (b = true ↔ x = y) := by
    rw [p1, q1, Option.bind_some, Option.bind_some, if_pos ⟨sh p2 p3 hh, sh q2 q3 hh'⟩]
    exact ⟨_, rfl, eqv_pl x y h h' p q hx hy p1 q1⟩
  cases e1 : atom x with
  | none => exact rest
  | some u =>
    cases e2 : atom y with
    | none => exact rest
    | some v => exact gen u v e1 e2
theorem dEq_pl {x y : D} {h h' : Nat} (hx : pl h x = true) (hy : pl h' y = true) (hh : h ≤ 60) (hh' : h' ≤ 60) : ∃ b, dEq x y = some (.bl b) ∧ (b = true ↔ x = y) := by
  obtain ⟨b, h1, h2⟩ := eqDB_pl hx hy hh hh'
  exact ⟨b, by unfold dEq; rw [h1]; rfl, h2⟩
theorem dNe_pl {x y : D} {h h' : Nat} (hx : pl h x = true) (hy : pl h' y = true) (hh : h ≤ 60) (hh' : h' ≤ 60) : ∃ b, dNe x y = some (.bl (!b)) ∧ (b = true ↔ x = y) := by
  obtain ⟨b, h1, h2⟩ := eqDB_pl hx hy hh hh'
  exact ⟨b, by unfold dNe; rw [h1]; rfl, h2⟩
theorem dEq_of {x y : D} {h h' : Nat} (hx : pl h x = true) (hy : pl h' y = true) (hh : h ≤ 60) (hh' : h' ≤ 60) (e : x = y) : dEq x y = some (.bl true) := by
  obtain ⟨b, h1, h2⟩ := dEq_pl hx hy hh hh'
  rw [h1, h2.mpr e]
theorem dNe_of {x y : D} {h h' : Nat} (hx : pl h x = true) (hy : pl h' y = true) (hh : h ≤ 60) (hh' : h' ≤ 60) (e : x = y) : dNe x y = some (.bl false) := by
  obtain ⟨b, h1, h2⟩ := dNe_pl hx hy hh hh'
  rw [h1, h2.mpr e]
  rfl
/-! ### comprehensions -/
section
variable {g : D → List D → Option (List D)} {t : FB} {f : FQ} {ρ μ : List D}
theorem lcL_map {α : Type} (A : α → D) (T : α → Bool) (Y : α → D) : ∀ (as : List α), (∀ a ∈ as, ∃ ρ', g (A a) ρ = some ρ' ∧ t ρ' μ = some (T a) ∧ (T a = true → f ρ' μ = some (Y a) ∧ data (Y a) = true)) → lcL g t f ρ μ (as.map A) = some ((as.filter T).map Y)
  | [], _ => rfl
  | a :: as, h => by
    obtain ⟨ρ', h1, h2, h3⟩ := h a (List.mem_cons_self ..)
    have ih := lcL_map A T Y as fun b hb => h b (List.mem_cons_of_mem _ hb)
    rw [List.map_cons]
    unfold lcL
    rw [h1, Option.bind_some, h2, Option.bind_some]
    by_cases ht : T a = true
    · obtain ⟨h4, h5⟩ := h3 ht
      rw [if_pos ht, h4, Option.bind_some, if_pos h5, ih, List.filter_cons_of_pos ht]
      rfl
    · rw [if_neg ht, ih, List.filter_cons_of_neg ht]
end
theorem qLc_eq (it : FA) (g : D → List D → Option (List D)) (vs : List Nat) (t : FB) (f : FQ) (x0 : D) (ρ μ : List D) : qLc it g vs t f (x0 :: ρ) μ = (it (x0 :: ρ) μ).bind fun ds => if ds.length ≤ LIM then lcL g t f (wipeD (x0 :: ρ) vs) μ ds else none := rfl
theorem wipeD_nil (ρ : List D) : wipeD ρ [] = ρ := rfl
theorem wipeD_cons (ρ : List D) (v : Nat) (vs : List Nat) : wipeD ρ (v :: vs) = (wipeD ρ vs).set v .un := rfl
theorem bYes_eq (x0 : D) (ρ μ : List D) : bYes (x0 :: ρ) μ = some true := rfl
theorem itemsQ_ml (ds : List D) : itemsQ (.ml ds) = if dataL ds = true then some ds else none := rfl
theorem itemsQ_lst (ds : List D) : itemsQ (.lst ds) = some ds := rfl
theorem itemsQ_tup (ds : List D) : itemsQ (.tup ds) = if dataL ds = true then some ds else none := rfl
theorem itemsQ_str (s : List Nat) : itemsQ (.str s) = some (s.map fun c => .str [c]) := rfl
theorem dIs_bl (a b : Bool) : dIs (.bl a) (.bl b) = some (.bl (decide (a = b))) := rfl
theorem dIsNot_bl (a b : Bool) : dIsNot (.bl a) (.bl b) = some (.bl (!decide (a = b))) := rfl
theorem dIs_nn : dIs .non .non = some (.bl true) := rfl
theorem dIsNot_nn : dIsNot .non .non = some (.bl false) := rfl
theorem asL_lst (ds : List D) : asL (.lst ds) = some ds := rfl
theorem noLL_nil : noLL [] = true := rfl
theorem noLL_cons (d : D) (ds : List D) : noLL (d :: ds) = (noL d && noLL ds) := rfl
theorem noL_str (s : List Nat) : noL (.str s) = true := rfl
theorem noL_int (s : Int) : noL (.int s) = true := rfl
theorem noL_bl (s : Bool) : noL (.bl s) = true := rfl
theorem noL_non : noL .non = true := rfl
theorem noL_tup (ds : List D) : noL (.tup ds) = noLL ds := rfl
theorem fzL_strs : ∀ es : List (List Nat), fzL (es.map D.str) = es.map D.str
  | [] => rfl
  | e :: es => congrArg (D.str e :: ·) (fzL_strs es)
theorem fzL_ints : ∀ es : List Int, fzL (es.map D.int) = es.map D.int
  | [] => rfl
  | e :: es => congrArg (D.int e :: ·) (fzL_ints es)
end Fw
/-! # C.m(x, ..): a def read off an own class -/
namespace Fw
open PySem PySem.Spec PyProof.Rows L2
/-- what the class must have for that -/
def baseB (K : PySem.W.Frag) (c m : Str) : Bool := PySem.W.readsIn K (He.ga K c) (.type "type") && (decide (PySem.W.specialIn K (.ref (He.ga K c)) "__getattribute__" = some (some (.builtin "type.__getattribute__"))) && ((match PySem.W.findCls K (.ref (He.ga K c)) (.type "type") m with
  | some (.val v) => decide (v = .ref (He.ma K (He.ga K c) m))
  | _ => false) && (PySem.W.handedIn (.ref (He.ma K (He.ga K c) m)) && PySem.W.keepIn K (.ref (He.ma K (He.ga K c) m)))))
def OkB (P : Program) (w : World) (K : PySem.W.Frag) (mg : Str → Option Value) (base : Heap) (c m : Str) (k n : Nat) (run : RX) : Prop :=
  ∃ (fd : FuncData) (ps : List Str), FnOk P w K mg base (L2N.CX P w) k (He.ma K (He.ga K c) m) fd ps (spX K n run) ∧ Binds K fd ps [] ∧ mg c = some (.ref (He.ga K c)) ∧ baseB K c m = true
section
variable {X : Cx} {Wx : WX} {e : Expr} {es : List Expr} {p apos pos : Pos} {kf : FXA} {c m : Str} {k n : Nat} {run : RX}
theorem px_base {pl : Sem Bool} (O : OkB X.prog X.w X.K X.mg X.base c m k n run) (hr : Room k X.A) (tk : L2N.Takes X Wx) (ha : PAX X Wx (e :: es) kf) (hg : Gl X c := by rfl) (hdb : (c == ("__debug__" : Str)) = false := by decide)
    (hst : starEach (e :: es) X.env = (false, eval e X.env) :: starEach es X.env := by rfl) (hpl : (backTo pos (starEach es X.env)).any (·.1) = false := by rfl)
    (ht : eval (.Call (.Attribute (.Name c p) m apos) (e :: es) [] pos) X.env = (do
      let ov ← eval (.Name c p) X.env
      standAt apos.atName
      let (f, first) ← holding [ov] (getMethod ov m pl)
      callWith pos f first (backTo pos (starEach (e :: es) X.env)) (backToKw pos (keywordEach [] X.env))) := by rfl) :
    PX X Wx (.Call (.Attribute (.Name c p) m apos) (e :: es) [] pos) (xRun n [] run kf) := by
  obtain ⟨fd, ps, hF, hb, hm, hB⟩ := O
  obtain ⟨t, pt, k1⟩ := ha
  obtain ⟨b1, hB⟩ := Bool.and_eq_true_iff.mp hB
  obtain ⟨b2, hB⟩ := Bool.and_eq_true_iff.mp hB
  obtain ⟨b3, hB⟩ := Bool.and_eq_true_iff.mp hB
  obtain ⟨b4, b5⟩ := Bool.and_eq_true_iff.mp hB
  have b2' := of_decide_eq_true b2
  have b3' : PySem.W.findCls X.K (.ref (He.ga X.K c)) (.type "type") m = some (.val (.ref (He.ma X.K (He.ga X.K c) m))) := by
    cases q : PySem.W.findCls X.K (.ref (He.ga X.K c)) (.type "type") m with
    | none => rw [q] at b3; cases b3
    | some r =>
      rw [q] at b3
      cases r with
      | val v => rw [of_decide_eq_true b3]
      | get _ _ _ _ => cases b3
  refine ⟨fun σ H Q => t σ H fun vs H1 => spX X.K n run (vs ++ []) H1 Q (WE Wx σ), ⟨fun pins s σ H Q I h => ?_⟩, fun σ W ρ μ F S o ho Q hQ => ?_⟩
  · refine PySem.W.methodCall_KW (pl := pl) (ld_glob I hg hm ?_ hdb) ht
    refine PySem.W.method_cls I.kIn b2' (PySem.W.cls_value I.kIn b1 b3' b4 ?_)
    refine PySem.W.callWith_K (h₀ := X.base) I.ok.mod.kin b5 (thn (pt.run pos pins _ σ H _ (I.tok _) h) fun us s1 ⟨vs, H1, I1, r, q⟩ => ⟨I1.kIn, ?_⟩) hst hpl
    exact run_fnSD hF hr hb .nil (L2N.passAt tk σ) I1 r q
  · obtain ⟨o1, e1, ho⟩ := bind_some ho
    refine k1 σ W ρ μ F S o1 e1 _ ?_
    cases o1 with
    | ok as ρ1 μ1 =>
      intro vs W1 F1 r S1 mv
      obtain ⟨z, e2, ho⟩ := bind_some (show (mo as ρ1).bind (fun z => if (z.1 ++ []).length = n then (run (z.1 ++ []) μ1).bind (xPut fun ys => mi as z.2 (ys.take z.1.length)) else none) = some o from ho)
      obtain ⟨ds, ρr⟩ := z
      by_cases hl : (ds ++ []).length = n
      case neg => rw [if_neg hl] at ho; cases ho
      rw [if_pos hl] at ho
      obtain ⟨o2, e3, ho⟩ := bind_some ho
      have fo := (foc_args S1 r e2).trans fun Fc Sc => foc_vals (ds := []) (vs := []) Sc ⟨rfl, rfl⟩
      rw [← List.map_append] at fo
      exact spX_of fo hl e3 ho (hQ.after mv)
    | ex c fs ρ1 μ1 =>
      cases ho
      exact hQ
end
/-! ### -e -/
def dNeg : D → Option D
  | .int i => some (.int (-i))
  | _ => none
theorem pq_neg {X : Cx} {e : Expr} {pos : Pos} {f : FQ} (h : PQ X e f) : PQ X (.UnaryOp .USub e pos) (q1 dNeg f) := by
  obtain ⟨te, p, k⟩ := h
  refine ⟨_, pe_un un_neg p, fun σ W ρ μ F S d hd Q q => ?_⟩
  obtain ⟨x, e1, hd⟩ := bind_some hd
  refine k σ W ρ μ F S x e1 _ fun v W1 G x1 r1 => ?_
  cases x with
  | int i =>
    cases hd
    obtain ⟨rfl, _⟩ := r1
    exact ⟨i, rfl, q _ W1 [] x1 ⟨rfl, rfl⟩⟩
  | _ => cases hd
theorem q1_eq (o : D → Option D) (f : FQ) (x0 : D) (ρ μ : List D) : q1 o f (x0 :: ρ) μ = (f (x0 :: ρ) μ).bind o := rfl
theorem dNeg_int (i : Int) : dNeg (.int i) = some (.int (-i)) := rfl
end Fw
/-! # slots seen otherwise: what is not asked any more is wiped; runs without a promise -/
namespace Fw
open PySem PySem.Spec PyProof.Rows L2
open Evl (Ex)
/-- slots may be seen so: the world stays -/
def Rly (p : List D → List D) : Prop := ∀ (K : PySem.W.Frag) (W : Wd) (σ : L2.St) (ρ μ : List D) (F : List Addr), Sta K W σ ρ μ F → ∃ W' F', W'.H = W.H ∧ Sta K W' σ (p ρ) μ F' ∧ Mv W W' F F'
theorem rly_id : Rly fun ρ => ρ := fun _ W _ _ _ F S => ⟨W, F, rfl, S, (Ext.refl S.ok).mvr⟩
theorem Rly.comp {p q : List D → List D} (hp : Rly p) (hq : Rly q) : Rly fun ρ => q (p ρ) := fun K W σ ρ μ F S => by
  obtain ⟨W1, F1, e1, S1, m1⟩ := hp K W σ ρ μ F S
  obtain ⟨W2, F2, e2, S2, m2⟩ := hq K W1 σ _ μ F1 S1
  exact ⟨W2, F2, e2.trans e1, S2, m1.trans m2⟩
theorem set_oob {α : Type} {l : List α} {i : Nat} {x : α} (h : l.length ≤ i) : l.set i x = l := List.set_eq_of_length_le h
theorem rly_un (i : Nat) : Rly fun ρ => ρ.set i .un := fun K W σ ρ μ F S => by
  have hl := S.len
  by_cases hi : i < σ.length
  · have g : R1 K W .un (σ[i]) [] := rfl
    obtain ⟨F', S', sub⟩ := S.set (i := i) g
    have e : σ.set i σ[i] = σ := set_self (List.getElem?_eq_getElem hi)
    rw [e] at S'
    exact ⟨W, F', rfl, S', (Ext.refl S.ok).mv sub⟩
  · refine ⟨W, F, rfl, ?_, (Ext.refl S.ok).mvr⟩
    have e : ρ.set i .un = ρ := set_oob (by omega)
    show Sta K W σ (ρ.set i .un) μ F
    rw [e]
    exact S
theorem rly_wipe : ∀ vs : List Nat, Rly fun ρ => wipeD ρ vs
  | [] => rly_id
  | v :: vs => (rly_wipe vs).comp (rly_un v)
theorem rly_fz (i : Nat) : Rly (fzAt i) := fun K W σ ρ μ F S => S.fz i
/-- what stands behind a statement, seen so -/
def postO (p : List D → List D) : SO → SO
  | .nx ρ μ => .nx (p ρ) μ
  | .ct ρ μ => .ct (p ρ) μ
  | .bk ρ μ => .bk (p ρ) μ
  | o => o
def fPost (p : List D → List D) (f : FS) : FS := fun ρ μ => (f ρ μ).map (postO p)
def fPre (p : List D → List D) (f : FS) : FS := fun ρ μ => f (p ρ) μ
theorem Goes.post {p : List D → List D} (hp : Rly p) {K : PySem.W.Frag} {ob : List Nat} {Wx : WX} {E : Ends} {σ : L2.St} {W : Wd} {F : List Addr} {o : SO} (h : Goes K ob Wx E σ W F (postO p o)) : Goes K ob Wx E σ W F o := by
  cases o with
  | nx ρ μ =>
    intro σ' W' F' S m k
    obtain ⟨W2, F2, e, S2, m2⟩ := hp K W' σ' ρ μ F' S
    have := h σ' W2 F2 S2 (m.trans m2) k
    rw [e] at this
    exact this
  | ct ρ μ =>
    intro σ' W' F' S m k
    obtain ⟨W2, F2, e, S2, m2⟩ := hp K W' σ' ρ μ F' S
    have := h σ' W2 F2 S2 (m.trans m2) k
    rw [e] at this
    exact this
  | bk ρ μ =>
    intro σ' W' F' S m k
    obtain ⟨W2, F2, e, S2, m2⟩ := hp K W' σ' ρ μ F' S
    have := h σ' W2 F2 S2 (m.trans m2) k
    rw [e] at this
    exact this
  | rt d ρ μ => exact h
  | ex c fs ρ μ => exact h
section
variable {X : Cx} {ob : List Nat} {Wx : WX} {st : Stmt} {ss : List Stmt} {f : FS} {p : List D → List D}
theorem pss_post (hp : Rly p) (h : PSS X ob Wx ss f) : PSS X ob Wx ss (fPost p f) := by
  obtain ⟨ts, q, k⟩ := h
  refine ⟨ts, q, fun E σ W ρ μ F S o ho hg => ?_⟩
  obtain ⟨o', e, rfl⟩ := map_some ho
  exact k E σ W ρ μ F S o' e (Goes.post hp hg)
theorem ps1_post (hp : Rly p) (h : PS1 X ob Wx st f) : PS1 X ob Wx st (fPost p f) := by
  obtain ⟨ts, q, k⟩ := h
  refine ⟨ts, q, fun E σ W ρ μ F S o ho hg => ?_⟩
  obtain ⟨o', e, rfl⟩ := map_some ho
  exact k E σ W ρ μ F S o' e (Goes.post hp hg)
theorem ps1_pre (hp : Rly p) (h : PS1 X ob Wx st f) : PS1 X ob Wx st (fPre p f) := by
  obtain ⟨ts, q, k⟩ := h
  refine ⟨ts, q, fun E σ W ρ μ F S o ho hg => ?_⟩
  obtain ⟨W2, F2, e, S2, m2⟩ := hp X.K W σ ρ μ F S
  have := k E σ W2 (p ρ) μ F2 S2 o ho (hg.after m2 Kept.refl)
  rw [e] at this
  exact this
/-- slots wiped behind, ahead -/
abbrev fWp (vs : List Nat) (f : FS) : FS := fPost (fun ρ => wipeD ρ vs) f
abbrev fPw (vs : List Nat) (f : FS) : FS := fPre (fun ρ => wipeD ρ vs) f
abbrev fPf (i : Nat) (f : FS) : FS := fPost (fzAt i) f
theorem pss_wp (vs : List Nat) (h : PSS X ob Wx ss f) : PSS X ob Wx ss (fWp vs f) := pss_post (rly_wipe vs) h
theorem ps1_wp (vs : List Nat) (h : PS1 X ob Wx st f) : PS1 X ob Wx st (fWp vs f) := ps1_post (rly_wipe vs) h
theorem ps1_pw (vs : List Nat) (h : PS1 X ob Wx st f) : PS1 X ob Wx st (fPw vs f) := ps1_pre (rly_wipe vs) h
theorem ps1_pf (i : Nat) (h : PS1 X ob Wx st f) : PS1 X ob Wx st (fPf i f) := ps1_post (rly_fz i) h
end
/-! ### runs that promise nothing -/
theorem fnok_no {P : Program} {w : World} {K : PySem.W.Frag} {mg : Str → Option Value} {base : Heap} {CX : CXT} {k : Nat} {f : Addr} {fd : FuncData} {ps : List Str} {sp : Sp} (h : ∀ vs H Q E, ¬ sp vs H Q E) : FnOk P w K mg base CX k f fd ps sp :=
  ⟨fun vs H Q E q => (h vs H Q E q).elim, fun A outer s H args us vs Q E hr he hb hv hs => (h vs H Q E hs).elim⟩
theorem spQ_no {K : PySem.W.Frag} {n : Nat} : ∀ vs H Q E, ¬ spQ K n (fun _ => none) vs H Q E := by
  rintro vs H Q E ⟨W, ds, d, _, _, _, _, _, _, h, _⟩
  cases h
theorem spF_no {K : PySem.W.Frag} {n : Nat} : ∀ vs H Q E, ¬ spF K n (fun _ _ => none) vs H Q E := by
  rintro vs H Q E ⟨W, ds, μ, d, _, _, _, _, _, h, _⟩
  cases h
theorem spX_no {K : PySem.W.Frag} {n : Nat} : ∀ vs H Q E, ¬ spX K n (fun _ _ => none) vs H Q E := by
  rintro vs H Q E ⟨W, ds, μ, F, o, _, _, _, h, _⟩
  cases h
end Fw
/-! # a mirror reckoned: the rules as one -/
namespace Fw
open PySem PySem.Spec PyProof.Rows L2
/-! ### a choice is handed on -/
section
variable {c : Prop} [Decidable c]
def postK (p : List D → List D) (o : Option SO) : Option SO := o.map (postO p)
theorem seqK_ite (a b : Option SO) (g : FS) : seqK (if c then a else b) g = if c then seqK a g else seqK b g := by split <;> rfl
theorem turnK_ite (a b : Option SO) (g : D → List D → Option (List D)) (f : FS) (ds : List D) : turnK g f ds (if c then a else b) = if c then turnK g f ds a else turnK g f ds b := by split <;> rfl
theorem endK_ite (a b : Option SO) : endK (if c then a else b) = if c then endK a else endK b := by split <;> rfl
theorem rF_ite (a b : Option SO) : rF (if c then a else b) = if c then rF a else rF b := by split <;> rfl
theorem rX_ite (a b : Option SO) (ks : List Bool) (ds : List D) : rX ks ds (if c then a else b) = if c then rX ks ds a else rX ks ds b := by split <;> rfl
theorem varK_ite (a b : Option D) : varK (if c then a else b) = if c then varK a else varK b := by split <;> rfl
theorem blK_ite (a b : Option D) : blK (if c then a else b) = if c then blK a else blK b := by split <;> rfl
theorem andK_ite (a b r : Option D) : andK (if c then a else b) r = if c then andK a r else andK b r := by split <;> rfl
theorem orK_ite (a b r : Option D) : orK (if c then a else b) r = if c then orK a r else orK b r := by split <;> rfl
theorem notK_ite (a b : Option D) : notK (if c then a else b) = if c then notK a else notK b := by split <;> rfl
theorem osK_ite (a b : Option D) : osK (if c then a else b) = if c then osK a else osK b := by split <;> rfl
theorem m0K_ite (a b : Option D) (o : List Nat → List D → Option D) : m0K o (if c then a else b) = if c then m0K o a else m0K o b := by split <;> rfl
theorem m1K_ite (a b r : Option D) (o : List Nat → List D → Option D) : m1K o (if c then a else b) r = if c then m1K o a r else m1K o b r := by split <;> rfl
theorem rgK_ite (a b : Option D) : rgK (if c then a else b) = if c then rgK a else rgK b := by split <;> rfl
theorem eB_ite (a b : Option EO) (k : D → FX) : eB (if c then a else b) k = if c then eB a k else eB b k := by split <;> rfl
theorem eT_ite (a b : Option EO) (k : Bool → FX) : eT (if c then a else b) k = if c then eT a k else eT b k := by split <;> rfl
theorem eS_ite (a b : Option EO) (k : D → FS) : eS (if c then a else b) k = if c then eS a k else eS b k := by split <;> rfl
theorem aB_ite (a b : Option AO) (k : List AV → List D → List D → Option EO) : aB (if c then a else b) k = if c then aB a k else aB b k := by split <;> rfl
theorem eA_ite (a b : Option EO) (k : D → List D → List D → Option AO) : eA (if c then a else b) k = if c then eA a k else eA b k := by split <;> rfl
theorem aoCons_ite (a b : Option AO) (x : AV) : aoCons x (if c then a else b) = if c then aoCons x a else aoCons x b := by split <;> rfl
theorem postK_ite (a b : Option SO) (p : List D → List D) : postK p (if c then a else b) = if c then postK p a else postK p b := by split <;> rfl
theorem bind_ite {α β : Type} (a b : Option α) (f : α → Option β) : (if c then a else b).bind f = if c then a.bind f else b.bind f := by split <;> rfl
theorem map_ite {α β : Type} (a b : Option α) (f : α → β) : (if c then a else b).map f = if c then a.map f else b.map f := by split <;> rfl
theorem ite_some {α : Type} (a b : α) : (if c then some a else some b) = some (if c then a else b) := by split <;> rfl
end
theorem fPost_eq (p : List D → List D) (f : FS) (x0 : D) (ρ μ : List D) : fPost p f (x0 :: ρ) μ = postK p (f (x0 :: ρ) μ) := rfl
theorem fPre_eq (p : List D → List D) (f : FS) (x0 : D) (ρ μ : List D) : fPre p f (x0 :: ρ) μ = f (p (x0 :: ρ)) μ := rfl
theorem postK_nx (p : List D → List D) (ρ μ : List D) : postK p (some (.nx ρ μ)) = some (.nx (p ρ) μ) := rfl
theorem postK_rt (p : List D → List D) (d : D) (ρ μ : List D) : postK p (some (.rt d ρ μ)) = some (.rt d ρ μ) := rfl
theorem postK_ex (p : List D → List D) (c : Str) (fs : List (Str × D)) (ρ μ : List D) : postK p (some (.ex c fs ρ μ)) = some (.ex c fs ρ μ) := rfl
theorem fzAt_eq (i : Nat) (x0 : D) (ρ : List D) : fzAt i (x0 :: ρ) = fzK i (x0 :: ρ) (x0 :: ρ)[i]? := rfl
theorem fzK_lst (i : Nat) (ρ ds : List D) : fzK i ρ (some (.lst ds)) = ρ := rfl
/-! ### and, or where the second is asked or not -/
theorem andK_r (b : Bool) (r : Option D) : andK (some (.bl b)) r = if b = true then r else some (.bl false) := by cases b <;> rfl
theorem orK_r (b : Bool) (r : Option D) : orK (some (.bl b)) r = if b = true then some (.bl true) else r := by cases b <;> rfl
/-! ### sizes -/
theorem LIM_eq : LIM = 1000000 := rfl
theorem lk {n : Nat} (h : n ≤ 1000000) : n ≤ LIM := h
theorem dAdd_strK {a b : List Nat} (h : a.length + b.length ≤ 1000000) : dAdd (.str a) (.str b) = some (.str (a ++ b)) := by rw [dAdd_str, if_pos (lk h)]
theorem dIAdd_strK {a b : List Nat} (h : a.length + b.length ≤ 1000000) : dIAdd (.str a) (.str b) = some (.str (a ++ b)) := if_pos h
theorem dIAdd_int (a b : Int) : dIAdd (.int a) (.int b) = some (.int (a + b)) := rfl
theorem dAdd_lstK {a b : List D} (h : a.length + b.length ≤ 1000000) : dAdd (.lst a) (.lst b) = some (.lst (a ++ b)) := by rw [dAdd_lst, if_pos (lk h)]
theorem dAdd_mlstK {a b : List D} (h : dataL a = true) (h' : a.length + b.length ≤ 1000000) : dAdd (.ml a) (.lst b) = some (.lst (a ++ b)) := by rw [dAdd_mlst, if_pos h, if_pos (lk h')]
theorem dAdd_tupK {a b : List D} (h : a.length + b.length ≤ 1000000) (h1 : dataL a = true) (h2 : dataL b = true) : dAdd (.tup a) (.tup b) = some (.tup (a ++ b)) := by rw [dAdd_tup, if_pos ⟨lk h, h1, h2⟩]
theorem dLen_strK {s : List Nat} (h : s.length ≤ 1000000) : dLen (.str s) = some (.int s.length) := by rw [dLen_str, if_pos (lk h)]
theorem dSl_strK {s : List Nat} {lo hi : Option Int} (h : s.length ≤ 1000000) : dSl (.str s) lo hi = some (.str (cut s lo hi)) := by rw [dSl_str, if_pos (lk h)]
theorem dSl_tupK {ds : List D} {lo hi : Option Int} (h : dataL ds = true) : dSl (.tup ds) lo hi = some (.tup (cut ds lo hi)) := by rw [dSl_tup, if_pos h]
theorem itemsF_tupK {ds : List D} (h : dataL ds = true) : itemsF (.tup ds) = some ds := if_pos h
theorem itemsQ_tupK {ds : List D} (h : dataL ds = true) : itemsQ (.tup ds) = some ds := if_pos h
theorem itemsQ_mlK {ds : List D} (h : dataL ds = true) : itemsQ (.ml ds) = some ds := if_pos h
theorem rgK_intK {j : Int} (h : -1000000000000000000 ≤ j ∧ j < 1000000000000000000) : rgK (some (.int j)) = some (rangeD 0 j) := by
  rw [rgK_int, if_pos (small62_of (by omega) (by omega))]
theorem rg2K_intK {i j : Int} (h : -1000000000000000000 ≤ i ∧ i < 1000000000000000000) (h' : -1000000000000000000 ≤ j ∧ j < 1000000000000000000) : rg2K (.int i) (.int j) = some (rangeD i j) := by
  rw [rg2K_int, if_pos ⟨small62_of (by omega) (by omega), small62_of (by omega) (by omega)⟩]
theorem dSub_int (i j : Int) : dSub (.int i) (.int j) = some (.int (i - j)) := rfl
theorem dMul_intK {i j : Int} (h : (-18446744073709551616 < i ∧ i < 18446744073709551616) ∨ (-18446744073709551616 < j ∧ j < 18446744073709551616)) : dMul (.int i) (.int j) = some (.int (i * j)) := if_pos (c := cMul i j = true) (decide_eq_true h)
theorem dMod_intK {i j : Int} (h : 0 < j) : dMod (.int i) (.int j) = some (.int (i % j)) := if_pos (c := decide (0 < j) = true) (decide_eq_true h)
theorem dFdiv_intK {i j : Int} (h : 0 < j ∧ j < 1073741824) : dFdiv (.int i) (.int j) = some (.int (i / j)) := if_pos (c := decide (0 < j ∧ j < 1073741824) = true) (decide_eq_true h)
theorem dDivmod_intK {i j : Int} (h : 0 < j ∧ j < 1073741824) : dDivmod (.int i) (.int j) = some (.tup [.int (i / j), .int (i % j)]) := if_pos h
theorem log2_small {i : Int} (h : -1000000000000000000 ≤ i ∧ i < 1000000000000000000) : i.natAbs.log2 < 1920 := by
  have h1 : i.natAbs < 2 ^ 64 := by omega
  by_cases z : i.natAbs = 0
  · rw [z]; decide
  · exact Nat.lt_trans ((Nat.log2_lt z).mpr h1) (by decide)
theorem dStrI_intK {i : Int} (h : -1000000000000000000 ≤ i ∧ i < 1000000000000000000) : dStrI (.int i) = some (.str (ofS (toString i))) := if_pos (log2_small h)
/-! ### items -/
theorem ixAt_lit {α : Type} (xs : List α) (n : Nat) : ixAt xs (OfNat.ofNat n : Int) = xs[n]? := ixAt_nat xs n
theorem ixAt_natc {α : Type} (xs : List α) (n : Nat) : ixAt xs (n : Int) = xs[n]? := ixAt_nat xs n
theorem ixAt_m1 {α : Type} (xs : List α) : ixAt xs (-1) = xs.getLast? := by
  unfold ixAt
  rw [if_neg (by decide), List.getLast?_eq_getElem?]
  cases xs with
  | nil => rfl
  | cons x xs =>
    rw [if_pos (by simp only [List.length_cons]; omega)]
    congr 1
    simp only [List.length_cons]
    omega
theorem ixAt_in {α : Type} [Inhabited α] {xs : List α} {i : Int} (h0 : 0 ≤ i) (h1 : i < (xs.length : Int)) : ixAt xs i = some (xs.getD i.toNat default) := by
  rw [ixAt_pos h0, List.getD_eq_getElem?_getD]
  have h : i.toNat < xs.length := by omega
  rw [List.getElem?_eq_getElem h]
  rfl
theorem dIx_strL (s : List Nat) (n : Nat) (h : s.length ≤ 1000000) : dIx (.str s) (.int (OfNat.ofNat n : Int)) = (s[n]?).map fun c => .str [c] := by rw [dIx_str, if_pos (lk h), ixAt_lit]
theorem dIx_strM (s : List Nat) (h : s.length ≤ 1000000) : dIx (.str s) (.int (-1)) = (s.getLast?).map fun c => .str [c] := by rw [dIx_str, if_pos (lk h), ixAt_m1]
theorem dIx_strI {s : List Nat} {i : Int} (h : s.length ≤ 1000000) (h0 : 0 ≤ i) (h1 : i < (s.length : Int)) : dIx (.str s) (.int i) = some (.str [s.getD i.toNat default]) := by rw [dIx_str, if_pos (lk h), ixAt_in h0 h1]; rfl
theorem ixAt_maps {α β : Type} (f : α → β) (xs : List α) (i : Int) : ixAt (xs.map f) i = (ixAt xs i).map f := ixAt_map f xs i
/-- a written list of texts, of numbers -/
def strsL : List D → List (List Nat)
  | .str s :: ds => s :: strsL ds
  | _ :: ds => [] :: strsL ds
  | [] => []
def allStr : List D → Bool
  | .str _ :: ds => allStr ds
  | _ :: _ => false
  | [] => true
theorem strsL_of : ∀ {ds : List D}, allStr ds = true → ds = (strsL ds).map D.str
  | [], _ => rfl
  | .str s :: ds, h => by
    show _ = D.str s :: (strsL ds).map D.str
    rw [← strsL_of (ds := ds) h]
  | .non :: _, h => nomatch h
  | .bl _ :: _, h => nomatch h
  | .int _ :: _, h => nomatch h
  | .tup _ :: _, h => nomatch h
  | .lst _ :: _, h => nomatch h
  | .ml _ :: _, h => nomatch h
  | .obj _ _ _ :: _, h => nomatch h
  | .fo _ _ _ :: _, h => nomatch h
  | .ref _ :: _, h => nomatch h
  | .un :: _, h => nomatch h
theorem strsL_nil : strsL [] = [] := rfl
theorem strsL_cons (s : List Nat) (ds : List D) : strsL (.str s :: ds) = s :: strsL ds := rfl
theorem allStr_nil : allStr [] = true := rfl
theorem allStr_cons (s : List Nat) (ds : List D) : allStr (.str s :: ds) = allStr ds := rfl
theorem ixAt_strs {d : D} {ds : List D} {i : Int} (h : allStr (d :: ds) = true) (h0 : 0 ≤ i) (h1 : i < ((strsL (d :: ds)).length : Int)) : ixAt (d :: ds) i = some (.str ((strsL (d :: ds)).getD i.toNat default)) := by
  have e := ixAt_map D.str (strsL (d :: ds)) i
  rw [← strsL_of h, ixAt_in h0 h1] at e
  exact e
def intsL : List D → List Int
  | .int s :: ds => s :: intsL ds
  | _ :: ds => 0 :: intsL ds
  | [] => []
def allInt : List D → Bool
  | .int _ :: ds => allInt ds
  | _ :: _ => false
  | [] => true
theorem intsL_of : ∀ {ds : List D}, allInt ds = true → ds = (intsL ds).map D.int
  | [], _ => rfl
  | .int s :: ds, h => by
    show _ = D.int s :: (intsL ds).map D.int
    rw [← intsL_of (ds := ds) h]
  | .non :: _, h => nomatch h
  | .bl _ :: _, h => nomatch h
  | .str _ :: _, h => nomatch h
  | .tup _ :: _, h => nomatch h
  | .lst _ :: _, h => nomatch h
  | .ml _ :: _, h => nomatch h
  | .obj _ _ _ :: _, h => nomatch h
  | .fo _ _ _ :: _, h => nomatch h
  | .ref _ :: _, h => nomatch h
  | .un :: _, h => nomatch h
theorem intsL_nil : intsL [] = [] := rfl
theorem intsL_cons (s : Int) (ds : List D) : intsL (.int s :: ds) = s :: intsL ds := rfl
theorem allInt_nil : allInt [] = true := rfl
theorem allInt_cons (s : Int) (ds : List D) : allInt (.int s :: ds) = allInt ds := rfl
theorem ixAt_ints {d : D} {ds : List D} {i : Int} (h : allInt (d :: ds) = true) (h0 : 0 ≤ i) (h1 : i < ((intsL (d :: ds)).length : Int)) : ixAt (d :: ds) i = some (.int ((intsL (d :: ds)).getD i.toNat default)) := by
  have e := ixAt_map D.int (intsL (d :: ds)) i
  rw [← intsL_of h, ixAt_in h0 h1] at e
  exact e
/-! ### data -/
theorem data_non : data .non = true := rfl
theorem data_bl (b : Bool) : data (.bl b) = true := rfl
theorem data_int (b : Int) : data (.int b) = true := rfl
theorem data_str (b : List Nat) : data (.str b) = true := rfl
theorem data_tup (ds : List D) : data (.tup ds) = dataL ds := rfl
theorem data_lst (ds : List D) : data (.lst ds) = dataL ds := rfl
theorem data_ml (ds : List D) : data (.ml ds) = false := rfl
theorem data_obj (c : Str) (ns : List Str) (ds : List D) : data (.obj c ns ds) = false := rfl
theorem data_fo (c : Str) (ns : List Str) (ds : List D) : data (.fo c ns ds) = false := rfl
theorem data_ref (k : Nat) : data (.ref k) = false := rfl
theorem dataL_nil : dataL [] = true := rfl
theorem dataL_cons (d : D) (ds : List D) : dataL (d :: ds) = (data d && dataL ds) := rfl
theorem dataL_append : ∀ a b : List D, dataL (a ++ b) = (dataL a && dataL b)
  | [], b => rfl
  | d :: a, b => by
    rw [List.cons_append, dataL_cons, dataL_cons, dataL_append a b, Bool.and_assoc]
theorem dataL_map {α : Type} {f : α → D} (h : ∀ a, data (f a) = true) : ∀ as : List α, dataL (as.map f) = true
  | [] => rfl
  | a :: as => by
    rw [List.map_cons, dataL_cons, h, dataL_map h as]
    rfl
theorem flL_data : ∀ {ds : List D}, dataL ds = true → flL ds = true
  | [], _ => rfl
  | d :: ds, h => by
    rw [dataL_cons, Bool.and_eq_true] at h
    rw [flL_cons, Bool.and_eq_true]
    exact ⟨by cases d <;> first | rfl | exact h.1, flL_data h.2⟩
theorem fz_fz : ∀ d : D, fz (fz d) = fz d := by
  intro d
  cases d with
  | tup ds => rw [fz_tup, fz_tup]; congr 1; exact go ds
  | lst ds => rw [fz_lst, fz_lst]; congr 1; exact go ds
  | ml ds => rw [fz_ml, fz_lst]; congr 1; exact go ds
  | obj c ns ds => rw [fz_obj, fz_fo]; congr 1; exact go ds
  | fo c ns ds => rw [fz_fo, fz_fo]; congr 1; exact go ds
  | _ => rfl
where go : ∀ ds : List D, fzL (fzL ds) = fzL ds
  | [] => rfl
  | d :: ds => by rw [fzL_cons, fzL_cons, fz_fz d, go ds]
theorem fzL_fzL : ∀ ds : List D, fzL (fzL ds) = fzL ds
  | [] => rfl
  | d :: ds => by rw [fzL_cons, fzL_cons, fz_fz d, fzL_fzL ds]
theorem fz_bls : fz .un = .un := rfl
/-! ### texts of one sign -/
theorem ltS (c d : Nat) : (([c] : List Nat) < [d]) ↔ c < d := by simp [List.cons_lt_cons_iff]
theorem dLe_sign (c d : Nat) : dLe (.str [c]) (.str [d]) = some (.bl (decide (c ≤ d))) := by
  rw [dLe_str]
  by_cases h : c ≤ d
  · rw [decide_eq_true h, decide_eq_false (by rw [ltS]; omega)]; rfl
  · rw [decide_eq_false h, decide_eq_true (by rw [ltS]; omega)]; rfl
theorem dIn_signK (c : Nat) (z : List Nat) : dIn (.str [c]) (.str z) = some (.bl (decide (c ∈ z))) := dIn_sign c z
theorem dNotIn_signK (c : Nat) (z : List Nat) : dNotIn (.str [c]) (.str z) = some (.bl (!decide (c ∈ z))) := dNotIn_sign c z

/-! ### lazy: what hangs on a test is not looked at ahead of it -/
def ifB (o : Option Bool) (f g : FS) (ρ μ : List D) : Option SO := o.bind fun b => if b = true then f ρ μ else g ρ μ
theorem fIf_k (t : FB) (f g : FS) (x0 : D) (ρ μ : List D) : fIf t f g (x0 :: ρ) μ = ifB (t (x0 :: ρ) μ) f g (x0 :: ρ) μ := rfl
theorem ifB_b (b : Bool) (f g : FS) (ρ μ : List D) : ifB (some b) f g ρ μ = if b = true then f ρ μ else g ρ μ := rfl
def ifQ (o : Option Bool) (f g : FQ) (ρ μ : List D) : Option D := o.bind fun b => if b = true then f ρ μ else g ρ μ
theorem qIf_k (t : FB) (f g : FQ) (x0 : D) (ρ μ : List D) : qIf t f g (x0 :: ρ) μ = ifQ (t (x0 :: ρ) μ) f g (x0 :: ρ) μ := rfl
theorem ifQ_b (b : Bool) (f g : FQ) (ρ μ : List D) : ifQ (some b) f g ρ μ = if b = true then f ρ μ else g ρ μ := rfl
def anB (o : Option Bool) (g : FB) (ρ μ : List D) : Option Bool := o.bind fun b => if b = true then g ρ μ else some false
def orB (o : Option Bool) (g : FB) (ρ μ : List D) : Option Bool := o.bind fun b => if b = true then some true else g ρ μ
theorem bAnd_k (t u : FB) (x0 : D) (ρ μ : List D) : bAnd t u (x0 :: ρ) μ = anB (t (x0 :: ρ) μ) u (x0 :: ρ) μ := rfl
theorem bOr_k (t u : FB) (x0 : D) (ρ μ : List D) : bOr t u (x0 :: ρ) μ = orB (t (x0 :: ρ) μ) u (x0 :: ρ) μ := rfl
theorem anB_b (b : Bool) (g : FB) (ρ μ : List D) : anB (some b) g ρ μ = if b = true then g ρ μ else some false := rfl
theorem orB_b (b : Bool) (g : FB) (ρ μ : List D) : orB (some b) g ρ μ = if b = true then some true else g ρ μ := rfl
def anQ (o : Option D) (g : FQ) (ρ μ : List D) : Option D := andK o (g ρ μ)
def orQ (o : Option D) (g : FQ) (ρ μ : List D) : Option D := orK o (g ρ μ)
theorem qAnd_k (f g : FQ) (x0 : D) (ρ μ : List D) : qAnd f g (x0 :: ρ) μ = anQ (f (x0 :: ρ) μ) g (x0 :: ρ) μ := qAnd_eq f g x0 ρ μ
theorem qOr_k (f g : FQ) (x0 : D) (ρ μ : List D) : qOr f g (x0 :: ρ) μ = orQ (f (x0 :: ρ) μ) g (x0 :: ρ) μ := qOr_eq f g x0 ρ μ
theorem anQ_b (b : Bool) (g : FQ) (ρ μ : List D) : anQ (some (.bl b)) g ρ μ = if b = true then g ρ μ else some (.bl false) := by cases b <;> rfl
theorem orQ_b (b : Bool) (g : FQ) (ρ μ : List D) : orQ (some (.bl b)) g ρ μ = if b = true then some (.bl true) else g ρ μ := by cases b <;> rfl
def ch1 (o o' : D → D → Option D) (x y : Option D) (h : FQ) (ρ μ : List D) : Option D := x.bind fun x => y.bind fun y => andK (o x y) ((h ρ μ).bind fun z => o' y z)
theorem q3_k (o o' : D → D → Option D) (f g h : FQ) (x0 : D) (ρ μ : List D) : q3 o o' f g h (x0 :: ρ) μ = ch1 o o' (f (x0 :: ρ) μ) (g (x0 :: ρ) μ) h (x0 :: ρ) μ := q3_eq o o' f g h x0 ρ μ
def ch2 (o' : D → D → Option D) (r : Option D) (y : D) (h : FQ) (ρ μ : List D) : Option D := andK r ((h ρ μ).bind fun z => o' y z)
theorem ch1_s (o o' : D → D → Option D) (x y : D) (h : FQ) (ρ μ : List D) : ch1 o o' (some x) (some y) h ρ μ = ch2 o' (o x y) y h ρ μ := rfl
theorem ch2_b (o' : D → D → Option D) (b : Bool) (y : D) (h : FQ) (ρ μ : List D) : ch2 o' (some (.bl b)) y h ρ μ = if b = true then (h ρ μ).bind fun z => o' y z else some (.bl false) := by cases b <;> rfl
section
variable {c : Prop} [Decidable c]
theorem ifB_ite (a b : Option Bool) (f g : FS) (ρ μ : List D) : ifB (if c then a else b) f g ρ μ = if c then ifB a f g ρ μ else ifB b f g ρ μ := by split <;> rfl
theorem ifQ_ite (a b : Option Bool) (f g : FQ) (ρ μ : List D) : ifQ (if c then a else b) f g ρ μ = if c then ifQ a f g ρ μ else ifQ b f g ρ μ := by split <;> rfl
theorem anB_ite (a b : Option Bool) (g : FB) (ρ μ : List D) : anB (if c then a else b) g ρ μ = if c then anB a g ρ μ else anB b g ρ μ := by split <;> rfl
theorem orB_ite (a b : Option Bool) (g : FB) (ρ μ : List D) : orB (if c then a else b) g ρ μ = if c then orB a g ρ μ else orB b g ρ μ := by split <;> rfl
theorem anQ_ite (a b : Option D) (g : FQ) (ρ μ : List D) : anQ (if c then a else b) g ρ μ = if c then anQ a g ρ μ else anQ b g ρ μ := by split <;> rfl
theorem orQ_ite (a b : Option D) (g : FQ) (ρ μ : List D) : orQ (if c then a else b) g ρ μ = if c then orQ a g ρ μ else orQ b g ρ μ := by split <;> rfl
theorem ch2_ite (o' : D → D → Option D) (a b : Option D) (y : D) (h : FQ) (ρ μ : List D) : ch2 o' (if c then a else b) y h ρ μ = if c then ch2 o' a y h ρ μ else ch2 o' b y h ρ μ := by split <;> rfl
/-! ### a truth out of a choice -/
theorem ite_bl0 (b : Bool) : (if c then some (D.bl b) else some (.bl false)) = some (.bl (decide c && b)) := by split <;> simp [*]
theorem ite_bl1 (b : Bool) : (if c then some (D.bl true) else some (.bl b)) = some (.bl (decide c || b)) := by split <;> simp [*]
theorem ite_bl2 (b : Bool) : (if c then some (D.bl false) else some (.bl b)) = some (.bl (!decide c && b)) := by split <;> simp [*]
theorem ite_bl3 (b : Bool) : (if c then some (D.bl b) else some (.bl true)) = some (.bl (!decide c || b)) := by split <;> simp [*]
theorem ite_b0 (b : Bool) : (if c then some b else some false) = some (decide c && b) := by split <;> simp [*]
theorem ite_b1 (b : Bool) : (if c then some true else some b) = some (decide c || b) := by split <;> simp [*]
theorem ite_b2 (b : Bool) : (if c then some false else some b) = some (!decide c && b) := by split <;> simp [*]
theorem ite_b3 (b : Bool) : (if c then some b else some true) = some (!decide c || b) := by split <;> simp [*]
end
theorem natc_add (m n : Nat) : ((m + n : Nat) : Int) = (m : Int) + (n : Int) := Int.natCast_add m n
def kset := And.intro (And.intro (And.intro (And.intro (And.intro (And.intro (And.intro (And.intro (@runQ_eq) (@fSeq_eq)) (And.intro (@seqK_nx) (And.intro (@seqK_rt) (@seqK_ex)))) (And.intro (And.intro (@turnK_nx) (And.intro (@turnK_rt) (@endK_rt))) (And.intro (@endK_nx) (And.intro (@qVar_zero) (@qVar_succ))))) (And.intro (And.intro (And.intro (@varK_int) (And.intro (@varK_str) (@varK_bl))) (And.intro (@varK_non) (And.intro (@varK_tup) (@varK_lst)))) (And.intro (And.intro (@varK_ml) (And.intro (@qB_eq) (@blK_bl))) (And.intro (@qNot_eq) (And.intro (@notK_b) (@fApp_eq)))))) (And.intro (And.intro (And.intro (And.intro (@fFz_eq) (And.intro (@fzK_ml) (@aR1_eq))) (And.intro (@aR2_eq) (And.intro (@oSome_eq) (@osK_int)))) (And.intro (And.intro (@oNone_eq) (And.intro (@qM1_eq) (@m1K_str))) (And.intro (@qM0_eq) (And.intro (@m0K_str) (@dAdd_int))))) (And.intro (And.intro (And.intro (@dEq_int) (And.intro (@dNe_int) (@dEq_str))) (And.intro (@dNe_str) (And.intro (@dLt_int) (@dLe_int)))) (And.intro (And.intro (@dGt_int) (And.intro (@dGe_int) (@dLen_lst))) (And.intro (@dLen_ml) (And.intro (@dLen_tup) (@o1_eq))))))) (And.intro (And.intro (And.intro (And.intro (And.intro (@o2_eq) (And.intro (@oStr_eq) (@itemsF_lst))) (And.intro (@itemsF_str) (And.intro (@dSl_lst) (@qC_eq)))) (And.intro (And.intro (@q2_eq) (And.intro (@qTup_eq) (@qN_eq))) (And.intro (@qSl_eq) (And.intro (@qCall_eq) (@qRun_eq))))) (And.intro (And.intro (And.intro (@qIsi_eq) (And.intro (@aNil_eq) (@aCons_eq))) (And.intro (@aData_eq) (And.intro (@aF_eq) (@aQ_eq)))) (And.intro (And.intro (@bNot_eq) (And.intro (@fNext_eq) (@fSet_eq))) (And.intro (@fSetN_eq) (And.intro (@fSetT_eq) (@fRet_eq)))))) (And.intro (And.intro (And.intro (And.intro (@fRetN_eq) (And.intro (@fFor_eq) (@fAug_eq))) (And.intro (@tgN_eq) (And.intro (@tgT_eq) (@tgs_cons)))) (And.intro (And.intro (@tgs_nil) (And.intro (@dataL_ints) (@dataL_strs))) (And.intro (@xB_eq) (And.intro (@eB_ok) (@eB_ex))))) (And.intro (And.intro (And.intro (@xT_eq) (And.intro (@eT_bl) (@eT_ex))) (And.intro (@xS_eq) (And.intro (@eS_ok) (@eS_ex)))) (And.intro (And.intro (@xQ_eq) (And.intro (@xN_eq) (@xMove_eq))) (And.intro (@xOp_eq) (And.intro (@xNot_eq) (@xAnd_eq)))))))) (And.intro (And.intro (And.intro (And.intro (And.intro (And.intro (@xOr_eq) (And.intro (@xPB_eq) (@xIsi_eq))) (And.intro (@aB_ok) (And.intro (@aB_ex) (@xA_eq)))) (And.intro (And.intro (@xaNil_eq) (And.intro (@eA_ok) (@eA_ex))) (And.intro (@xaCons_eq) (And.intro (@aoCons_ok) (@aoCons_ex))))) (And.intro (And.intro (And.intro (@xaSlot_eq) (And.intro (@avals_nil) (@avals_val))) (And.intro (@xTup_eq) (And.intro (@xCall_eq) (@xRunQ_eq)))) (And.intro (And.intro (@xRun_eq) (And.intro (@xPut_ok) (@xPut_ex))) (And.intro (@mo_nil) (And.intro (@mo_val) (@mo_slot)))))) (And.intro (And.intro (And.intro (And.intro (@mi_nil) (And.intro (@mi_val) (@mi_slot))) (And.intro (@xMethS_eq) (And.intro (@mSK_obj) (@xMethQ_eq)))) (And.intro (And.intro (@mQK_obj) (And.intro (@put1_one) (@pget_nil))) (And.intro (@pget_cons) (And.intro (@pput_nil) (@pput_cons))))) (And.intro (And.intro (And.intro (@qFld_eq) (And.intro (@dFld_obj) (@dFld_fo))) (And.intro (@dFld_ref) (And.intro (@dFo_obj) (@dFo_fo)))) (And.intro (And.intro (@varK_obj) (And.intro (@varK_fo) (@varK_ref))) (And.intro (@qRunF_eq) (And.intro (@qMethF_eq) (@clsOf_obj))))))) (And.intro (And.intro (And.intro (And.intro (And.intro (@clsOf_fo) (And.intro (@clsOf_ref) (@xMake_eq))) (And.intro (@fSetX_eq) (And.intro (@fSetTX_eq) (@fExX_eq)))) (And.intro (And.intro (@fRetX_eq) (And.intro (@ifK_bl) (@fIfX_eq))) (And.intro (@fFldX_eq) (And.intro (@fldK_obj) (@fFldAug_eq))))) (And.intro (And.intro (And.intro (@xAug_eq) (And.intro (@iAdd_int) (@iSub_int))) (And.intro (@fRaise_eq) (And.intro (@isUn_obj) (@isUn_fo)))) (And.intro (And.intro (@isUn_ml) (And.intro (@isUn_lst) (@isUn_tup))) (And.intro (@isUn_int) (And.intro (@isUn_str) (@isUn_bl)))))) (And.intro (And.intro (And.intro (And.intro (@isUn_non) (And.intro (@isUn_ref) (@fl_int))) (And.intro (@fl_str) (And.intro (@fl_bl) (@fl_non)))) (And.intro (And.intro (@fl_ref) (And.intro (@fl_tup) (@fl_lst))) (And.intro (@flL_nil) (And.intro (@flL_cons) (@resF_bl))))) (And.intro (And.intro (And.intro (@resF_int) (And.intro (@resF_str) (@resF_non))) (And.intro (@resF_tup) (And.intro (@resF_ml) (@fzL_nil)))) (And.intro (And.intro (@fzL_cons) (And.intro (@fz_int) (@fz_str))) (And.intro (@fz_bl) (And.intro (@fz_non) (@fz_ref))))))))) (And.intro (And.intro (And.intro (And.intro (And.intro (And.intro (And.intro (@fz_tup) (And.intro (@fz_lst) (@fz_ml))) (And.intro (@fz_obj) (And.intro (@fz_fo) (@runF_eq)))) (And.intro (And.intro (@rF_rt) (And.intro (@rF_nx) (@runX_eq))) (And.intro (@rX_rt) (And.intro (@rX_nx) (@rX_ex))))) (And.intro (And.intro (And.intro (@fin_nil) (And.intro (@fin_t) (@fin_f))) (And.intro (@aR3_eq) (And.intro (@dMin_int) (@dMax_int)))) (And.intro (And.intro (@wipeD_nil) (And.intro (@wipeD_cons) (@bYes_eq))) (And.intro (@itemsQ_lst) (And.intro (@itemsQ_str) (@dIs_bl)))))) (And.intro (And.intro (And.intro (And.intro (@dIsNot_bl) (And.intro (@asL_lst) (@noLL_nil))) (And.intro (@noLL_cons) (And.intro (@noL_str) (@noL_int)))) (And.intro (And.intro (@noL_bl) (And.intro (@noL_non) (@noL_tup))) (And.intro (@fzL_strs) (And.intro (@fzL_ints) (@boolsD_map))))) (And.intro (And.intro (And.intro (@q1_eq) (And.intro (@dNeg_int) (@tyN_NoneType))) (And.intro (@tyN_bool) (And.intro (@tyN_int) (@tyN_str)))) (And.intro (And.intro (@tyN_list) (And.intro (@tyN_tuple) (@tyN_ml))) (And.intro (@kitB_NoneType_bool) (And.intro (@kitB_NoneType_int) (@kitB_NoneType_str))))))) (And.intro (And.intro (And.intro (And.intro (And.intro (@kitB_NoneType_list) (And.intro (@kitB_NoneType_tuple) (@kitB_bool_bool))) (And.intro (@kitB_bool_int) (And.intro (@kitB_bool_str) (@kitB_bool_list)))) (And.intro (And.intro (@kitB_bool_tuple) (And.intro (@kitB_int_bool) (@kitB_int_int))) (And.intro (@kitB_int_str) (And.intro (@kitB_int_list) (@kitB_int_tuple))))) (And.intro (And.intro (And.intro (@kitB_str_bool) (And.intro (@kitB_str_int) (@kitB_str_str))) (And.intro (@kitB_str_list) (And.intro (@kitB_str_tuple) (@kitB_list_bool)))) (And.intro (And.intro (@kitB_list_int) (And.intro (@kitB_list_str) (@kitB_list_list))) (And.intro (@kitB_list_tuple) (And.intro (@kitB_tuple_bool) (@kitB_tuple_int)))))) (And.intro (And.intro (And.intro (And.intro (@kitB_tuple_str) (And.intro (@kitB_tuple_list) (@kitB_tuple_tuple))) (And.intro (@fIf_k) (And.intro (@ifB_b) (@qIf_k)))) (And.intro (And.intro (@ifQ_b) (And.intro (@bAnd_k) (@bOr_k))) (And.intro (@anB_b) (And.intro (@orB_b) (@qAnd_k))))) (And.intro (And.intro (And.intro (@qOr_k) (And.intro (@anQ_b) (@orQ_b))) (And.intro (@q3_k) (And.intro (@ch1_s) (@ch2_b)))) (And.intro (And.intro (@ifB_ite) (And.intro (@ifQ_ite) (@anB_ite))) (And.intro (@orB_ite) (And.intro (@anQ_ite) (@orQ_ite)))))))) (And.intro (And.intro (And.intro (And.intro (And.intro (And.intro (@ch2_ite) (And.intro (@ite_bl0) (@ite_bl1))) (And.intro (@ite_bl2) (And.intro (@ite_bl3) (@ite_b0)))) (And.intro (And.intro (@ite_b1) (And.intro (@ite_b2) (@ite_b3))) (And.intro (@natc_add) (And.intro (@fPost_eq) (@fPre_eq))))) (And.intro (And.intro (And.intro (@postK_nx) (And.intro (@postK_rt) (@postK_ex))) (And.intro (@fzAt_eq) (And.intro (@fzK_lst) (@dAdd_strK)))) (And.intro (And.intro (@dIAdd_strK) (And.intro (@dIAdd_int) (@dAdd_lstK))) (And.intro (@dAdd_mlstK) (And.intro (@dAdd_tupK) (@dLen_strK)))))) (And.intro (And.intro (And.intro (And.intro (@dSl_strK) (And.intro (@dSl_tupK) (@itemsF_tupK))) (And.intro (@itemsQ_tupK) (And.intro (@itemsQ_mlK) (@rgK_intK)))) (And.intro (And.intro (@rg2K_intK) (And.intro (@dSub_int) (@dMul_intK))) (And.intro (@dMod_intK) (And.intro (@dFdiv_intK) (@dDivmod_intK))))) (And.intro (And.intro (And.intro (@dStrI_intK) (And.intro (@ixAt_natc) (@ixAt_m1))) (And.intro (@ixAt_in) (And.intro (@dIx_strI) (@ixAt_maps)))) (And.intro (And.intro (@strsL_nil) (And.intro (@strsL_cons) (@allStr_nil))) (And.intro (@allStr_cons) (And.intro (@ixAt_strs) (@intsL_nil))))))) (And.intro (And.intro (And.intro (And.intro (And.intro (@intsL_cons) (And.intro (@allInt_nil) (@allInt_cons))) (And.intro (@ixAt_ints) (And.intro (@data_non) (@data_bl)))) (And.intro (And.intro (@data_int) (And.intro (@data_str) (@data_tup))) (And.intro (@data_lst) (And.intro (@data_ml) (@data_obj))))) (And.intro (And.intro (And.intro (@data_fo) (And.intro (@data_ref) (@dataL_nil))) (And.intro (@dataL_cons) (And.intro (@dataL_append) (@fz_fz)))) (And.intro (And.intro (@fzL_fzL) (And.intro (@dLe_sign) (@dIn_signK))) (And.intro (@dNotIn_signK) (And.intro (@dIx_lst) (@dIx_ml)))))) (And.intro (And.intro (And.intro (And.intro (@dIx_tup) (And.intro (@bind_ite) (@map_ite))) (And.intro (@seqK_ite) (And.intro (@turnK_ite) (@endK_ite)))) (And.intro (And.intro (@rF_ite) (And.intro (@rX_ite) (@varK_ite))) (And.intro (@blK_ite) (And.intro (@andK_ite) (@orK_ite))))) (And.intro (And.intro (And.intro (@notK_ite) (And.intro (@osK_ite) (@m0K_ite))) (And.intro (@m1K_ite) (And.intro (@rgK_ite) (@eB_ite)))) (And.intro (And.intro (@eT_ite) (And.intro (@eS_ite) (@aB_ite))) (And.intro (@eA_ite) (And.intro (@aoCons_ite) (@postK_ite)))))))))
end Fw
/-! # loops, elements, equality: for the plain law -/
namespace Fw
open PySem PySem.Spec PyProof.Rows L2
section
variable {α τ : Type} {g : D → List D → Option (List D)} {b : FS} {μ : List D}
theorem forL_inv (A : α → D) (S : τ → List D) (I : τ → List α → Prop) (step : τ → α → τ)
    (h : ∀ s a rest, I s (a :: rest) → ∃ ρ1, g (A a) (S s) = some ρ1 ∧ b ρ1 μ = some (.nx (S (step s a)) μ) ∧ I (step s a) rest) :
    ∀ as s, I s as → forL g b (S s) μ (as.map A) = some (.nx (S (as.foldl step s)) μ) ∧ I (as.foldl step s) []
  | [], s, hi => ⟨rfl, hi⟩
  | a :: as, s, hi => by
    obtain ⟨ρ1, h1, h2, h3⟩ := h s a as hi
    obtain ⟨k1, k2⟩ := forL_inv A S I step h as (step s a) h3
    exact ⟨(forL_turn h1 h2).trans k1, k2⟩
/-- a loop that keeps to I; the state behind exists -/
theorem forL_ex (A : α → D) (S : τ → List D) (I : τ → List α → Prop)
    (h : ∀ s a rest, I s (a :: rest) → ∃ ρ1 s', g (A a) (S s) = some ρ1 ∧ b ρ1 μ = some (.nx (S s') μ) ∧ I s' rest) :
    ∀ as s, I s as → ∃ s', forL g b (S s) μ (as.map A) = some (.nx (S s') μ) ∧ I s' []
  | [], s, hi => ⟨s, rfl, hi⟩
  | a :: as, s, hi => by
    obtain ⟨ρ1, s', h1, h2, h3⟩ := h s a as hi
    obtain ⟨s2, k1, k2⟩ := forL_ex A S I h as s' h3
    exact ⟨s2, (forL_turn h1 h2).trans k1, k2⟩
end
theorem rangeD_map (j : Int) : rangeD 0 j = (List.range j.toNat).map fun (i : Nat) => D.int (i : Int) := by
  unfold rangeD
  rw [Int.sub_zero]
  refine List.map_congr_left fun i _ => ?_
  rw [Int.zero_add]
theorem rangeD_map2 (i j : Int) : rangeD i j = (List.range (j - i).toNat).map fun (k : Nat) => D.int (i + (k : Int)) := rfl
/-! ### equality of plain trees -/
theorem cok_of {s : List Nat} (h : ∀ c ∈ s, c < 1114112) : cok s = true := by
  unfold cok
  rw [List.all_eq_true]
  intro c hc
  exact decide_eq_true (h c hc)
theorem pl_non (h : Nat) : pl h .non = true := by cases h <;> rfl
theorem pl_int (h : Nat) (i : Int) : pl h (.int i) = true := by cases h <;> rfl
theorem pl_str (h : Nat) (s : List Nat) : pl h (.str s) = cok s := by cases h <;> rfl
theorem pl_tup (h : Nat) (ds : List D) : pl (h + 1) (.tup ds) = plL h ds := rfl
theorem pl_lst (h : Nat) (ds : List D) : pl (h + 1) (.lst ds) = plL h ds := rfl
theorem plL_nil (h : Nat) : plL h [] = true := by cases h <;> rfl
theorem plL_cons (h : Nat) (d : D) (ds : List D) : plL h (d :: ds) = (pl h d && plL h ds) := by cases h <;> rfl
theorem plL_map {α : Type} {h : Nat} {f : α → D} : ∀ {as : List α}, (∀ a ∈ as, pl h (f a) = true) → plL h (as.map f) = true
  | [], _ => plL_nil h
  | a :: as, q => by
    rw [List.map_cons, plL_cons, q a (List.mem_cons_self ..), plL_map fun x hx => q x (List.mem_cons_of_mem _ hx)]
    rfl
theorem plL_all {h : Nat} : ∀ {ds : List D}, plL h ds = true ↔ ∀ d ∈ ds, pl h d = true
  | [] => by rw [plL_nil]; simp
  | d :: ds => by
    rw [plL_cons, Bool.and_eq_true, plL_all, List.forall_mem_cons]
noncomputable def eqT (x y : D) : Bool := @decide (x = y) (Classical.propDecidable _)
theorem eqT_iff {x y : D} : eqT x y = true ↔ x = y := by unfold eqT; exact @decide_eq_true_iff _ (Classical.propDecidable _)
theorem eqT_self (x : D) : eqT x x = true := eqT_iff.mpr rfl
theorem eqT_neg {x y : D} (h : x ≠ y) : eqT x y = false := by
  cases e : eqT x y with
  | false => rfl
  | true => exact absurd (eqT_iff.mp e) h
theorem dEq_eqT {x y : D} (hx : pl 50 x = true) (hy : pl 50 y = true) : dEq x y = some (.bl (eqT x y)) := by
  obtain ⟨b, h1, h2⟩ := dEq_pl hx hy (by omega) (by omega)
  rw [h1]
  cases b with
  | true => rw [eqT_iff.mpr (h2.mp rfl)]
  | false =>
    rw [eqT_neg]
    intro z
    exact absurd (h2.mpr z) (by decide)
theorem dNe_eqT {x y : D} (hx : pl 50 x = true) (hy : pl 50 y = true) : dNe x y = some (.bl (!eqT x y)) := by
  obtain ⟨b, h1, h2⟩ := dNe_pl hx hy (by omega) (by omega)
  rw [h1]
  cases b with
  | true => rw [eqT_iff.mpr (h2.mp rfl)]
  | false =>
    rw [eqT_neg]
    intro z
    exact absurd (h2.mpr z) (by decide)
theorem dEq_lstK {x y : List D} (hx : pl 50 (.lst x) = true) (hy : pl 50 (.lst y) = true) : dEq (.lst x) (.lst y) = some (.bl (eqT (.lst x) (.lst y))) := dEq_eqT hx hy
theorem dNe_lstK {x y : List D} (hx : pl 50 (.lst x) = true) (hy : pl 50 (.lst y) = true) : dNe (.lst x) (.lst y) = some (.bl (!eqT (.lst x) (.lst y))) := dNe_eqT hx hy
theorem dEq_tupK {x y : List D} (hx : pl 50 (.tup x) = true) (hy : pl 50 (.tup y) = true) : dEq (.tup x) (.tup y) = some (.bl (eqT (.tup x) (.tup y))) := dEq_eqT hx hy
theorem dNe_tupK {x y : List D} (hx : pl 50 (.tup x) = true) (hy : pl 50 (.tup y) = true) : dNe (.tup x) (.tup y) = some (.bl (!eqT (.tup x) (.tup y))) := dNe_eqT hx hy
theorem dEq_mlK {x y : List D} (hx : pl 50 (.lst x) = true) (hy : pl 50 (.lst y) = true) : dEq (.ml x) (.lst y) = some (.bl (eqT (.lst x) (.lst y))) := dEq_lstK hx hy
theorem dNe_mlK {x y : List D} (hx : pl 50 (.lst x) = true) (hy : pl 50 (.lst y) = true) : dNe (.ml x) (.lst y) = some (.bl (!eqT (.lst x) (.lst y))) := dNe_lstK hx hy
theorem dEq_lmK {x y : List D} (hx : pl 50 (.lst x) = true) (hy : pl 50 (.lst y) = true) : dEq (.lst x) (.ml y) = some (.bl (eqT (.lst x) (.lst y))) := dEq_lstK hx hy
theorem map_str_inj {a b : List (List Nat)} : a.map D.str = b.map D.str ↔ a = b := by
  constructor
  · intro h
    exact List.map_inj_right (fun _ _ z => D.str.inj z) |>.mp h
  · intro h; rw [h]
theorem map_int_inj {a b : List Int} : a.map D.int = b.map D.int ↔ a = b := by
  constructor
  · intro h
    exact List.map_inj_right (fun _ _ z => D.int.inj z) |>.mp h
  · intro h; rw [h]
/-! ### slices -/
def lcK (g : D → List D → Option (List D)) (t : FB) (f : FQ) (ρ μ : List D) (o : Option (List D)) : Option (List D) := o.bind fun ds => if ds.length ≤ LIM then lcL g t f ρ μ ds else none
theorem sIx_nn {n z : Nat} {k : Int} (h : 0 ≤ k) : HT.sIx n z (some k) = min k.toNat n := by
  have := HT.sIx_nat n z k.toNat
  rwa [Int.toNat_of_nonneg h] at this
theorem cut_lo {α : Type} {xs : List α} {k : Int} (h : 0 ≤ k) : cut xs (some k) none = xs.drop k.toNat := by
  have := cut_drop xs k.toNat
  rwa [Int.toNat_of_nonneg h] at this
theorem cut_hi {α : Type} {xs : List α} {k : Int} (h : 0 ≤ k) : cut xs none (some k) = xs.take k.toNat := by
  have := cut_take xs k.toNat
  rwa [Int.toNat_of_nonneg h] at this
theorem cut_lohi {α : Type} {xs : List α} {i j : Int} (h : 0 ≤ i) (h' : 0 ≤ j) : cut xs (some i) (some j) = (xs.take j.toNat).drop i.toNat := by
  unfold cut
  rw [sIx_nn h, sIx_nn h', List.drop_take]
  by_cases z : i.toNat ≤ xs.length
  · rw [Nat.min_eq_left z]
    by_cases y : j.toNat ≤ xs.length
    · rw [Nat.min_eq_left y]
    · rw [Nat.min_eq_right (by omega), List.take_of_length_le (by rw [List.length_drop]; omega), List.take_of_length_le (by rw [List.length_drop]; omega)]
  · rw [Nat.min_eq_right (by omega : xs.length ≤ i.toNat), List.drop_of_length_le (Nat.le_refl _), List.drop_of_length_le (by omega), List.take_nil, List.take_nil]
theorem sIx_neg {n z : Nat} {k : Int} (h : k < 0) : HT.sIx n z (some k) = n - k.natAbs := by
  show (if k < 0 then (k + (n : Int)).toNat else min k.toNat n) = _
  rw [if_pos h]
  omega
theorem cut_loN {α : Type} {xs : List α} {k : Int} (h : k < 0) : cut xs (some k) none = xs.drop (xs.length - k.natAbs) := by
  unfold cut
  rw [sIx_neg h, HT.sIx_none, List.take_of_length_le]
  rw [List.length_drop]
  exact Nat.le_refl _
theorem cut_hiN {α : Type} {xs : List α} {k : Int} (h : k < 0) : cut xs none (some k) = xs.take (xs.length - k.natAbs) := by
  unfold cut
  rw [sIx_neg h, HT.sIx_none, List.drop_zero, Nat.sub_zero]
theorem cut_lohiN {α : Type} {xs : List α} {i j : Int} (h : 0 ≤ i) (h' : j < 0) : cut xs (some i) (some j) = (xs.take (xs.length - j.natAbs)).drop i.toNat := by
  unfold cut
  rw [sIx_nn h, sIx_neg h', List.drop_take]
  by_cases z : i.toNat ≤ xs.length
  · rw [Nat.min_eq_left z]
  · rw [Nat.min_eq_right (by omega : xs.length ≤ i.toNat), List.drop_of_length_le (Nat.le_refl _), List.drop_of_length_le (by omega), List.take_nil, List.take_nil]
theorem dIx_strZ {s : List Nat} (h : s.length ≤ 1000000) (hs : s ≠ []) : dIx (.str s) (.int (-1)) = some (.str [s.getLastD 0]) := by
  rw [dIx_strM s h]
  cases s with
  | nil => exact absurd rfl hs
  | cons c s => rw [List.getLast?_eq_some_getLast hs]; rfl
theorem dIx_strA {s : List Nat} (h : s.length ≤ 1000000) (hs : s ≠ []) : dIx (.str s) (.int 0) = some (.str [s.headD 0]) := by
  rw [dIx_strL s 0 h]
  cases s with
  | nil => exact absurd rfl hs
  | cons c s => rfl
theorem qLc_k {it : FA} {g : D → List D → Option (List D)} {vs : List Nat} {t : FB} {f : FQ} {x0 : D} {ρ μ : List D} : qLc it g vs t f (x0 :: ρ) μ = lcK g t f (wipeD (x0 :: ρ) vs) μ (it (x0 :: ρ) μ) := qLc_eq it g vs t f x0 ρ μ
theorem lcK_s {g : D → List D → Option (List D)} {t : FB} {f : FQ} {ρ μ ds : List D} (h : ds.length ≤ 1000000) : lcK g t f ρ μ (some ds) = lcL g t f ρ μ ds := if_pos (lk h)
section
variable {g : FS} {ks : List Bool} {ds ρ μ : List D} {f : FS} {r : Option D} {gg : D → List D → Option (List D)}
theorem seqK_no : seqK none g = none := rfl
theorem endK_no : endK none = none := rfl
theorem rF_no : rF none = none := rfl
theorem rX_no : rX ks ds none = none := rfl
theorem turnK_no : turnK gg g ds none = none := rfl
end
theorem cut_none {α : Type} {xs : List α} : cut xs none none = xs := cut_all ⟨rfl, rfl⟩
theorem cut_map {α β : Type} (f : α → β) (xs : List α) (lo hi : Option Int) : cut (xs.map f) lo hi = (cut xs lo hi).map f := by
  unfold cut
  rw [List.length_map, List.map_take, List.map_drop]
theorem def_int : (default : Int) = 0 := rfl
theorem def_nat : (default : Nat) = 0 := rfl
theorem def_list {α : Type} : (default : List α) = [] := rfl
/-! ### elements -/
section
variable {α : Type} {g : D → List D → Option (List D)} {t : FB} {f : FQ} {ρ μ : List D}
theorem lc_all (A : α → D) (Y : α → D) (as : List α) (h : ∀ a ∈ as, ∃ ρ', g (A a) ρ = some ρ' ∧ f ρ' μ = some (Y a) ∧ data (Y a) = true) : lcL g bYes f ρ μ (as.map A) = some (as.map Y) := by
  have := lcL_map (t := bYes) A (fun _ => true) Y as (fun a ha => by
    obtain ⟨ρ', h1, h2, h3⟩ := h a ha
    exact ⟨ρ', h1, rfl, fun _ => ⟨h2, h3⟩⟩)
  rw [List.filter_eq_self.mpr fun _ _ => rfl] at this
  exact this
end
theorem appK_mlK {i : Nat} {ρ μ : List D} {q : FQ} {ds : List D} (h : ds.length ≤ 1000000) : appK i ρ μ q (some (.ml ds)) = (q ρ μ).bind fun d => if data d = true then some (.nx (ρ.set i (.ml (ds ++ [d]))) μ) else none := by
  rw [appK_ml]
  congr 1
  funext d
  by_cases z : data d = true
  · rw [if_pos ⟨z, lk h⟩, if_pos z]
  · rw [if_neg (fun w => z w.1), if_neg z]
theorem nab1 : Int.natAbs (-1) = 1 := rfl
theorem nab2 : Int.natAbs (-2) = 2 := rfl
theorem nab3 : Int.natAbs (-3) = 3 := rfl
theorem nab4 : Int.natAbs (-4) = 4 := rfl
theorem nab5 : Int.natAbs (-5) = 5 := rfl
theorem nab6 : Int.natAbs (-6) = 6 := rfl
theorem dEq_blK (a b : Bool) : dEq (.bl a) (.bl b) = some (.bl (decide (a = b))) := by cases a <;> cases b <;> rfl
theorem dNe_blK (a b : Bool) : dNe (.bl a) (.bl b) = some (.bl (!decide (a = b))) := by cases a <;> cases b <;> rfl
theorem allStr_map : ∀ es : List (List Nat), allStr (es.map D.str) = true
  | [] => rfl
  | _ :: es => allStr_map es
theorem strsL_map : ∀ es : List (List Nat), strsL (es.map D.str) = es
  | [] => rfl
  | e :: es => congrArg (e :: ·) (strsL_map es)
theorem dIn_tupS {t : List Nat} {ds : List D} (h : allStr ds = true) : dIn (.str t) (.tup ds) = some (.bl (decide (t ∈ strsL ds))) := by
  have := dIn_tup t (strsL ds)
  rwa [← strsL_of h] at this
theorem dIn_lstS {t : List Nat} {ds : List D} (h : allStr ds = true) : dIn (.str t) (.lst ds) = some (.bl (decide (t ∈ strsL ds))) := by
  have := dIn_lst t (strsL ds)
  rwa [← strsL_of h] at this
theorem dNotIn_tupS {t : List Nat} {ds : List D} (h : allStr ds = true) : dNotIn (.str t) (.tup ds) = some (.bl (!decide (t ∈ strsL ds))) := by
  have := dNotIn_tup t (strsL ds)
  rwa [← strsL_of h] at this
theorem dNotIn_lstS {t : List Nat} {ds : List D} (h : allStr ds = true) : dNotIn (.str t) (.lst ds) = some (.bl (!decide (t ∈ strsL ds))) := by
  have := dNotIn_lst t (strsL ds)
  rwa [← strsL_of h] at this
theorem strsD_map : ∀ es : List (List Nat), strsD (es.map D.str) = some es
  | [] => rfl
  | e :: es => by
    show (strsD (es.map D.str)).map (fun bs => e :: bs) = _
    rw [strsD_map es]
    rfl
theorem joinL_nil : ∀ ts : List (List Nat), TL.joinL [] ts = ts.flatten
  | [] => rfl
  | [t] => by simp [TL.joinL]
  | t :: u :: ts => by
    have := joinL_nil (u :: ts)
    simp only [TL.joinL, List.append_nil, List.nil_append] at this ⊢
    rw [this]
    simp
theorem oJoin_seq {s : List Nat} {x : D} {ts : List (List Nat)} (hx : seqD x = some (ts.map D.str)) (h : (ts.map (·.length)).sum + ts.length * s.length ≤ 1000000) : oJoin s [x] = some (.str (TL.joinL s ts)) := by
  show (seqD x).bind _ = _
  rw [hx]
  show (strsD (ts.map D.str)).bind _ = _
  rw [strsD_map]
  exact if_pos h
theorem oJoin_lst {s : List Nat} {ts : List (List Nat)} (h : (ts.map (·.length)).sum + ts.length * s.length ≤ 1000000) : oJoin s [.lst (ts.map D.str)] = some (.str (TL.joinL s ts)) := oJoin_seq rfl h
theorem oJoin_tup {s : List Nat} {ts : List (List Nat)} (h : (ts.map (·.length)).sum + ts.length * s.length ≤ 1000000) : oJoin s [.tup (ts.map D.str)] = some (.str (TL.joinL s ts)) := oJoin_seq rfl h
theorem sum_len_le {α : Type} {f : α → List Nat} {k : Nat} : ∀ {l : List α}, (∀ x ∈ l, (f x).length ≤ k) → ((l.map f).map (·.length)).sum ≤ l.length * k
  | [], _ => Nat.zero_le _
  | x :: l, h => by
    have := sum_len_le (l := l) fun y hy => h y (List.mem_cons_of_mem _ hy)
    have h1 := h x (List.mem_cons_self ..)
    simp only [List.map_cons, List.sum_cons, List.length_cons, Nat.add_mul, Nat.one_mul]
    omega
/-- texts of one sign each, joined -/
theorem oJoin_signs {α : Type} {f : α → Nat} {l : List α} (h : l.length ≤ 1000000) : oJoin [] [.lst (l.map fun x => D.str [f x])] = some (.str (l.map f)) := by
  have e : (l.map fun x => D.str [f x]) = (l.map fun x => [f x]).map D.str := by rw [List.map_map]; rfl
  rw [e, oJoin_lst, joinL_nil]
  · congr 2
    clear e h
    induction l with
    | nil => rfl
    | cons a l ih => simp [ih]
  · have := sum_len_le (f := fun x => [f x]) (k := 1) (l := l) (fun _ _ => Nat.le_refl _)
    simp only [List.length_nil, Nat.mul_zero, Nat.add_zero]
    omega
theorem ixl0 {α : Type} (xs : List α) : ixAt xs 0 = xs[0]? := ixAt_nat xs 0
theorem ixl1 {α : Type} (xs : List α) : ixAt xs 1 = xs[1]? := ixAt_nat xs 1
theorem ixl2 {α : Type} (xs : List α) : ixAt xs 2 = xs[2]? := ixAt_nat xs 2
theorem ixl3 {α : Type} (xs : List α) : ixAt xs 3 = xs[3]? := ixAt_nat xs 3
theorem ixl4 {α : Type} (xs : List α) : ixAt xs 4 = xs[4]? := ixAt_nat xs 4
theorem ixl5 {α : Type} (xs : List α) : ixAt xs 5 = xs[5]? := ixAt_nat xs 5
theorem ixl6 {α : Type} (xs : List α) : ixAt xs 6 = xs[6]? := ixAt_nat xs 6
theorem ixl7 {α : Type} (xs : List α) : ixAt xs 7 = xs[7]? := ixAt_nat xs 7
theorem ixl8 {α : Type} (xs : List α) : ixAt xs 8 = xs[8]? := ixAt_nat xs 8
theorem ixl9 {α : Type} (xs : List α) : ixAt xs 9 = xs[9]? := ixAt_nat xs 9
theorem ixl10 {α : Type} (xs : List α) : ixAt xs 10 = xs[10]? := ixAt_nat xs 10
theorem ixl11 {α : Type} (xs : List α) : ixAt xs 11 = xs[11]? := ixAt_nat xs 11
theorem ixl12 {α : Type} (xs : List α) : ixAt xs 12 = xs[12]? := ixAt_nat xs 12
theorem ixl13 {α : Type} (xs : List α) : ixAt xs 13 = xs[13]? := ixAt_nat xs 13
theorem ixl14 {α : Type} (xs : List α) : ixAt xs 14 = xs[14]? := ixAt_nat xs 14
theorem ixl15 {α : Type} (xs : List α) : ixAt xs 15 = xs[15]? := ixAt_nat xs 15
theorem ixl16 {α : Type} (xs : List α) : ixAt xs 16 = xs[16]? := ixAt_nat xs 16
theorem ixl17 {α : Type} (xs : List α) : ixAt xs 17 = xs[17]? := ixAt_nat xs 17
theorem ixl18 {α : Type} (xs : List α) : ixAt xs 18 = xs[18]? := ixAt_nat xs 18
theorem ixl19 {α : Type} (xs : List α) : ixAt xs 19 = xs[19]? := ixAt_nat xs 19
theorem ixl20 {α : Type} (xs : List α) : ixAt xs 20 = xs[20]? := ixAt_nat xs 20
theorem ixl21 {α : Type} (xs : List α) : ixAt xs 21 = xs[21]? := ixAt_nat xs 21
theorem ixl22 {α : Type} (xs : List α) : ixAt xs 22 = xs[22]? := ixAt_nat xs 22
theorem ixl23 {α : Type} (xs : List α) : ixAt xs 23 = xs[23]? := ixAt_nat xs 23
theorem ixl24 {α : Type} (xs : List α) : ixAt xs 24 = xs[24]? := ixAt_nat xs 24
theorem ixl25 {α : Type} (xs : List α) : ixAt xs 25 = xs[25]? := ixAt_nat xs 25
theorem ixl26 {α : Type} (xs : List α) : ixAt xs 26 = xs[26]? := ixAt_nat xs 26
theorem ixl27 {α : Type} (xs : List α) : ixAt xs 27 = xs[27]? := ixAt_nat xs 27
theorem ixl28 {α : Type} (xs : List α) : ixAt xs 28 = xs[28]? := ixAt_nat xs 28
theorem ixl29 {α : Type} (xs : List α) : ixAt xs 29 = xs[29]? := ixAt_nat xs 29
theorem ixl30 {α : Type} (xs : List α) : ixAt xs 30 = xs[30]? := ixAt_nat xs 30
theorem ixl31 {α : Type} (xs : List α) : ixAt xs 31 = xs[31]? := ixAt_nat xs 31
theorem ixl32 {α : Type} (xs : List α) : ixAt xs 32 = xs[32]? := ixAt_nat xs 32
theorem ixl33 {α : Type} (xs : List α) : ixAt xs 33 = xs[33]? := ixAt_nat xs 33
theorem ixl34 {α : Type} (xs : List α) : ixAt xs 34 = xs[34]? := ixAt_nat xs 34
theorem ixl35 {α : Type} (xs : List α) : ixAt xs 35 = xs[35]? := ixAt_nat xs 35
theorem ixl36 {α : Type} (xs : List α) : ixAt xs 36 = xs[36]? := ixAt_nat xs 36
theorem ixl37 {α : Type} (xs : List α) : ixAt xs 37 = xs[37]? := ixAt_nat xs 37
theorem ixl38 {α : Type} (xs : List α) : ixAt xs 38 = xs[38]? := ixAt_nat xs 38
theorem ixl39 {α : Type} (xs : List α) : ixAt xs 39 = xs[39]? := ixAt_nat xs 39
theorem ixl40 {α : Type} (xs : List α) : ixAt xs 40 = xs[40]? := ixAt_nat xs 40
theorem tk_map {α β : Type} (f : α → β) (xs : List α) (n : Nat) : (xs.map f).take n = (xs.take n).map f := by rw [List.map_take]
theorem dr_map {α β : Type} (f : α → β) (xs : List α) (n : Nat) : (xs.map f).drop n = (xs.drop n).map f := by rw [List.map_drop]
def kset4 := And.intro @tk_map <| And.intro @dr_map <| And.intro (And.intro (And.intro (And.intro (And.intro (@ixl0) (@ixl1)) (And.intro (@ixl2) (And.intro (@ixl3) (@ixl4)))) (And.intro (And.intro (@ixl5) (@ixl6)) (And.intro (@ixl7) (And.intro (@ixl8) (@ixl9))))) (And.intro (And.intro (And.intro (@ixl10) (@ixl11)) (And.intro (@ixl12) (And.intro (@ixl13) (@ixl14)))) (And.intro (And.intro (@ixl15) (@ixl16)) (And.intro (@ixl17) (And.intro (@ixl18) (@ixl19)))))) (And.intro (And.intro (And.intro (And.intro (@ixl20) (@ixl21)) (And.intro (@ixl22) (And.intro (@ixl23) (@ixl24)))) (And.intro (And.intro (@ixl25) (@ixl26)) (And.intro (@ixl27) (And.intro (@ixl28) (@ixl29))))) (And.intro (And.intro (And.intro (@ixl30) (@ixl31)) (And.intro (@ixl32) (And.intro (@ixl33) (@ixl34)))) (And.intro (And.intro (@ixl35) (And.intro (@ixl36) (@ixl37))) (And.intro (@ixl38) (And.intro (@ixl39) (@ixl40))))))
def kset3 := And.intro kset4 <| And.intro @nab1 (And.intro @nab2 (And.intro @nab3 (And.intro @nab4 (And.intro @nab5 (And.intro @nab6 (And.intro @dEq_blK (And.intro @allStr_map (And.intro @strsL_map (And.intro @dIn_tupS (And.intro @dIn_lstS (And.intro @dNotIn_tupS (And.intro @dNotIn_lstS @dNe_blK))))))))))))
def kset2 := And.intro kset3 (And.intro @oJoin_signs (And.intro @cut_loN (And.intro @cut_hiN (And.intro @cut_lohiN (And.intro @dIx_strZ (And.intro @dIx_strA (And.intro @qLc_k (And.intro @lcK_s (And.intro @seqK_no (And.intro @endK_no (And.intro @rF_no (And.intro @rX_no (And.intro @turnK_no (And.intro @appK_mlK (And.intro @rangeD_map (And.intro @cut_lo (And.intro @cut_hi (And.intro @cut_lohi (And.intro @cut_none (And.intro @cut_map (And.intro @def_int (And.intro @def_nat (And.intro @def_list (And.intro @dEq_lstK (And.intro @dNe_lstK (And.intro @dEq_tupK (And.intro @dNe_tupK (And.intro @dEq_mlK (And.intro @dNe_mlK @dEq_lmK)))))))))))))))))))))))))))))
def plset := And.intro @pl_non (And.intro @pl_int (And.intro @pl_str (And.intro @pl_tup (And.intro @pl_lst (And.intro @plL_nil (And.intro @plL_cons (And.intro @pl_tup @pl_lst)))))))
end Fw
/-! # what the top has left: as the kit's hook, and the interpreter's own statics -/
namespace Fw
open PySem PySem.Spec PyProof.Rows L2
def asY (g : Addr → Option Obj) (n : Nat) : List Addr := He.asD g n ++ [cStatics]
abbrev AlY : Type := He.AlD × Bool
def obsY (n : Nat) (fa : List He.Fa) (fn : List He.DefD) (ex : PySem.W.Frag → Bool) (g : Addr → Option Obj) : AlY := (He.obsD fa fn (He.frT g (asY g n)), ex (He.frT g (asY g n)))
structure SaysY (fa : List He.Fa) (fn : List He.DefD) (ex : PySem.W.Frag → Bool) (K : PySem.W.Frag) : Prop where
  d : He.SaysD fa fn K
  more : ex K = true
def hookY (n : Nat) (fa : List He.Fa) (fn : List He.DefD) (ex : PySem.W.Frag → Bool) : PySem.W.Hook where
  α := AlY
  obs := fun s => obsY n fa fn ex s.heap.get?
  val := fun _ => (He.valD fn, true)
  says := fun _ h => ∃ K : PySem.W.Frag, K.In h ∧ SaysY fa fn ex K
  of := fun _ _ e => ⟨_, He.frT_in, ⟨congrArg (fun z : AlY => z.1) e, congrArg (fun z : AlY => z.2) e⟩⟩
  keeps := fun _ _ _ ⟨K, hK, c⟩ k => ⟨K, PySem.W.Frag.In.keeps hK k, c⟩
theorem obsY_eq {n : Nat} {fa : List He.Fa} {fn : List He.DefD} {ex : PySem.W.Frag → Bool} {g : Addr → Option Obj} {s : Shared} (h : ∀ a, g a = s.heap.get? a) : obsY n fa fn ex g = (hookY n fa fn ex).obs s := by
  have e : g = s.heap.get? := funext h
  rw [e] <;> rfl
end Fw
/-! # defs and methods that only look, and hand back a new instance -/
namespace Fw
open PySem PySem.Spec PyProof.Rows L2
open Evl (Ex)
mutual
/-- new places and data, shared instances below n -/
def noO (n : Nat) : D → Bool
  | .non => true
  | .bl _ => true
  | .int _ => true
  | .str _ => true
  | .tup ds => noLL ds
  | .ref k => decide (k < n)
  | .ml ds => noOL n ds
  | .obj _ _ ds => noOL n ds
  | _ => false
def noOL (n : Nat) : List D → Bool
  | [] => true
  | d :: ds => noO n d && noOL n ds
end
mutual
theorem noL_data : ∀ d : D, noL d = true → data d = true
  | .non, _ => rfl
  | .bl _, _ => rfl
  | .int _, _ => rfl
  | .str _, _ => rfl
  | .tup ds, h => noLL_data ds h
  | .lst _, h => by cases h
  | .ml _, h => by cases h
  | .obj _ _ _, h => by cases h
  | .fo _ _ _, h => by cases h
  | .ref _, h => by cases h
  | .un, h => by cases h
theorem noLL_data : ∀ ds : List D, noLL ds = true → dataL ds = true
  | [], _ => rfl
  | d :: ds, h => by
    obtain ⟨a, b⟩ := Bool.and_eq_true_iff.mp (show (noL d && noLL ds) = true from h)
    show (data d && dataL ds) = true
    rw [noL_data d a, noLL_data ds b]
    rfl
end
section
variable {K : PySem.W.Frag} {W : Wd}
mutual
theorem R_noO {W' : Wd} {n : Nat} (hH : W'.H = W.H) (hm : ∀ (k : Nat) (a : Addr), k < n → W.m[k]? = some a → W'.m[k]? = some a) : ∀ (d : D) {v : V} {F : List Addr}, noO n d = true → R K W d v F → R K W' d v F
  | .non, _, _, _, h => h
  | .bl _, _, _, _, h => h
  | .int _, _, _, _, h => h
  | .str _, _, _, _, h => h
  | .tup ds, _, _, q, h => by
    have e := R_data (.tup ds) (noLL_data ds q) h
    have := R_noL hH (.tup ds) q h
    rw [e]
    exact this
  | .ref k, _, _, q, h => by
    obtain ⟨a, h1, h2, h3⟩ := h
    exact ⟨a, h1, hm k a (of_decide_eq_true q) h2, h3⟩
  | .ml ds, _, _, q, h => by
    obtain ⟨a, vs, F', h1, h2, h3, h4⟩ := h
    exact ⟨a, vs, F', h1, by rw [hH]; exact h2, RL_noO hH hm ds q h3, h4⟩
  | .obj c ns ds, _, _, q, h => by
    obtain ⟨a, dx, vs, F', h1, h2, h3, h4, h5⟩ := h
    exact ⟨a, dx, vs, F', h1, by rw [hH]; exact h2, h3, RL_noO hH hm ds q h4, h5⟩
  | .lst _, _, _, q, _ => by cases q
  | .fo _ _ _, _, _, q, _ => by cases q
  | .un, _, _, q, _ => by cases q
theorem RL_noO {W' : Wd} {n : Nat} (hH : W'.H = W.H) (hm : ∀ (k : Nat) (a : Addr), k < n → W.m[k]? = some a → W'.m[k]? = some a) : ∀ (ds : List D) {vs : List V} {F : List Addr}, noOL n ds = true → RL K W ds vs F → RL K W' ds vs F
  | [], _, _, _, h => h
  | d :: ds, _, _, q, h => by
    obtain ⟨v, vs', F1, F2, h1, h2, h3, h4⟩ := h
    obtain ⟨qa, qb⟩ := Bool.and_eq_true_iff.mp (show (noO n d && noOL n ds) = true from q)
    exact ⟨v, vs', F1, F2, h1, R_noO hH hm d qa h2, RL_noO hH hm ds qb h3, h4⟩
end
end
/-- into a def that only looks, and back with what is new -/
theorem own_back {K : PySem.W.Frag} {n : Nat} {run : RF} {W : Wd} {σ : L2.St} {ρ μ ds : List D} {F : List Addr} {vs : List V} {d : D} {Q : VK} {E : XK} (S : Sta K W σ ρ μ F) (r : RL K W.all ds vs []) (hn : ds.length = n) (hr : run ds (fzL μ) = some d) (hd : noO μ.length d = true)
    (q : ∀ v W' G, Ext W W' → R K W' d v G → G.Nodup → (∀ a ∈ G, Own W' a ∧ W.H a = none) → Q v W'.H) : spF K n run vs W.H Q E := by
  obtain ⟨F1, F2, _, h2, _⟩ := S.ex
  refine ⟨W.all, ds, fzL μ, d, rfl, Wd.all_ok, r, RL_fz S.ok μ h2, hn, hr, fun v W2 G rv ok2 nd own mv => ?_⟩
  have new : ∀ a ∈ G, W.H a = none := fun a ha => (mv.own a ha).elim (fun z => nomatch z) id
  have keep : ∀ a o, W.H a = some o → W2.H a = some o := fun a o e => mv.keep a o e (fun z => nomatch z)
  have hx : Ext W ⟨W2.H, W.Fr, W.m⟩ := ⟨keep, fun _ h => h, fun _ h => .inl h, rfl, fun a h => by
    intro z
    cases e : W.H a with
    | none => exact S.ok a h e
    | some o =>
      have := keep a o e
      rw [show W2.H a = none from z] at this
      cases this⟩
  refine q v ⟨W2.H, W.Fr, W.m⟩ G hx (R_noO (W := W2) (W' := ⟨W2.H, W.Fr, W.m⟩) rfl (fun k a hk e => ?_) d hd rv) nd fun a ha => ⟨⟨fun z => S.ok a z (new a ha), (own a ha).2⟩, new a ha⟩
  obtain ⟨l, hl⟩ := mv.m
  have hl2 : W2.m = W.m ++ l := hl
  have len : W.m.length = μ.length := by
    have := RL_len h2
    rwa [List.length_map] at this
  rw [hl2, List.getElem?_append_left (by omega)] at e
  exact e
section
variable {X : Cx} {Wx : WX} {e o : Expr} {es : List Expr} {p apos pos : Pos} {kq : FA} {x m : Str} {k n : Nat} {dd : List D} {run : RF} {f : FQ}
def qRunG (n : Nat) (dd : List D) (run : RF) (k : FA) : FQ := fun ρ μ => (k ρ μ).bind fun as => if (fzL as ++ dd).length = n then (run (fzL as ++ dd) (fzL μ)).bind fun d => if noO μ.length d = true then some d else none else none
def xRunG (n : Nat) (dd : List D) (run : RF) (k : FA) : FX := fun ρ μ => (qRunG n dd run k ρ μ).map fun d => .ok d ρ μ
theorem fresh_nd {K : PySem.W.Frag} {W W' : Wd} {σ : L2.St} {ρ μ : List D} {F G : List Addr} (S : Sta K W σ ρ μ F) (nd : G.Nodup) (h : ∀ a ∈ G, Own W' a ∧ W.H a = none) : (G ++ F).Nodup := by
  rw [List.nodup_append]
  refine ⟨nd, S.nd, fun a ha b hb e => ?_⟩
  subst e
  obtain ⟨_, w⟩ := S.own a hb
  have z := (h a ha).2
  rcases w with ⟨xs, w⟩ | ⟨C, dx, fs, w⟩ <;> rw [z] at w <;> cases w
theorem Ext.mvG {W W' : Wd} {F G : List Addr} (x : Ext W W') (h : ∀ a ∈ G, W.H a = none) : Mv W W' F (G ++ F) :=
  ⟨fun a o e _ => x.ex a o e, x.fr, fun a z => (x.nf a z).elim .inl fun z => .inr (.inl z), fun a ha => (List.mem_append.mp ha).elim (fun z => .inr (h a z)) .inl, ⟨[], by rw [x.m, List.append_nil]⟩⟩
theorem callG_run {t : TA} {dvs : List V} (hdd : ∀ W : Wd, RL X.K W dd dvs [])
    (k1 : ∀ (σ : L2.St) (W : Wd) (ρ μ : List D) (F : List Addr), Sta X.K W σ ρ μ F → ∀ ds, kq ρ μ = some ds → ∀ Q : List V → Hp → Prop, (∀ vs W' G, Ext W W' → RL X.K W' ds vs G → Q vs W'.H) → t σ W.H Q)
    {σ : L2.St} {W : Wd} {ρ μ : List D} {F : List Addr} (S : Sta X.K W σ ρ μ F) {d : D} (hd : qRunG n dd run kq ρ μ = some d) {Q : VK} {E : XK} (q : ∀ v W' G, Ext W W' → R X.K W' d v G → G.Nodup → (∀ a ∈ G, Own W' a ∧ W.H a = none) → Q v W'.H) :
    t σ W.H fun vs H1 => spF X.K n run (vs ++ dvs) H1 Q E := by
  obtain ⟨as, e1, hd⟩ := bind_some hd
  by_cases hl : (fzL as ++ dd).length = n
  case neg => rw [if_neg hl] at hd; cases hd
  rw [if_pos hl] at hd
  obtain ⟨d', e2, hd⟩ := bind_some hd
  by_cases hz : noO μ.length d' = true
  case neg => rw [if_neg hz] at hd; cases hd
  rw [if_pos hz] at hd
  cases hd
  refine k1 σ W ρ μ F S as e1 _ fun vs W1 G1 x1 r1 => ?_
  exact own_back (S.ext x1) (RL_app (RL_fz x1.ok as r1) (hdd _)) hl e2 hz fun v W2 G2 x2 r2 nd nw => q v W2 G2 (x1.trans x2) r2 nd fun a ha => ⟨(nw a ha).1, Evl.fresh_back x1.ex (nw a ha).2⟩
theorem pq_callG (O : OkF X.prog X.w X.K X.mg X.base x k n dd run) (hr : Room k X.A) (ha : PAQ X (e :: es) kq) (hg : Gl X x := by rfl) (hdb : (x == ("__debug__" : Str)) = false := by decide)
    (he : starEach (e :: es) X.env = (false, eval e X.env) :: starEach es X.env := by rfl) (hpl : (backTo pos (starEach es X.env)).any (·.1) = false := by rfl) : PQ X (.Call (.Name x p) (e :: es) [] pos) (qRunG n dd run kq) := by
  obtain ⟨f, fd, ps, dvs, us, hF, hb, hv, hdd, hm, hk⟩ := O
  obtain ⟨t, pt, k1⟩ := ha
  refine ⟨_, pe_call hF hr hg hm hk hb hv passN pt hdb he hpl, fun σ W ρ μ F S d hd Q q => ?_⟩
  exact callG_run hdd k1 S hd fun v W' G x r _ _ => q v W' G x r
theorem px_callG (O : OkF X.prog X.w X.K X.mg X.base x k n dd run) (hr : Room k X.A) (ha : PAQ X (e :: es) kq) (hg : Gl X x := by rfl) (hdb : (x == ("__debug__" : Str)) = false := by decide)
    (he : starEach (e :: es) X.env = (false, eval e X.env) :: starEach es X.env := by rfl) (hpl : (backTo pos (starEach es X.env)).any (·.1) = false := by rfl) : PX X Wx (.Call (.Name x p) (e :: es) [] pos) (xRunG n dd run kq) := by
  obtain ⟨f, fd, ps, dvs, us, hF, hb, hv, hdd, hm, hk⟩ := O
  obtain ⟨t, pt, k1⟩ := ha
  refine ⟨_, pe_call hF hr hg hm hk hb hv passN pt hdb he hpl, fun σ W ρ μ F S o ho Q hQ => ?_⟩
  obtain ⟨d, hd, rfl⟩ := map_some ho
  exact callG_run hdd k1 S hd fun v W' G x r nd nw => hQ v W' G F r (S.ext x) (fresh_nd S nd nw) (fun a ha => (nw a ha).1) (x.mvG fun a ha => (nw a ha).2)
/-! ### methods -/
def qMethG (m : Str) (n : Nat) (dd : List D) (runs : MTF) (f : FQ) (k : FA) : FQ := fun ρ μ => (f ρ μ).bind fun t => (clsOf μ t).bind fun z => if fidx m z.2 = none then (runs z.1).bind fun run => (k ρ μ).bind fun as => if (fz t :: (fzL as ++ dd)).length = n then (run (fz t :: (fzL as ++ dd)) (fzL μ)).bind fun d => if noO μ.length d = true then some d else none else none else none
def xMethG (m : Str) (n : Nat) (dd : List D) (runs : MTF) (f : FQ) (k : FA) : FX := fun ρ μ => (qMethG m n dd runs f k ρ μ).map fun d => .ok d ρ μ
theorem methG_run {te : TE} {t : TA} {runs : MTF} (OM : OkMTF X m k n dd runs) (h0 : ∀ (σ : L2.St) (W : Wd) (ρ μ : List D) (F : List Addr), Sta X.K W σ ρ μ F → ∀ d, f ρ μ = some d → ∀ Q : VK, (∀ v W' G, Ext W W' → R X.K W' d v G → Q v W'.H) → te σ W.H Q)
    (k1 : ∀ (σ : L2.St) (W : Wd) (ρ μ : List D) (F : List Addr), Sta X.K W σ ρ μ F → ∀ ds, kq ρ μ = some ds → ∀ Q : List V → Hp → Prop, (∀ vs W' G, Ext W W' → RL X.K W' ds vs G → Q vs W'.H) → t σ W.H Q)
    {σ : L2.St} {W : Wd} {ρ μ : List D} {F : List Addr} (S : Sta X.K W σ ρ μ F) {d : D} (hd : qMethG m n dd runs f kq ρ μ = some d) {Q : VK} (q : ∀ v W' G, Ext W W' → R X.K W' d v G → G.Nodup → (∀ a ∈ G, Own W' a ∧ W.H a = none) → Q v W'.H) : tMX X (fun _ _ _ _ => False) m k te t σ W.H Q := by
  obtain ⟨t0, e0, hd⟩ := bind_some hd
  obtain ⟨z, e1, hd⟩ := bind_some hd
  by_cases hf : fidx m z.2 = none
  case neg => rw [if_neg hf] at hd; cases hd
  rw [if_pos hf] at hd
  obtain ⟨run, e2, hd⟩ := bind_some hd
  obtain ⟨as, e3, hd⟩ := bind_some hd
  by_cases hl : (fz t0 :: (fzL as ++ dd)).length = n
  case neg => rw [if_neg hl] at hd; cases hd
  rw [if_pos hl] at hd
  obtain ⟨d', e4, hd⟩ := bind_some hd
  by_cases hz : noO μ.length d' = true
  case neg => rw [if_neg hz] at hd; cases hd
  rw [if_pos hz] at hd
  cases hd
  obtain ⟨g, fd, ps, dvs, us, hF, hb, hv, hdd, hc, hm⟩ := OM z.1 run e2
  refine h0 σ W ρ μ F S t0 e0 _ fun v W1 G1 x1 r1 => ?_
  have S1 := S.ext x1
  have hv2 : ∃ a dx vs, v = .ref a ∧ W1.H a = some (.ins (He.ga X.K z.1) dx (z.2.zip vs)) := by
    cases t0 with
    | ref j =>
      obtain ⟨t2, e5, e6⟩ := bind_some (show (μ[j]?).bind clsO = some z from e1)
      obtain ⟨a, rfl, h3, _⟩ := r1
      obtain ⟨F1, F2, _, h4, _⟩ := S1.ex
      obtain ⟨a', G', h5, h6, _⟩ := RL_map_get h4 e5
      rw [h3] at h5
      cases h5
      exact R_cls h6 e6
    | _ => exact R_cls r1 e1
  obtain ⟨a, dx, vs0, rfl, hH⟩ := hv2
  refine ⟨a, _, dx, _, g, fd, ps, _, dvs, us, rfl, hH, hc, hm, fidx_none hf, hF, hb, hv, ?_⟩
  refine k1 σ W1 ρ μ F S1 as e3 _ fun vs W2 G2 x2 r2 => ?_
  exact own_back (ds := fz t0 :: (fzL as ++ dd)) (vs := .ref a :: (vs ++ dvs)) (S1.ext x2) ⟨.ref a, vs ++ dvs, [], [], rfl, R_fz x2.ok t0 (R_ext x2 t0 r1), RL_app (RL_fz x2.ok as r2) (hdd _), rfl⟩ hl e4 hz fun v W3 G3 x3 r3 nd nw => q v W3 G3 ((x1.trans x2).trans x3) r3 nd fun a ha => ⟨(nw a ha).1, Evl.fresh_back (x1.trans x2).ex (nw a ha).2⟩
section
variable {pl : Sem Bool} {runs : MTF}
theorem pq_methG (OM : OkMTF X m k n dd runs) (hp : PQ X o f) (hr : Room k X.A) (ha : PAQ X (e :: es) kq)
    (hst : starEach (e :: es) X.env = (false, eval e X.env) :: starEach es X.env := by rfl) (hpl : (backTo pos (starEach es X.env)).any (·.1) = false := by rfl)
    (ht : eval (.Call (.Attribute o m apos) (e :: es) [] pos) X.env = (do
      let ov ← eval o X.env
      standAt apos.atName
      let (f, first) ← holding [ov] (getMethod ov m pl)
      callWith pos f first (backTo pos (starEach (e :: es) X.env)) (backToKw pos (keywordEach [] X.env))) := by rfl) :
    PQ X (.Call (.Attribute o m apos) (e :: es) [] pos) (qMethG m n dd runs f kq) := by
  obtain ⟨t, pt, k1⟩ := ha
  obtain ⟨te, pe, k0⟩ := hp
  exact ⟨_, pe_mx pe hr takesN0 pt hst hpl ht, fun σ W ρ μ F S d hd Q q => methG_run OM k0 k1 S hd fun v W' G x r _ _ => q v W' G x r⟩
theorem pq_methG0 (OM : OkMTF X m k n dd runs) (hp : PQ X o f) (hr : Room k X.A)
    (ht : eval (.Call (.Attribute o m apos) [] [] pos) X.env = (do
      let ov ← eval o X.env
      standAt apos.atName
      let (f, first) ← holding [ov] (getMethod ov m pl)
      callWith pos f first (backTo pos (starEach [] X.env)) (backToKw pos (keywordEach [] X.env))) := by rfl) :
    PQ X (.Call (.Attribute o m apos) [] [] pos) (qMethG m n dd runs f aNil) := by
  obtain ⟨te, pe, k0⟩ := hp
  refine ⟨_, pe_mx0 pe hr takesN0 ht, fun σ W ρ μ F S d hd Q q => methG_run (kq := aNil) (t := tNil) OM k0 (fun σ W ρ μ F S ds hd Q q => ?_) S hd fun v W' G x r _ _ => q v W' G x r⟩
  cases hd
  exact q [] W [] (Ext.refl S.ok) ⟨rfl, rfl⟩
theorem px_methG (OM : OkMTF X m k n dd runs) (hp : PQ X o f) (hr : Room k X.A) (ha : PAQ X (e :: es) kq)
    (hst : starEach (e :: es) X.env = (false, eval e X.env) :: starEach es X.env := by rfl) (hpl : (backTo pos (starEach es X.env)).any (·.1) = false := by rfl)
    (ht : eval (.Call (.Attribute o m apos) (e :: es) [] pos) X.env = (do
      let ov ← eval o X.env
      standAt apos.atName
      let (f, first) ← holding [ov] (getMethod ov m pl)
      callWith pos f first (backTo pos (starEach (e :: es) X.env)) (backToKw pos (keywordEach [] X.env))) := by rfl) :
    PX X Wx (.Call (.Attribute o m apos) (e :: es) [] pos) (xMethG m n dd runs f kq) := by
  obtain ⟨t, pt, k1⟩ := ha
  obtain ⟨te, pe, k0⟩ := hp
  refine ⟨_, pe_mx pe hr takesN0 pt hst hpl ht, fun σ W ρ μ F S o ho Q hQ => ?_⟩
  obtain ⟨d, hd, rfl⟩ := map_some ho
  exact methG_run OM k0 k1 S hd fun v W' G x r nd nw => hQ v W' G F r (S.ext x) (fresh_nd S nd nw) (fun a ha => (nw a ha).1) (x.mvG fun a ha => (nw a ha).2)
theorem px_methG0 (OM : OkMTF X m k n dd runs) (hp : PQ X o f) (hr : Room k X.A)
    (ht : eval (.Call (.Attribute o m apos) [] [] pos) X.env = (do
      let ov ← eval o X.env
      standAt apos.atName
      let (f, first) ← holding [ov] (getMethod ov m pl)
      callWith pos f first (backTo pos (starEach [] X.env)) (backToKw pos (keywordEach [] X.env))) := by rfl) :
    PX X Wx (.Call (.Attribute o m apos) [] [] pos) (xMethG m n dd runs f aNil) := by
  obtain ⟨te, pe, k0⟩ := hp
  refine ⟨_, pe_mx0 pe hr takesN0 ht, fun σ W ρ μ F S o ho Q hQ => ?_⟩
  obtain ⟨d, hd, rfl⟩ := map_some ho
  refine methG_run (kq := aNil) (t := tNil) OM k0 (fun σ W ρ μ F S ds hd Q q => ?_) S hd fun v W' G x r nd nw => hQ v W' G F r (S.ext x) (fresh_nd S nd nw) (fun a ha => (nw a ha).1) (x.mvG fun a ha => (nw a ha).2)
  cases hd
  exact q [] W [] (Ext.refl S.ok) ⟨rfl, rfl⟩
end
end
/-! ### reckoning -/
def noK (n : Nat) (o : Option D) : Option D := o.bind fun d => if noO n d = true then some d else none
theorem qRunG_k (n : Nat) (dd : List D) (run : RF) (k : FA) (x0 : D) (ρ μ : List D) : qRunG n dd run k (x0 :: ρ) μ = (k (x0 :: ρ) μ).bind fun as => if (fzL as ++ dd).length = n then noK μ.length (run (fzL as ++ dd) (fzL μ)) else none := rfl
theorem xRunG_k (n : Nat) (dd : List D) (run : RF) (k : FA) (x0 : D) (ρ μ : List D) : xRunG n dd run k (x0 :: ρ) μ = (qRunG n dd run k (x0 :: ρ) μ).map fun d => .ok d (x0 :: ρ) μ := rfl
theorem qMethG_k (m : Str) (n : Nat) (dd : List D) (runs : MTF) (f : FQ) (k : FA) (x0 : D) (ρ μ : List D) : qMethG m n dd runs f k (x0 :: ρ) μ = (f (x0 :: ρ) μ).bind fun t => (clsOf μ t).bind fun z => if fidx m z.2 = none then (runs z.1).bind fun run => (k (x0 :: ρ) μ).bind fun as => if (fz t :: (fzL as ++ dd)).length = n then noK μ.length (run (fz t :: (fzL as ++ dd)) (fzL μ)) else none else none := rfl
theorem xMethG_k (m : Str) (n : Nat) (dd : List D) (runs : MTF) (f : FQ) (k : FA) (x0 : D) (ρ μ : List D) : xMethG m n dd runs f k (x0 :: ρ) μ = (qMethG m n dd runs f k (x0 :: ρ) μ).map fun d => .ok d (x0 :: ρ) μ := rfl
theorem noK_s (n : Nat) (d : D) : noK n (some d) = if noO n d = true then some d else none := rfl
theorem noK_ite {c : Prop} [Decidable c] (n : Nat) (a b : Option D) : noK n (if c then a else b) = if c then noK n a else noK n b := by split <;> rfl
theorem noO_non (n : Nat) : noO n .non = true := rfl
theorem noO_bl (n : Nat) (b : Bool) : noO n (.bl b) = true := rfl
theorem noO_int (n : Nat) (b : Int) : noO n (.int b) = true := rfl
theorem noO_str (n : Nat) (b : List Nat) : noO n (.str b) = true := rfl
theorem noO_tup (n : Nat) (ds : List D) : noO n (.tup ds) = noLL ds := rfl
theorem noO_ref (n k : Nat) : noO n (.ref k) = decide (k < n) := rfl
theorem noO_ml (n : Nat) (ds : List D) : noO n (.ml ds) = noOL n ds := rfl
theorem noO_obj (n : Nat) (c : Str) (ns : List Str) (ds : List D) : noO n (.obj c ns ds) = noOL n ds := rfl
theorem noOL_nil (n : Nat) : noOL n [] = true := rfl
theorem noOL_cons (n : Nat) (d : D) (ds : List D) : noOL n (d :: ds) = (noO n d && noOL n ds) := rfl
theorem noLL_strs : ∀ es : List (List Nat), noLL (es.map D.str) = true
  | [] => rfl
  | _ :: es => noLL_strs es
theorem noLL_ints : ∀ es : List Int, noLL (es.map D.int) = true
  | [] => rfl
  | _ :: es => noLL_ints es
def kset5 := And.intro @qRunG_k <| And.intro @xRunG_k <| And.intro @qMethG_k <| And.intro @xMethG_k <| And.intro @noK_s <| And.intro @noK_ite <| And.intro @noO_non <| And.intro @noO_bl <| And.intro @noO_int <| And.intro @noO_str <| And.intro @noO_tup <| And.intro @noO_ref <| And.intro @noO_ml <| And.intro @noO_obj <| And.intro @noOL_nil <| And.intro @noOL_cons <| And.intro @noLL_strs @noLL_ints
end Fw
/-! # more methods of texts -/
namespace Fw
open PySem PySem.Spec PyProof.Rows L2
open Evl (Ex)
/-! ### strip -/
def stripL (s t : List Nat) : List Nat := ((s.dropWhile t.contains).reverse.dropWhile t.contains).reverse
theorem drop_tw {α : Type} (p : α → Bool) : ∀ l : List α, l.drop (l.takeWhile p).length = l.dropWhile p
  | [] => rfl
  | a :: l => by
    rw [List.takeWhile_cons, List.dropWhile_cons]
    split
    · rw [List.length_cons, List.drop_succ_cons, drop_tw p l]
    · rfl
theorem tw_le {α : Type} (p : α → Bool) (l : List α) : (l.takeWhile p).length ≤ l.length := by
  have := congrArg List.length (List.takeWhile_append_dropWhile (p := p) (l := l))
  rw [List.length_append] at this
  omega
theorem arr_contains (t : List Nat) (c : Nat) : (tr t).cps.contains c = t.contains c := by
  show t.toArray.contains c = _
  simp
theorem tl_strip (s t : List Nat) : TL.tl (Txt.stripChars (tr s) (tr t)) = stripL s t := by
  have e : (tr t).cps.contains = t.contains := funext (arr_contains t)
  show TL.tl (Txt.stripBy (tr t).cps.contains true true (tr s)) = _
  rw [e, stripBy_eq, TL.tl_strSub]
  have h1 : stripLo t.contains true (tr s) = (s.takeWhile t.contains).length := rfl
  have h2 : stripHi t.contains true (tr s) (stripLo t.contains true (tr s)) = s.length - ((s.drop (s.takeWhile t.contains).length).reverse.takeWhile t.contains).length := by
    show (tr s).length - _ = _
    rw [tr_length]
    rfl
  rw [h2, h1]
  show (s.drop (s.takeWhile t.contains).length).take _ = _
  rw [drop_tw]
  unfold stripL
  have h3 : (s.dropWhile t.contains).length = s.length - (s.takeWhile t.contains).length := by
    rw [← drop_tw, List.length_drop]
  have h4 := tw_le t.contains (s.dropWhile t.contains).reverse
  rw [List.length_reverse] at h4
  have h5 := drop_tw t.contains (s.dropWhile t.contains).reverse
  rw [← h5, List.drop_reverse, List.reverse_reverse, h3]
  congr 1
  omega
def oStrip : List Nat → List D → Option D
  | s, [.str t] => if s.length ≤ LIM then some (.str (stripL s t)) else none
  | _, _ => none
theorem str_of_tl {y : Str} {l : List Nat} (h : TL.tl y = l) : y = tr l := TL.ext_tl (by rw [h])
theorem mtd_strip {X : Cx} : MtD X "str.strip" oStrip := by
  refine ⟨_, mt_stripChars, fun W s ds vs G ok rl d hd Q q => ?_⟩
  match ds, hd with
  | [.str t], hd =>
    obtain ⟨v, rfl, r1⟩ := RL_one rl
    obtain ⟨rfl, _⟩ := r1
    have hd2 : (if s.length ≤ LIM then some (D.str (stripL s t)) else none) = some d := hd
    by_cases hl : s.length ≤ LIM
    case neg => rw [if_neg hl] at hd2; cases hd2
    rw [if_pos hl] at hd2
    cases hd2
    exact ⟨tr s, tr t, rfl, rfl, by rw [tr_length]; exact lim_ok hl, q _ W [] (Ext.refl ok) ⟨congrArg V.str (str_of_tl (tl_strip s t)), rfl⟩⟩
/-! ### partition -/
def parL (s t : List Nat) : List Nat × List Nat × List Nat := match TL.par t [] s with
  | some (a, b) => (a, t, b)
  | none => (s, [], [])
def oPart : List Nat → List D → Option D
  | s, [.str t] => if t ≠ [] ∧ s.length ≤ LIM then some (.tup [.str (parL s t).1, .str (parL s t).2.1, .str (parL s t).2.2]) else none
  | _, _ => none
theorem part_tr {s t : List Nat} (h : t ≠ []) : Txt.partition (tr s) (tr t) = (tr (parL s t).1, tr (parL s t).2.1, tr (parL s t).2.2) := by
  rw [TL.partition_par (tr s) (tr t) h]
  unfold parL
  show (match TL.par t [] s with | some (a, b) => _ | none => _) = _
  cases TL.par t [] s with
  | none => rfl
  | some z => rfl
theorem mtd_partition {X : Cx} : MtD X "str.partition" oPart := by
  refine ⟨_, mt_partition, fun W s ds vs G ok rl d hd Q q => ?_⟩
  match ds, hd with
  | [.str t], hd =>
    obtain ⟨v, rfl, r1⟩ := RL_one rl
    obtain ⟨rfl, _⟩ := r1
    have hd2 : (if t ≠ [] ∧ s.length ≤ LIM then some (D.tup [.str (parL s t).1, .str (parL s t).2.1, .str (parL s t).2.2]) else none) = some d := hd
    by_cases hl : t ≠ [] ∧ s.length ≤ LIM
    case neg => rw [if_neg hl] at hd2; cases hd2
    rw [if_pos hl] at hd2
    cases hd2
    refine ⟨tr s, tr t, rfl, rfl, ?_, by rw [tr_length]; exact lim_ok hl.2, fun p hp => ?_⟩
    · rw [tr_length]
      cases t with
      | nil => exact absurd rfl hl.1
      | cons c t => rfl
    · rw [part_tr hl.1]
      refine q _ (W.put p _) [] (Ext.put ok hp) (R_newT (F := []) ok hp ?_)
      exact ⟨_, _, [], [], rfl, ⟨rfl, rfl⟩, ⟨_, _, [], [], rfl, ⟨rfl, rfl⟩, ⟨_, _, [], [], rfl, ⟨rfl, rfl⟩, ⟨rfl, rfl⟩, rfl⟩, rfl⟩, rfl⟩
/-! ### split -/
def oSplit : List Nat → List D → Option D
  | s, [.str t] => if (t ≠ [] ∧ t.all (fun c => decide (c < 256)) = true) ∧ s.length + 2 ≤ LIM then some (.lst ((TL.spl t 0 [] s).map D.str)) else none
  | _, _ => none
theorem RL_strs {K : PySem.W.Frag} {W : Wd} : ∀ l : List (List Nat), RL K W (l.map D.str) ((l.map tr).map V.str) []
  | [] => ⟨rfl, rfl⟩
  | s :: l => ⟨_, _, [], [], rfl, ⟨rfl, rfl⟩, RL_strs l, rfl⟩
theorem split_tr {s t : List Nat} (h : t ≠ []) (h2 : t.all (fun c => decide (c < 256)) = true) : Txt.split (tr s) (tr t) = (TL.spl t 0 [] s).map tr := by
  refine TL.map_tl_inj ?_
  rw [TL.split_spl (tr s) (tr t) h]
  · rw [map_tl_tr]
  · have e : Builtin.Str.strKind (tr t) = 1 := by
      unfold Builtin.Str.strKind
      rw [if_pos]
      show t.toArray.all _ = true
      simpa using h2
    rw [e]
    unfold Builtin.Str.strKind
    split
    · decide
    · split <;> decide
theorem mtd_split {X : Cx} : MtD X "str.split" oSplit := by
  refine ⟨_, mt_split, fun W s ds vs G ok rl d hd Q q => ?_⟩
  match ds, hd with
  | [.str t], hd =>
    obtain ⟨v, rfl, r1⟩ := RL_one rl
    obtain ⟨rfl, _⟩ := r1
    have hd2 : (if (t ≠ [] ∧ t.all (fun c => decide (c < 256)) = true) ∧ s.length + 2 ≤ LIM then some (D.lst ((TL.spl t 0 [] s).map D.str)) else none) = some d := hd
    by_cases hl : (t ≠ [] ∧ t.all (fun c => decide (c < 256)) = true) ∧ s.length + 2 ≤ LIM
    case neg => rw [if_neg hl] at hd2; cases hd2
    rw [if_pos hl] at hd2
    cases hd2
    refine ⟨tr s, tr t, rfl, rfl, ?_, by rw [tr_length]; exact lim_ok hl.2, fun p hp => ?_⟩
    · rw [tr_length]
      cases t with
      | nil => exact absurd rfl hl.1.1
      | cons c t => rfl
    · rw [split_tr hl.1.1 hl.1.2]
      exact q _ (W.frz p _) [] (Ext.frz ok hp) (R_newL ok hp (RL_strs _))
/-! ### reckoning -/
theorem oStrip_k {s t : List Nat} (h : s.length ≤ 1000000) : oStrip s [.str t] = some (.str (stripL s t)) := if_pos (lk h)
theorem oPart_k {s : List Nat} {c : Nat} {t : List Nat} (h : s.length ≤ 1000000) : oPart s [.str (c :: t)] = some (.tup [.str (parL s (c :: t)).1, .str (parL s (c :: t)).2.1, .str (parL s (c :: t)).2.2]) := if_pos ⟨List.cons_ne_nil _ _, lk h⟩
theorem oSplit_k {s : List Nat} {c : Nat} (h : s.length ≤ 900000) (hc : c < 256) : oSplit s [.str [c]] = some (.lst ((TL.spl [c] 0 [] s).map D.str)) := by
  have h2 : s.length + 2 ≤ LIM := by show _ ≤ 1000000; omega
  exact if_pos ⟨⟨List.cons_ne_nil _ _, by simp [hc]⟩, h2⟩
theorem boolsD_fun {α : Type} (f : α → Bool) : ∀ l : List α, boolsD (l.map fun x => .bl (f x)) = some (l.map f)
  | [] => rfl
  | a :: l => by
    show (boolsD (l.map fun x => .bl (f x))).map _ = _
    rw [boolsD_fun f l]
    rfl
theorem intsD_fun {α : Type} (f : α → Int) : ∀ l : List α, intsD (l.map fun x => .int (f x)) = some (l.map f)
  | [] => rfl
  | a :: l => by
    show (intsD (l.map fun x => .int (f x))).map _ = _
    rw [intsD_fun f l]
    rfl
theorem dIs_n (d : D) : dIs d .non = some (.bl (isNonD d)) := by cases d <;> rfl
theorem dIsNot_n (d : D) : dIsNot d .non = some (.bl (!isNonD d)) := by cases d <;> rfl
theorem isNonD_non : isNonD .non = true := rfl
theorem isNonD_int (i : Int) : isNonD (.int i) = false := rfl
theorem isNonD_str (i : List Nat) : isNonD (.str i) = false := rfl
theorem isNonD_bl (i : Bool) : isNonD (.bl i) = false := rfl
theorem isNonD_tup (i : List D) : isNonD (.tup i) = false := rfl
theorem isNonD_lst (i : List D) : isNonD (.lst i) = false := rfl
theorem isNonD_ml (i : List D) : isNonD (.ml i) = false := rfl
theorem isNonD_obj (c : Str) (ns : List Str) (i : List D) : isNonD (.obj c ns i) = false := rfl
theorem isNonD_fo (c : Str) (ns : List Str) (i : List D) : isNonD (.fo c ns i) = false := rfl
theorem isNonD_ref (i : Nat) : isNonD (.ref i) = false := rfl
theorem dTuple_lst (ds : List D) : dTuple (.lst ds) = some (.tup ds) := rfl
theorem dTuple_tup (ds : List D) : dTuple (.tup ds) = some (.tup ds) := rfl
theorem dTuple_ml {ds : List D} (h : dataL ds = true) : dTuple (.ml ds) = some (.tup ds) := by
  show (asL (.ml ds)).map D.tup = _
  show (if dataL ds = true then some ds else none).map D.tup = _
  rw [if_pos h]
  rfl
theorem eqT_tup {a b : List D} : eqT (.tup a) (.tup b) = eqT (.lst a) (.lst b) := by
  rw [Bool.eq_iff_iff, eqT_iff, eqT_iff, D.tup.injEq, D.lst.injEq]
theorem eqT_nil : eqT (.lst []) (.lst []) = true := eqT_self _
theorem eqT_nc (d : D) (ds : List D) : eqT (.lst []) (.lst (d :: ds)) = false := eqT_neg fun h => nomatch D.lst.inj h
theorem eqT_cn (d : D) (ds : List D) : eqT (.lst (d :: ds)) (.lst []) = false := eqT_neg fun h => nomatch D.lst.inj h
def kset8 := And.intro @eqT_tup <| And.intro @eqT_nil <| And.intro @eqT_nc @eqT_cn
def apK (i : Nat) (q : List Str) (ρ μ : List D) (r : D) (t o : Option D) : Option SO := t.bind fun t => match t with
  | .ml ds => o.bind fun d => if data d = true ∧ ds.length ≤ LIM then (pput q r (.ml (ds ++ [d]))).map fun r' => .nx (ρ.set i r') μ else none
  | _ => none
theorem fAppF_k (ok : OkT) (i : Nat) (q : List Str) (f : FQ) (x0 : D) (ρ μ : List D) : fAppF ok i q f (x0 :: ρ) μ = ((x0 :: ρ)[i]?).bind fun r => apK i q (x0 :: ρ) μ r (pget ok q r) (f (x0 :: ρ) μ) := rfl
theorem apK_ml {i : Nat} {q : List Str} {ρ μ : List D} {r d : D} {ds : List D} (h : ds.length ≤ 1000000) : apK i q ρ μ r (some (.ml ds)) (some d) = if data d = true then (pput q r (.ml (ds ++ [d]))).map fun r' => .nx (ρ.set i r') μ else none := by
  show (if data d = true ∧ ds.length ≤ LIM then _ else none) = _
  by_cases z : data d = true
  · rw [if_pos ⟨z, lk h⟩, if_pos z]
  · rw [if_neg fun w => z w.1, if_neg z]
def kset9 := And.intro @fAppF_k @apK_ml
def kset7 := And.intro kset9 <| And.intro kset8 <| And.intro @dTuple_lst <| And.intro @dTuple_tup <| And.intro @dTuple_ml <| And.intro @dIs_n <| And.intro @dIsNot_n <| And.intro @isNonD_non <| And.intro @isNonD_int <| And.intro @isNonD_str <| And.intro @isNonD_bl <| And.intro @isNonD_tup <| And.intro @isNonD_lst <| And.intro @isNonD_ml <| And.intro @isNonD_obj <| And.intro @isNonD_fo @isNonD_ref
def kset6 := And.intro kset7 <| And.intro @boolsD_fun <| And.intro @intsD_fun <| And.intro @oStrip_k <| And.intro @oPart_k @oSplit_k
end Fw
/-! # int of a text or of a truth -/
namespace Fw
open PySem PySem.Spec PyProof.Rows L2
open Evl (Ex)
section
variable {X : Cx}
theorem call_int_bl : CallR X (.type "int") (fun xs H Q => ∃ b, xs = [.bl b] ∧ Q (.int (if b = true then 1 else 0)) H) := by
  intro pins s σ H xs us Q I rs h
  obtain ⟨b, rfl, h⟩ := h
  cases rs with
  | cons r1 rs =>
    cases rs
    cases r1
    exact PySem.call_int_bool ⟨.int _, H, I.tok _, ⟨_, rfl⟩, h⟩
def oInt : D → Option D
  | .str s => if s.length ≤ 640 then (PySem.intText? (tr s)).map D.int else none
  | .bl b => some (.int (if b = true then 1 else 0))
  | _ => none
theorem cd_int : CallD X (.type "int") (o1 oInt) := by
  refine ⟨_, CallR.or call_int_str call_int_bl, fun W ds vs G ok r d hd Q q => ?_⟩
  match ds, hd with
  | [x], hd =>
    obtain ⟨v, rfl, r1⟩ := RL_one r
    cases x with
    | str s =>
      have hd2 : (if s.length ≤ 640 then (PySem.intText? (tr s)).map D.int else none) = some d := hd
      by_cases hl : s.length ≤ 640
      · rw [if_pos hl] at hd2
        obtain ⟨n, e, rfl⟩ := map_some hd2
        obtain ⟨rfl, _⟩ := r1
        exact .inl ⟨tr s, n, rfl, e, by rw [tr_length]; exact hl, q _ W [] (Ext.refl ok) ⟨rfl, rfl⟩⟩
      · rw [if_neg hl] at hd2
        cases hd2
    | bl b =>
      cases hd
      obtain ⟨rfl, _⟩ := r1
      exact .inr ⟨b, rfl, q _ W [] (Ext.refl ok) ⟨rfl, rfl⟩⟩
    | _ => cases hd
  | [], hd => cases hd
  | _ :: _ :: _, hd => cases hd
end
theorem oInt_bl (b : Bool) : oInt (.bl b) = some (.int (if b = true then 1 else 0)) := rfl
theorem oInt_num {n : Nat} (h : n < 10 ^ 10) : oInt (.str (TL.numL n)) = some (.int (n : Int)) := by
  have e : tr (TL.numL n) = Str.ofString (toString ((n : Nat) : Int)) := by
    exact (str_of_tl (TL.tl_num n)).symm
  have h1 := PySem.W.KIN.num_reads (n := (n : Int)) (by omega) (by omega)
  have h2 := TL.numL_len (k := 10) (by decide) h
  show (if (TL.numL n).length ≤ 640 then (PySem.intText? (tr (TL.numL n))).map D.int else none) = _
  rw [if_pos (by omega), e, h1]
  rfl
def kset10 := @oInt_bl
end Fw
/-! # a class without __init__ -/
namespace Fw
open PySem PySem.Spec PyProof.Rows L2
open Evl (Ex)
structure MkO (K : PySem.W.Frag) (C : Addr) : Prop where
  makes : PySem.W.makesIn K C = true
  init : PySem.W.findIn K (.ref C) "__init__" = some (some (.builtin "object.__init__"))
  kp : PySem.W.keepIn K (.ref C) = true
def OkO (K : PySem.W.Frag) (mg : Str → Option Value) (c : Str) : Prop := MkO K (He.ga K c) ∧ mg c = some (.ref (He.ga K c))
/-- what the head asks of such a class -/
def makeOB (K : PySem.W.Frag) (c : Str) : Bool := PySem.W.makesIn K (He.ga K c) && (match PySem.W.findIn K (.ref (He.ga K c)) "__init__" with
  | some (some (.builtin i)) => decide (i = "object.__init__")
  | _ => false) && PySem.W.keepIn K (.ref (He.ga K c))
theorem mkO_of {K : PySem.W.Frag} {c : Str} (h : makeOB K c = true) : MkO K (He.ga K c) := by
  unfold makeOB at h
  rw [Bool.and_eq_true, Bool.and_eq_true] at h
  obtain ⟨⟨h1, h2⟩, h3⟩ := h
  refine ⟨h1, ?_, h3⟩
  split at h2
  · rename_i i e
    rw [e, of_decide_eq_true h2]
  · cases h2
def xMake0 (c : Str) : FX := fun ρ μ => some (.ok (.obj c [] []) ρ μ)
section
variable {X : Cx} {Wx : WX} {p pos : Pos}
def tMkO (C : Addr) : TE := fun σ H Q => ∀ x dx, H x = none → H dx = none → dx ≠ x → Q (.ref x) (upd (upd H dx (.own x)) x (.ins C dx []))
theorem runO {pins : List (Addr × Obj)} {σ : L2.St} {H : Hp} {s : Shared} {Q : VK} {C : Addr} (M : MkO X.K C) (I : Inv X pins σ H s) (h : tMkO C σ H Q) : wpAny (model X.prog X.w) X.A (call (.ref C) []) (EP X pins σ Q) X.xe s := by
  have hq := h (s.heap.objs.size + 1) s.heap.objs.size (I.hok.fresh (Nat.le_succ _)) (I.hok.fresh (Nat.le_refl _)) (Nat.ne_of_lt (Nat.lt_succ_self _))
  have I2 := Inv.made (C := C) I
  have Y := PySem.W.makes_of (M := model X.prog X.w) I.kIn M.makes
  have hx : ((s.heap.push PySem.W.emptyDict).push (PySem.W.instObj C s.heap.objs.size)).get? (s.heap.objs.size + 1) = some (PySem.W.instObj C s.heap.objs.size) := by
    have := Heap.get?_push_size (s.heap.push PySem.W.emptyDict) (o := PySem.W.instObj C s.heap.objs.size) rfl
    rwa [Heap.size_push] at this
  have t1 : PySem.W.Looks (model X.prog X.w) ((s.heap.push PySem.W.emptyDict).push (PySem.W.instObj C s.heap.objs.size)) (typeOf (.ref (s.heap.objs.size + 1))) (.ref C) := (PySem.W.Looks.ld hx).andThen .now
  have t2 : PySem.W.Looks (model X.prog X.w) ((s.heap.push PySem.W.emptyDict).push (PySem.W.instObj C s.heap.objs.size)) (isInstance (.ref (s.heap.objs.size + 1)) (.type "object")) true := t1.andThen (Y.top.keeps fun b o e => Heap.get?_push_of_some _ (Heap.get?_push_of_some _ e))
  refine wpAny_call (make_map0 I.kIn M.makes M.init (fun self => PySem.W.Looks.of_pure (PySem.W.oi_bind self)) ?_)
  refine codeAny_call_builtin PySem.W.oi_plain PySem.W.entry_oi (@PySem.W.check_slot (model X.prog X.w) _ _ _ "object.__init__" "object" "__init__" (.ref (s.heap.objs.size + 1)) [] [] _ PySem.W.oi_kind PySem.W.oi_split t2 (PySem.W.oi_args (.ref (s.heap.objs.size + 1))) ?_)
  rw [PySem.W.oi_run]
  exact wpAny_pure (And.intro rfl ⟨V.ref (s.heap.objs.size + 1), _, I2, rfl, hq⟩)
theorem px_makeO {c : Str} (O : OkO X.K X.mg c) (hg : Gl X c := by rfl) (hdb : (c == ("__debug__" : Str)) = false := by decide) : PX X Wx (.Call (.Name c p) [] [] pos) (xMake0 c) := by
  obtain ⟨M, hm⟩ := O
  refine ⟨tMkO (He.ga X.K c), ⟨fun pins s σ H Q I h => ?_⟩, fun σ W ρ μ F S o ho Q hQ => ?_⟩
  · refine wpAny_Call_Name_kw (ld_glob I hg hm ?_ hdb)
    exact PySem.W.callWith_K0 I.kIn M.kp (runO M I h)
  · cases ho
    intro x dx hx hdx ne
    have x1 : Ext W (W.put dx (.own x)) := Ext.put S.ok hdx
    have hx2 : (W.put dx (.own x)).H x = none := by
      show upd W.H dx _ x = none
      rw [upd_ne fun z => ne z.symm]
      exact hx
    have x2 : Ext W ((W.put dx (.own x)).put x (.ins (He.ga X.K c) dx [])) := x1.trans (Ext.put x1.ok hx2)
    have rt : R X.K ((W.put dx (.own x)).put x (.ins (He.ga X.K c) dx [])) (.obj c [] []) (.ref x) [x] := ⟨x, dx, [], [], rfl, upd_same, rfl, ⟨rfl, rfl⟩, rfl⟩
    have xF : x ∉ F := fun z => by
      obtain ⟨_, w⟩ := S.own x z
      rcases w with ⟨xs, w⟩ | ⟨C, dx, fs, w⟩ <;> rw [hx] at w <;> cases w
    have nofr : ¬ W.Fr x := fun z => S.ok x z hx
    have mv2 : Mv W ((W.put dx (.own x)).put x (.ins (He.ga X.K c) dx [])) F ([x] ++ F) := ⟨fun b o h _ => x2.ex b o h, x2.fr, fun b h => (x2.nf b h).elim .inl fun z => .inr (.inl z), fun b hb => (List.mem_cons.mp hb).elim (fun z => .inr (z ▸ hx)) .inl, ⟨[], (List.append_nil _).symm⟩⟩
    exact hQ (.ref x) _ [x] F rt (S.ext x2) (List.nodup_cons.mpr ⟨xF, S.nd⟩) (fun b hb => by
      obtain rfl := List.mem_singleton.mp hb
      exact ⟨nofr, .inr ⟨_, dx, _, upd_same⟩⟩) mv2
end
end Fw
/-! # lists that change, owned by a slot or known to several -/
namespace Fw
open PySem PySem.Spec PyProof.Rows L2
open Evl (Ex)
/-- what the list in slot i holds -/
def lGet (i : Nat) (ρ μ : List D) : Option (List D) := match ρ[i]? with
  | some (.ml ds) => some ds
  | some (.ref k) => (match μ[k]? with
    | some (.ml ds) => some ds
    | _ => none)
  | _ => none
def lPutR (i : Nat) (ds : List D) (ρ : List D) : List D := match ρ[i]? with
  | some (.ref _) => ρ
  | _ => ρ.set i (.ml ds)
def lPutM (i : Nat) (ds : List D) (ρ μ : List D) : List D := match ρ[i]? with
  | some (.ref k) => μ.set k (.ml ds)
  | _ => μ
theorem upd_ok {W : Wd} {a : Addr} {o : HO} (ok : WOk W) : WOk ⟨upd W.H a o, W.Fr, W.m⟩ := fun b hb => by
  show upd W.H a _ b ≠ none
  by_cases z : b = a
  · rw [z, upd_same]
    exact fun z => nomatch z
  · rw [upd_ne z]
    exact ok b hb
theorem own_lst {W : Wd} {a b : Addr} {vs : List V} (h : Own W b) : Own ⟨upd W.H a (.lst vs), W.Fr, W.m⟩ b := by
  refine ⟨h.1, ?_⟩
  show (∃ xs, upd W.H a _ b = _) ∨ ∃ C dx fs, upd W.H a _ b = _
  by_cases z : b = a
  · rw [z, upd_same]
    exact .inl ⟨_, rfl⟩
  · rw [upd_ne z]
    exact h.2
theorem sta_list {K : PySem.W.Frag} {W : Wd} {σ : L2.St} {ρ μ ds : List D} {F : List Addr} {i : Nat} (S : Sta K W σ ρ μ F) (h : lGet i ρ μ = some ds) (hd : dataL ds = true) :
    ∃ a vs, σ[i]? = some (some (.ref a)) ∧ W.H a = some (.lst vs) ∧ RL K W ds vs [] ∧ ¬ W.Fr a ∧
      ∀ ds' vs', RL K ⟨upd W.H a (.lst vs'), W.Fr, W.m⟩ ds' vs' [] → ∃ F', Sta K ⟨upd W.H a (.lst vs'), W.Fr, W.m⟩ σ (lPutR i ds' ρ) (lPutM i ds' ρ μ) F' ∧ Mv W ⟨upd W.H a (.lst vs'), W.Fr, W.m⟩ F F' := by
  unfold lGet at h
  unfold lPutR lPutM
  cases e : ρ[i]? with
  | none => rw [e] at h; cases h
  | some t =>
    rw [e] at h
    cases t with
    | ml ds0 =>
      cases h
      obtain ⟨v, B, q2, ⟨a, vs, F2, e2, h4, h5, hB2⟩, inF, ndB, next⟩ := S.lens e (fun z => nomatch z)
      subst e2
      have z := RL_data ds hd h5
      subst z
      have ha : Own W a := S.own a (inF a (by rw [hB2]; exact List.mem_cons_self ..))
      refine ⟨a, vs, q2, h4, h5, ha.1, fun ds' vs' r => ?_⟩
      have lt : Lt W ⟨upd W.H a (.lst vs'), W.Fr, W.m⟩ := Lt.upd_lst h4 ha.1
      exact next ⟨upd W.H a (.lst vs'), W.Fr, W.m⟩ (.ml ds') [a] (upd_ok S.ok) rfl
        ⟨fun b o hb nb => by
          show upd W.H a _ b = some o
          rw [upd_ne fun z => nb (by rw [z, hB2]; exact List.mem_cons_self ..)]
          exact hb, fun _ h => h, fun _ h => .inl h, fun b hb => .inl (by rw [hB2]; exact hb), ⟨[], (List.append_nil _).symm⟩⟩
        ⟨a, vs', [], rfl, upd_same, r, rfl⟩ (List.nodup_cons.mpr ⟨List.not_mem_nil, List.nodup_nil⟩) (fun b hb => by
          obtain rfl := List.mem_singleton.mp hb
          exact ⟨ha.1, .inl ⟨_, upd_same⟩⟩)
    | ref k =>
      have h2 : (match μ[k]? with
        | some (.ml ds) => some ds
        | _ => none) = some ds := h
      cases e9 : μ[k]? with
      | none => rw [e9] at h2; cases h2
      | some t2 =>
        rw [e9] at h2
        cases t2 with
        | ml ds0 =>
          cases h2
          obtain ⟨⟨FA, F2, p1, p2, p3⟩, nd3, own3, ok3⟩ := S
          subst p3
          obtain ⟨v, G, s1, s2⟩ := RS_get p1 e (fun z => nomatch z)
          obtain ⟨a0, rfl, s3, _⟩ := s2
          obtain ⟨v0, A, B, C, q1, q2, q3, q4⟩ := RL_lens p2 e9
          subst q2
          rw [List.getElem?_map, s3] at q1
          injection q1 with q1
          subst q1
          obtain ⟨a, vs, F', ea, hH, hR, eB⟩ := q3
          injection ea with ea
          subst ea
          have z := RL_data ds hd hR
          subst z
          subst eB
          have ndAll := List.nodup_append.mp nd3
          have ndB := List.nodup_append.mp ndAll.2.1
          have ndB2 := List.nodup_append.mp ndB.2.1
          have oa : Own W a0 := own3 a0 (List.mem_append_right _ (List.mem_append_right _ (List.mem_append_left _ (List.mem_cons_self ..))))
          refine ⟨a0, vs, s1, hH, hR, oa.1, fun ds' vs' r => ?_⟩
          have lt : Lt W ⟨upd W.H a0 (.lst vs'), W.Fr, W.m⟩ := Lt.upd_lst hH oa.1
          have aFA : a0 ∉ FA := fun z => ndAll.2.2 a0 z a0 (List.mem_append_right _ (List.mem_append_left _ (List.mem_cons_self ..))) rfl
          have aAC : a0 ∉ A ++ C := fun z => by
            rcases List.mem_append.mp z with w | w
            · exact ndB.2.2 a0 w a0 (List.mem_append_left _ (List.mem_cons_self ..)) rfl
            · exact ndB2.2.2 a0 (List.mem_cons_self ..) a0 w rfl
          have off : ∀ b, b ≠ a0 → (⟨upd W.H a0 (.lst vs'), W.Fr, W.m⟩ : Wd).H b = W.H b := fun b hb => upd_ne hb
          have rn : R K ⟨upd W.H a0 (.lst vs'), W.Fr, W.m⟩ (.ml ds') (.ref a0) [a0] := ⟨a0, vs', [], rfl, upd_same, r, rfl⟩
          have rr := q4 _ (.ml ds') (.ref a0) [a0] lt (fun b hb => off b fun z => aAC (z ▸ hb)) rn
          have es : (W.m.map V.ref).set k (.ref a0) = W.m.map V.ref := set_self (by rw [List.getElem?_map, s3]; rfl)
          rw [es] at rr
          refine ⟨FA ++ (A ++ ([a0] ++ C)), ⟨⟨FA, _, RS_keep lt (fun b hb => off b fun z => aFA (z ▸ hb)) p1, rr, rfl⟩, nd3, fun b hb => own_lst (own3 b hb), upd_ok ok3⟩, fun b o hb nb => ?_, fun _ h => h, fun _ h => .inl h, fun b hb => .inl hb, ⟨[], (List.append_nil _).symm⟩⟩
          show upd W.H a0 _ b = some o
          rw [upd_ne fun z => nb (List.mem_append_right _ (List.mem_append_right _ (List.mem_append_left _ (by rw [z]; exact List.mem_cons_self ..))))]
          exact hb
        | _ => cases h2
    | _ => cases h
theorem lGet_mono {K : PySem.W.Frag} {W W' : Wd} {σ : L2.St} {a a' : Addr} (h : σ[0]? = some (some (.ref a))) (h' : σ[0]? = some (some (.ref a'))) : a = a' := by
  rw [h] at h'
  cases h'
  rfl
section
variable {X : Cx} {ob : List Nat} {Wx : WX} {e a b c ix : Expr} {es : List Expr} {f g q qi : FQ} {pos : Pos} {k : FA}
/-! ### xs.m(..) -/
def fLm (i : Nat) (op : List D → List D → Option (List D)) (k : FA) : FS := fun ρ μ => (k ρ μ).bind fun as => (lGet i ρ μ).bind fun ds => if dataL as = true ∧ dataL ds = true then (op ds as).map fun ds' => .nx (lPutR i ds' ρ) (lPutM i ds' ρ μ) else none
theorem ps1_lm {i : Nat} {call : Expr} {r : V → List V → Hp → VK → Prop} {op : List D → List D → Option (List D)} (hcall : ∀ ta : TA, PA X es ta → PE X call (tBM X.K "list" r (tVar i) ta)) (ha : PAQ X es k)
    (hop : ∀ (W : Wd) (a : Addr) (ds as ds' : List D) (vs us : List V), op ds as = some ds' → W.H a = some (.lst vs) → RL X.K W ds vs [] → RL X.K W as us [] → ∃ vs', (∀ W' : Wd, Lt W W' → RL X.K W' ds' vs' []) ∧ ∀ Q : VK, Q .non (upd W.H a (.lst vs')) → r (.ref a) us W.H Q)
    (hsw : swapsWith call none pos.line X.env = pure false := by rfl) : PS1 X ob Wx (.Expr call pos) (fLm i op k) := by
  obtain ⟨ta, p, k1⟩ := ha
  refine ⟨_, ps_expr (hcall ta p) hsw, fun E σ W ρ μ F S o ho h => ?_⟩
  obtain ⟨as, e1, ho⟩ := bind_some ho
  obtain ⟨ds, e2, ho⟩ := bind_some ho
  by_cases hd : dataL as = true ∧ dataL ds = true
  case neg => rw [if_neg hd] at ho; cases ho
  rw [if_pos hd] at ho
  obtain ⟨ds', e3, z⟩ := map_some ho
  subst z
  obtain ⟨a0, vs0, q1, h2, _, _, _⟩ := sta_list S e2 hd.2
  refine ⟨.ref a0, q1, .inl ⟨rfl, vs0, Evl.sq_of h2⟩, ?_⟩
  refine k1 σ W ρ μ F S as e1 _ fun us W1 G x1 r1 => ?_
  have z := RL_data as hd.1 r1
  subst z
  have S1 := S.ext x1
  obtain ⟨a1, vs, q2, h3, h4, h5, next⟩ := sta_list S1 e2 hd.2
  rw [q1] at q2
  cases q2
  obtain ⟨vs', r2, h6⟩ := hop W1 a0 ds as ds' vs us e3 h3 h4 r1
  obtain ⟨F3, S3, mv3⟩ := next ds' vs' (r2 _ (Lt.upd_lst h3 h5))
  exact h6 _ (h σ _ F3 S3 (x1.mvr.trans mv3) Kept.refl)
def opIns (ds as : List D) : Option (List D) := match as with
  | [.int j, d] => if 0 ≤ j ∧ j < 1000000 ∧ ds.length ≤ LIM then some (ds.take j.toNat ++ d :: ds.drop j.toNat) else none
  | _ => none
theorem opIns_ok {K : PySem.W.Frag} (W : Wd) (a : Addr) (ds as ds' : List D) (vs us : List V) (h : opIns ds as = some ds') (hH : W.H a = some (.lst vs)) (r : RL K W ds vs []) (ra : RL K W as us []) :
    ∃ vs', (∀ W' : Wd, Lt W W' → RL K W' ds' vs' []) ∧ ∀ Q : VK, Q .non (upd W.H a (.lst vs')) → (fun x vs H Q => ∃ (l : Addr) (xs : List V) (i : Int) (y : V), x = V.ref l ∧ vs = [.int i, y] ∧ H l = some (.lst xs) ∧ xs.length < sizeLine ∧ 0 ≤ i ∧ i < 2 ^ 63 ∧
    Q .non (upd H l (.lst (xs.take i.toNat ++ [y] ++ xs.drop i.toNat)))) (.ref a) us W.H Q := by
  unfold opIns at h
  split at h
  case h_2 => cases h
  rename_i j d
  split at h
  case isFalse => cases h
  rename_i hj
  cases h
  obtain ⟨u, v, G1, G2, rfl, ⟨rfl, _⟩, r2⟩ := RL_two ra
  obtain ⟨_, _, _, _, w1, w2, ⟨_, _, _, _, w3, w4, ⟨rfl, w5⟩, w6⟩, w7⟩ := ra
  injection w1 with w1 w1'
  subst w1
  subst w1'
  injection w3 with w3 w3'
  subst w3
  have hl := RL_len r
  refine ⟨vs.take j.toNat ++ [v] ++ vs.drop j.toNat, fun W' lt => ?_, fun Q hq => ⟨a, vs, j, v, rfl, rfl, hH, by rw [hl]; exact lim_lt hj.2.2, hj.1, by omega, hq⟩⟩
  have w8 := List.append_eq_nil_iff.mp w7.symm
  rw [w8.2] at w6
  have w9 := List.append_eq_nil_iff.mp w6.symm
  rw [w9.1] at w4
  have r1 := RL_lt lt _ r
  have e : ds.take j.toNat ++ d :: ds.drop j.toNat = (ds.take j.toNat ++ [d]) ++ ds.drop j.toNat := by simp
  rw [e]
  have k1 : RL K W' [d] [v] [] := ⟨v, [], [], [], rfl, R_lt lt d w4, ⟨rfl, rfl⟩, rfl⟩
  exact RL_app (RL_app (RL_take r1) k1) (RL_drop r1)
theorem ps1_ins {i : Nat} {x : Str} {px apos cpos : Pos} (hp : PE X (.Name x px) (tVar i)) (ha : PAQ X [a, b] k)
    (hcall : ∀ ta : TA, PA X [a, b] ta → PE X (.Call (.Attribute (.Name x px) "insert" apos) [a, b] [] cpos) (tBM X.K "list" (fun x vs H Q => ∃ (l : Addr) (xs : List V) (i : Int) (y : V), x = V.ref l ∧ vs = [.int i, y] ∧ H l = some (.lst xs) ∧ xs.length < sizeLine ∧ 0 ≤ i ∧ i < 2 ^ 63 ∧
    Q .non (upd H l (.lst (xs.take i.toNat ++ [y] ++ xs.drop i.toNat)))) (tVar i) ta))
    (hsw : swapsWith (.Call (.Attribute (.Name x px) "insert" apos) [a, b] [] cpos) none pos.line X.env = pure false := by rfl) : PS1 X ob Wx (.Expr (.Call (.Attribute (.Name x px) "insert" apos) [a, b] [] cpos) pos) (fLm i opIns k) :=
  ps1_lm hcall ha opIns_ok hsw
/-! ### xs[j] = e -/
def fSetIx (i : Nat) (qi q : FQ) : FS := fun ρ μ => (q ρ μ).bind fun d => (qi ρ μ).bind fun j => match j with
  | .int j => (lGet i ρ μ).bind fun ds => if data d = true ∧ dataL ds = true ∧ 0 ≤ j ∧ j < ds.length then some (.nx (lPutR i (ds.set j.toNat d) ρ) (lPutM i (ds.set j.toNat d) ρ μ)) else none
  | _ => none
theorem ps1_setIx {i : Nat} {x : Str} {px spos : Pos} (hp : PE X (.Name x px) (tVar i)) (hi : PQ X ix qi) (he : PQ X e q) (hs : swapsWithSole [.Subscript (.Name x px) ix spos] e pos.line X.env = pure false := by rfl) (hw : swappedStores [.Subscript (.Name x px) ix spos] e X.env = pure none := by rfl)
    (h1 : (assignEach [.Subscript (.Name x px) ix spos] X.env).map (·.2) = [assign (.Subscript (.Name x px) ix spos) X.env] := by rfl)
    (h2a : ∀ v, assign (.Subscript (.Name x px) ix spos) X.env v = (do
      let ov ← holding [v] (eval (.Name x px) X.env)
      let iv ← holding [v, ov] (eval ix X.env)
      standAt spos
      holding [v, ov, iv] (setItem ov iv v)
      release [v, ov, iv] []) := by intro _; rfl) : PS1 X ob Wx (.Assign [.Subscript (.Name x px) ix spos] e pos) (fSetIx i qi q) := by
  obtain ⟨te, pe, ke⟩ := he
  obtain ⟨ti, pi, ki⟩ := hi
  refine ⟨_, ps_asg pe (pg_sub hp pi set_list h2a) hs hw h1, fun E σ W ρ μ F S o ho h => ?_⟩
  obtain ⟨d, e1, ho⟩ := bind_some ho
  obtain ⟨dj, e2, ho⟩ := bind_some ho
  cases dj with
  | int j =>
    obtain ⟨ds, e3, ho⟩ := bind_some (show (lGet i ρ μ).bind _ = some o from ho)
    by_cases hd : data d = true ∧ dataL ds = true ∧ 0 ≤ j ∧ j < ds.length
    case neg => rw [if_neg hd] at ho; cases ho
    rw [if_pos hd] at ho
    cases ho
    refine ke σ W ρ μ F S d e1 _ fun y W1 G x1 r1 => ?_
    have z := R_data d hd.1 r1
    subst z
    have S1 := S.ext x1
    obtain ⟨a0, vs0, q1, h2, _, _, _⟩ := sta_list S1 e3 hd.2.1
    refine ⟨.ref a0, q1, ?_⟩
    refine ki σ W1 ρ μ F S1 (.int j) e2 _ fun z W2 G2 x2 r2 => ?_
    obtain ⟨rfl, _⟩ := r2
    have S2 := S1.ext x2
    obtain ⟨a1, vs, q2, h3, h4, h5, next⟩ := sta_list S2 e3 hd.2.1
    rw [q1] at q2
    cases q2
    have hl := RL_len h4
    have lt := Lt.upd_lst (ys := vs.set j.toNat y) h3 h5
    have r3 : RL X.K ⟨upd W2.H a0 (.lst (vs.set j.toNat y)), W2.Fr, W2.m⟩ (ds.set j.toNat d) (vs.set j.toNat y) [] := by
      obtain ⟨v0, A, B, C, w1, w2, w3, w4⟩ := RL_lens (RL_lt lt ds h4) (List.getElem?_eq_getElem (show j.toNat < ds.length by omega))
      have w5 := List.append_eq_nil_iff.mp w2.symm
      have w6 := List.append_eq_nil_iff.mp w5.2
      have := w4 _ d y [] Lt.refl (fun _ _ => rfl) (R_lt lt d (R_lt x2.lt d r1))
      rw [w5.1, w6.2] at this
      exact this
    obtain ⟨F3, S3, mv3⟩ := next _ _ r3
    refine ⟨a0, vs, j, j.toNat, rfl, rfl, h3, ?_, h σ _ F3 S3 (x1.mvr.trans (x2.mvr.trans mv3)) Kept.refl⟩
    unfold ixN
    rw [if_pos (by omega), if_pos (by rw [hl]; omega)]
  | _ => cases ho
/-! ### xs[j] of a list that several know -/
def dIxM (μ : List D) (x y : D) : Option D := match x with
  | .ref k => (μ[k]?).bind fun l => match l with
    | .ml ds => dIx (.ml ds) y
    | .lst ds => dIx (.lst ds) y
    | _ => none
  | x => dIx x y
def qIxM (f g : FQ) : FQ := fun ρ μ => (f ρ μ).bind fun x => (g ρ μ).bind fun y => dIxM μ x y
theorem pq_ixM (ha : PQ X a f) (hb : PQ X b g) (hs : PlainIx b := by exact fun _ _ => rfl) : PQ X (.Subscript a b pos) (qIxM f g) := by
  obtain ⟨r, hr, h3⟩ := (ixd_all : IxD X dIx)
  obtain ⟨ta, pa, h1⟩ := ha
  obtain ⟨tb, pb, h2⟩ := hb
  refine ⟨_, pe_ix hr pa pb hs, fun σ W ρ μ F S d hd Q q => ?_⟩
  obtain ⟨x, e1, hd⟩ := bind_some hd
  obtain ⟨y, e2, hd⟩ := bind_some hd
  refine h1 σ W ρ μ F S x e1 _ fun u W1 G1 x1 r1 => ?_
  have S1 := S.ext x1
  refine h2 σ W1 ρ μ F S1 y e2 _ fun v W2 G2 x2 r2 => ?_
  have S2 := S1.ext x2
  have main : ∀ (x' : D) (G : List Addr), R X.K W2 x' u G → dIx x' y = some d → r u v W2.H Q := fun x' G r' e => h3 W2 x' y u v G G2 S2.ok r' r2 d e Q fun v' W3 G3 x3 r3 => q v' W3 G3 (x1.trans (x2.trans x3)) r3
  cases x with
  | ref k =>
    obtain ⟨l, e3, hd2⟩ := bind_some (show (μ[k]?).bind _ = some d from hd)
    obtain ⟨a0, rfl, h5, _⟩ := R_ext x2 _ r1
    obtain ⟨F1, F2, _, h6, _⟩ := S2.ex
    obtain ⟨a', G', h7, h8, _⟩ := RL_map_get h6 e3
    rw [h5] at h7
    cases h7
    cases l with
    | ml ds => exact main _ _ h8 hd2
    | lst ds => exact main _ _ h8 hd2
    | _ => cases hd2
  | _ => exact main _ _ (R_ext x2 _ r1) hd
/-! ### a new list that several will know -/
def xShareN (k : FA) : FX := fun ρ μ => (k ρ μ).map fun ds => .ok (.ref μ.length) ρ (μ ++ [.ml ds])
theorem px_shareN (h : PN X e k) : PX X Wx e (xShareN k) := by
  obtain ⟨te, p, k1⟩ := h
  refine ⟨te, p, fun σ W ρ μ F S o ho Q hQ => ?_⟩
  obtain ⟨ds, e1, z⟩ := map_some ho
  subst z
  refine k1 σ W ρ μ F S ds e1 _ fun a W' n => ?_
  obtain ⟨vs, hH, hR⟩ := n.at_
  have S' := S.ext n.ext
  have aF : a ∉ F := fun z => by
    obtain ⟨_, w⟩ := S.own a z
    rcases w with ⟨xs, w⟩ | ⟨C, dx, fs, w⟩ <;> rw [n.new] at w <;> cases w
  have lt : Lt W' ⟨W'.H, W'.Fr, W'.m ++ [a]⟩ := ⟨fun _ _ z => z, fun _ _ z => z, fun _ _ _ _ z z' => ⟨z, z'⟩, fun k b z => by
    show (W'.m ++ [a])[k]? = some b
    rw [List.getElem?_append_left (List.getElem?_eq_some_iff.mp z).1]
    exact z⟩
  obtain ⟨⟨F1, F2, h1, h2, h3⟩, nd2, own2, ok2⟩ := S'
  subst h3
  have lm : μ.length = W'.m.length := by
    have := RL_len h2
    rw [List.length_map] at this
    exact this.symm
  have r2 : RL X.K ⟨W'.H, W'.Fr, W'.m ++ [a]⟩ (μ ++ [.ml ds]) ((W'.m ++ [a]).map V.ref) (F2 ++ [a]) := by
    rw [List.map_append]
    exact RL_app (RL_same lt rfl μ h2) ⟨.ref a, [], [a], [], rfl, ⟨a, vs, [], rfl, hH, RL_same lt rfl ds hR, rfl⟩, ⟨rfl, rfl⟩, rfl⟩
  have pm : (F1 ++ (F2 ++ [a])).Perm (a :: (F1 ++ F2)) := by
    rw [← List.append_assoc]
    exact List.perm_append_comm
  have ndA : (a :: (F1 ++ F2)).Nodup := List.nodup_cons.mpr ⟨aF, nd2⟩
  refine hQ (.ref a) ⟨W'.H, W'.Fr, W'.m ++ [a]⟩ [] (F1 ++ (F2 ++ [a])) ⟨a, rfl, ?_, rfl⟩ ⟨⟨F1, F2 ++ [a], RS_same lt rfl h1, r2, rfl⟩, nodup_of_perm pm ndA, fun b hb => ?_, ok2⟩ (nodup_of_perm pm ndA) (fun _ hb => nomatch hb) ⟨fun b o hb _ => n.ext.ex b o hb, n.ext.fr, fun b hb => (n.ext.nf b hb).elim .inl fun z => .inr (.inl z), fun b hb => ?_, ?_⟩
  · show (W'.m ++ [a])[μ.length]? = some a
    rw [lm, List.getElem?_append_right (Nat.le_refl _), Nat.sub_self]
    rfl
  · rcases List.mem_cons.mp (pm.mem_iff.mp hb) with z | z
    · subst z
      exact ⟨n.nofr, .inl ⟨_, hH⟩⟩
    · exact own2 b z
  · rcases List.mem_cons.mp (pm.mem_iff.mp hb) with z | z
    · subst z
      exact .inr n.new
    · exact .inl z
  · exact ⟨[a], by show W'.m ++ [a] = _; rw [n.ext.m]⟩
/-! ### a statement that no way comes to -/
def fNever : FS := fun _ _ => none
theorem ps1_never {st : Stmt} : PS1 X ob Wx st fNever := ⟨_, ps_never, fun _ _ _ _ _ _ _ _ ho => nomatch ho⟩
/-! ### xs[::-1] of a list -/
def dRev (x : D) : Option D := (asL x).map fun ds => .lst ds.reverse
theorem RL_rev {K : PySem.W.Frag} {W : Wd} : ∀ {ds : List D} {vs : List V}, RL K W ds vs [] → RL K W ds.reverse vs.reverse []
  | [], _, ⟨rfl, _⟩ => ⟨rfl, rfl⟩
  | d :: ds, _, ⟨v, vs', F1, F2, rfl, r1, r2, e⟩ => by
    obtain ⟨rfl, rfl⟩ := List.append_eq_nil_iff.mp e.symm
    rw [List.reverse_cons, List.reverse_cons]
    exact RL_app (RL_rev r2) ⟨v, [], [], [], rfl, r1, ⟨rfl, rfl⟩, rfl⟩
def tRevL (K : PySem.W.Frag) (te : TE) (ts : TE) : TE := fun σ H Q => te σ H fun x H1 => ts σ H1 fun y H2 => y = .int (-1) ∧ ∃ a xs, x = .ref a ∧ SqL K H2 a xs ∧ ∀ p, H2 p = none → Q (.ref p) (upd H2 p (.lst xs.reverse))
theorem pe_revL {st : Expr} {te ts : TE} {p2 : Pos} (he : PE X e te) (hst : PE X st ts) : PE X (.Subscript e (.Slice none none (some st) p2) pos) (tRevL X.K te ts) := by
  refine ⟨fun pins s σ H Q I h => ?_⟩
  refine Subscript_ (thn (he.run pins s σ H _ I h) fun v s1 ⟨x, H1, I1, r1, q1⟩ => ?_)
  refine wpAny_Slice ?_
  rw [evalPart_none]
  refine wpAny_pure (wpAny_pure ?_)
  rw [evalPart_some]
  refine thn (hst.run pins s1 σ H1 _ I1 q1) fun vk s3 ⟨y, H3, I3, r3, q3⟩ => ?_
  obtain ⟨rfl, a, xs, rfl, hx, q⟩ := q3
  obtain ⟨tk, rfl⟩ := r3
  have I4 : Inv X pins σ H3 { s3 with heap := s3.heap.push { cls := .type "slice", data := .fields #[.none, .none, .int (-1) tk] } } := I3.kept (t' := s3.toks) fun b ob q => Heap.get?_push_of_some _ q
  cases r1
  obtain ⟨its, r, ht, hz⟩ := I4.list hx
  have hlen := r.length
  refine tail_any (ops := [.ref a, .ref s3.heap.objs.size]) ht.isList.typeIs slot_list_getitem.lookup ?_ (by with_unfolding_all rfl)
  refine wpAny_getItem_list_slice ht.isList (Heap.IsSliceOf.new ..) .none .none (.int (-1) tk) (by decide) ?_ (by rw [List.size_toArray]; omega)
  rw [PySem.W.krv_pick]
  refine ⟨.ref _, _, I4.laid (t' := s3.toks) (o := .lst xs.reverse) (fun b ob q => Heap.get?_push_of_some _ q) (Nat.le_refl _) ?_, rfl, q _ (I4.hok.fresh (Nat.le_refl _))⟩
  refine ⟨by rw [List.length_reverse]; exact hz, its.reverse, 0, ?_, ?_⟩
  · exact r.reverse
  · exact Heap.get?_push_size _ rfl
end
end Fw
/-! # lists turned round, places in lists; defaults -/
namespace Fw
open PySem PySem.Spec PyProof.Rows L2
open Evl (Ex)
section
variable {X : Cx} {ob : List Nat} {Wx : WX} {e a b c ix st : Expr} {es : List Expr} {f g q qi : FQ} {pos p2 : Pos} {k : FA}
def aRev (f g : FQ) : FA := fun ρ μ => (f ρ μ).bind fun x => (g ρ μ).bind fun y => match y with
  | .int (-1) => (asL x).map List.reverse
  | _ => none
theorem newl_of {K : PySem.W.Frag} {W W1 : Wd} {ds : List D} {vs : List V} {p : Addr} (x : Ext W W1) (hp : W1.H p = none) (r : RL K W1 ds vs []) : NewL K W (W1.put p (.lst vs)) ds p := by
  refine ⟨x.trans (Ext.put x.ok hp), ?_, fun z => x.ok p z hp, vs, upd_same, RL_ext (Ext.put x.ok hp) ds r⟩
  cases h : W.H p with
  | none => rfl
  | some o =>
    rw [x.ex p o h] at hp
    cases hp
theorem pn_revL (ha : PQ X a f) (hb : PQ X st g) : PN X (.Subscript a (.Slice none none (some st) p2) pos) (aRev f g) := by
  obtain ⟨ta, pa, h1⟩ := ha
  obtain ⟨tb, pb, h2⟩ := hb
  refine ⟨_, pe_revL pa pb, fun σ W ρ μ F S ds hd Q q => ?_⟩
  obtain ⟨x, e1, hd⟩ := bind_some hd
  obtain ⟨y, e2, hd⟩ := bind_some hd
  split at hd
  case h_2 => cases hd
  obtain ⟨ds0, e3, z⟩ := map_some hd
  subst z
  refine h1 σ W ρ μ F S x e1 _ fun u W1 G1 x1 r1 => ?_
  have S1 := S.ext x1
  refine h2 σ W1 ρ μ F S1 _ e2 _ fun v W2 G2 x2 r2 => ?_
  obtain ⟨rfl, _⟩ := r2
  obtain ⟨p, vs, rfl, hsq, hR⟩ := R_asL e3 (R_ext x2 _ r1)
  exact ⟨rfl, p, vs, rfl, hsq, fun p' hp' => q p' _ (newl_of (x1.trans x2) hp' (RL_rev hR))⟩
def dLidx (x y : D) : Option D := (asL x).bind fun ds => (strsD ds).bind fun ts => match y with
  | .str t => if t ∈ ts then some (.int (ts.idxOf t : Nat)) else none
  | _ => none
theorem idx_at : ∀ {ts : List (List Nat)} {t : List Nat}, t ∈ ts → ts[ts.idxOf t]? = some t ∧ ∀ m < ts.idxOf t, ∀ u, ts[m]? = some u → u ≠ t
  | x :: ts, t, h => by
    by_cases z : x = t
    · subst z
      rw [List.idxOf_cons_self]
      exact ⟨rfl, fun m hm => absurd hm (Nat.not_lt_zero m)⟩
    · have hz : (x == t) = false := beq_eq_false_iff_ne.mpr z
      rw [show (x :: ts).idxOf t = ts.idxOf t + 1 by rw [List.idxOf_cons, hz]; rfl]
      have h2 : t ∈ ts := by
        rcases List.mem_cons.mp h with w | w
        · exact absurd w.symm z
        · exact w
      obtain ⟨i1, i2⟩ := idx_at h2
      refine ⟨i1, fun m hm u hu => ?_⟩
      cases m with
      | zero =>
        rw [List.getElem?_cons_zero] at hu
        cases hu
        exact z
      | succ m =>
        rw [List.getElem?_cons_succ] at hu
        exact i2 m (by omega) u hu
theorem pq_lidx {apos cpos : Pos} (ha : PQ X a f) (hb : PQ X b g) (hbase : attributeBase a "index" X.env (eval a X.env) = eval a X.env := by rfl)
    (hcall : ∀ ta tb : TE, PE X a ta → PE X b tb → PE X (.Call (.Attribute a "index" apos) [b] [] cpos) (tBM X.K "list" (rIndex X.K) ta (tCons tb tNil))) : PQ X (.Call (.Attribute a "index" apos) [b] [] cpos) (q2 dLidx f g) := by
  obtain ⟨ta, pa, h1⟩ := ha
  obtain ⟨tb, pb, h2⟩ := hb
  refine ⟨_, hcall ta tb pa pb, fun σ W ρ μ F S d hd Q q => ?_⟩
  obtain ⟨x, e1, hd⟩ := bind_some hd
  obtain ⟨y, e2, hd⟩ := bind_some hd
  obtain ⟨ds, e3, hd⟩ := bind_some hd
  obtain ⟨ts, e4, hd⟩ := bind_some hd
  cases y with
  | str t =>
    have hd2 : (if t ∈ ts then some (D.int (ts.idxOf t : Nat)) else none) = some d := hd
    by_cases ht : t ∈ ts
    case neg => rw [if_neg ht] at hd2; cases hd2
    rw [if_pos ht] at hd2
    cases hd2
    refine h1 σ W ρ μ F S x e1 _ fun u W1 G1 x1 r1 => ?_
    have S1 := S.ext x1
    obtain ⟨p, vs, rfl, hsq, hR⟩ := R_asL e3 r1
    refine ⟨.inl ⟨rfl, vs, hsq⟩, ?_⟩
    refine h2 σ W1 ρ μ F S1 _ e2 _ fun v W2 G2 x2 r2 => ?_
    obtain ⟨rfl, _⟩ := r2
    obtain ⟨p', vs', ep, hsq', hR'⟩ := R_asL e3 (R_ext x2 _ r1)
    cases ep
    have ev := R_strs e4 hR'
    obtain ⟨i1, i2⟩ := idx_at ht
    refine ⟨p, vs', .str (tr t), ts.idxOf t, .str (tr t), rfl, rfl, hsq', rfl, ?_, ?_, ?_, ?_, q _ W2 [] (x1.trans x2) ⟨rfl, rfl⟩⟩
    · rw [ev]
      exact List.all_eq_true.mpr fun z hz => by
        obtain ⟨w, hw, rfl⟩ := List.mem_map.mp hz
        rfl
    · rw [ev, List.getElem?_map, List.getElem?_map, i1]
      rfl
    · rw [eqV_str]
      exact decide_eq_true rfl
    · intro m z' hm hz
      rw [ev, List.getElem?_map, List.getElem?_map] at hz
      obtain ⟨w, hw, rfl⟩ := map_some hz
      obtain ⟨w2, hw2, rfl⟩ := map_some hw
      rw [eqV_str]
      exact decide_eq_false (i2 m hm w2 hw2)
  | _ => cases hd
end
/-! ### defaults: the last parameter's is None -/
section
variable {K : PySem.W.Frag} {x qual : Str} {params : Arguments} {body : List Stmt} {scope : Scope} {kws : List (Str × V)} {f : Addr} {fd : FuncData} {ps : List Str}
theorem binds_full (F : FunD K x qual params body scope [V.non] kws f fd)
    (h : ∀ (T : Addr) (kV doc pm : Value) (an : Option Addr) (cdv ct : Value) (us its : List Value), us.length = ps.length → its.length = 1 →
      ∃ k, bindArgs (PySem.W.fnOf x qual params body scope (.ref T) kV doc pm an cdv ct) ⟨us, []⟩ = seqItems? (.ref T) >>= k ∧ k (some its.toArray) = pure (ps.zip us)) : Binds K fd ps [] := by
  obtain ⟨ds, r, b⟩ := F.binds1 ps.length 1 (by simp) rfl fun T kV doc pm an cdv ct us its hu hi => by
    obtain ⟨k, e1, e2⟩ := h T kV doc pm an cdv ct us its hu hi
    refine ⟨k, e1, ?_⟩
    rw [List.drop_of_length_le (by rw [hi]; exact Nat.le_refl _), List.append_nil]
    exact e2
  cases r
  exact b
theorem binds_miss (F : FunD K x qual params body scope [V.non] kws f fd)
    (h : ∀ (T : Addr) (kV doc pm : Value) (an : Option Addr) (cdv ct : Value) (us its : List Value), us.length + 1 = ps.length → its.length = 1 →
      ∃ k, bindArgs (PySem.W.fnOf x qual params body scope (.ref T) kV doc pm an cdv ct) ⟨us, []⟩ = seqItems? (.ref T) >>= k ∧ k (some its.toArray) = pure (ps.zip (us ++ its))) (hp : 1 ≤ ps.length) : ∃ ds, Vals [V.non] ds ∧ Binds K fd ps ds := by
  obtain ⟨ds, r, b⟩ := F.binds1 (ps.length - 1) 0 (by simp) (by show ps.length - 1 + (1 - 0) = ps.length; omega) fun T kV doc pm an cdv ct us its hu hi => by
    obtain ⟨k, e1, e2⟩ := h T kV doc pm an cdv ct us its (by omega) hi
    exact ⟨k, e1, e2⟩
  exact ⟨ds, r, b⟩
theorem RL_non {W : Wd} : RL K W [.non] [V.non] [] := ⟨.non, [], [], [], rfl, ⟨rfl, rfl⟩, ⟨rfl, rfl⟩, rfl⟩
end
end Fw
/-! # xs.append(e), e changes something -/
namespace Fw
open PySem PySem.Spec PyProof.Rows L2
open Evl (Ex)
section
variable {X : Cx} {ob : List Nat} {Wx : WX} {e : Expr} {g : FX} {pos : Pos}
def appXK (i : Nat) (d : D) (ρ μ : List D) : Option SO := (lGet i ρ μ).bind fun ds => if data d = true ∧ dataL ds = true ∧ ds.length ≤ LIM then some (.nx (lPutR i (ds ++ [d]) ρ) (lPutM i (ds ++ [d]) ρ μ)) else none
def fAppX (i : Nat) (g : FX) : FS := fun ρ μ => (lGet i ρ μ).bind fun ds => if dataL ds = true then xS g (appXK i) ρ μ else none
theorem ps1_appX {i : Nat} {x : Str} {px apos cpos : Pos} (hp : PE X (.Name x px) (tVar i)) (hcall : ∀ te : TE, PE X e te → PE X (.Call (.Attribute (.Name x px) "append" apos) [e] [] cpos) (tBM X.K "list" rAppend (tVar i) (tCons te tNil))) (he : PX X Wx e g)
    (hsw : swapsWith (.Call (.Attribute (.Name x px) "append" apos) [e] [] cpos) none pos.line X.env = pure false := by rfl) : PS1 X ob Wx (.Expr (.Call (.Attribute (.Name x px) "append" apos) [e] [] cpos) pos) (fAppX i g) := by
  obtain ⟨te, p, k1⟩ := he
  refine ⟨_, ps_expr (hcall te p) hsw, fun E σ W ρ μ F S o ho h => ?_⟩
  obtain ⟨ds0, e0, ho⟩ := bind_some ho
  by_cases h0 : dataL ds0 = true
  case neg => rw [if_neg h0] at ho; cases ho
  rw [if_pos h0] at ho
  obtain ⟨a0, vs0, q1, h2, _, _, _⟩ := sta_list S e0 h0
  refine ⟨.ref a0, q1, .inl ⟨rfl, vs0, Evl.sq_of h2⟩, ?_⟩
  refine runS_bind k1 S ho h fun d v W1 G ρ1 μ1 F1 r1 S1 nd own mv hk => ?_
  obtain ⟨ds, e1, hk⟩ := bind_some hk
  by_cases hd : data d = true ∧ dataL ds = true ∧ ds.length ≤ LIM
  case neg => rw [if_neg hd] at hk; cases hk
  rw [if_pos hd] at hk
  cases hk
  have z := R_data d hd.1 r1
  subst z
  obtain ⟨a1, vs, q2, h3, h4, h5, next⟩ := sta_list S1 e1 hd.2.1
  rw [q1] at q2
  cases q2
  have hl := RL_len h4
  have lt := Lt.upd_lst (ys := vs ++ [v]) h3 h5
  obtain ⟨F3, S3, mv3⟩ := next (ds ++ [d]) (vs ++ [v]) (RL_app (RL_lt lt ds h4) ⟨v, [], [], [], rfl, R_lt lt d r1, ⟨rfl, rfl⟩, rfl⟩)
  exact ⟨a0, vs, v, rfl, rfl, h3, by rw [hl]; exact lim_lt hd.2.2, h σ _ F3 S3 (mv.trans mv3) Kept.refl⟩
end
/-! ### reckoning -/
section
variable {ρ μ : List D} {x0 : D} {i : Nat} {ds ds' : List D} {g : FX} {q qi f : FQ} {k : FA}
/-- the list in a slot, by what stands in the slot -/
def lgK (μ : List D) (t : Option D) : Option (List D) := match t with
  | some (.ml ds) => some ds
  | some (.ref k) => (match μ[k]? with
    | some (.ml ds) => some ds
    | _ => none)
  | _ => none
theorem lGet_k : lGet i (x0 :: ρ) μ = lgK μ ((x0 :: ρ)[i]?) := rfl
theorem lgK_ml : lgK μ (some (.ml ds)) = some ds := rfl
def lgM (t : Option D) : Option (List D) := match t with
  | some (.ml ds) => some ds
  | _ => none
theorem lgK_ref (k : Nat) : lgK μ (some (.ref k)) = lgM (μ[k]?) := rfl
theorem lgM_ml : lgM (some (.ml ds)) = some ds := rfl
def lpR (i : Nat) (ds ρ : List D) (t : Option D) : List D := match t with
  | some (.ref _) => ρ
  | _ => ρ.set i (.ml ds)
def lpM (ds μ : List D) (t : Option D) : List D := match t with
  | some (.ref k) => μ.set k (.ml ds)
  | _ => μ
theorem lPutR_k : lPutR i ds (x0 :: ρ) = lpR i ds (x0 :: ρ) ((x0 :: ρ)[i]?) := rfl
theorem lPutM_k : lPutM i ds (x0 :: ρ) μ = lpM ds μ ((x0 :: ρ)[i]?) := rfl
theorem lpR_ml : lpR i ds ρ (some (.ml ds')) = ρ.set i (.ml ds) := rfl
theorem lpR_ref (k : Nat) : lpR i ds ρ (some (.ref k)) = ρ := rfl
theorem lpM_ml : lpM ds μ (some (.ml ds')) = μ := rfl
theorem lpM_ref (k : Nat) : lpM ds μ (some (.ref k)) = μ.set k (.ml ds) := rfl
theorem fLm_k (op : List D → List D → Option (List D)) : fLm i op k (x0 :: ρ) μ = (k (x0 :: ρ) μ).bind fun as => (lGet i (x0 :: ρ) μ).bind fun ds => if dataL as = true ∧ dataL ds = true then (op ds as).map fun ds' => .nx (lPutR i ds' (x0 :: ρ)) (lPutM i ds' (x0 :: ρ) μ) else none := rfl
theorem opIns_k (j : Int) (d : D) : opIns ds [.int j, d] = if 0 ≤ j ∧ j < 1000000 ∧ ds.length ≤ 1000000 then some (ds.take j.toNat ++ d :: ds.drop j.toNat) else none := rfl
def setIxK (i : Nat) (d : D) (ρ μ : List D) (j : D) : Option SO := match j with
  | .int j => (lGet i ρ μ).bind fun ds => if data d = true ∧ dataL ds = true ∧ 0 ≤ j ∧ j < ds.length then some (.nx (lPutR i (ds.set j.toNat d) ρ) (lPutM i (ds.set j.toNat d) ρ μ)) else none
  | _ => none
theorem fSetIx_k : fSetIx i qi q (x0 :: ρ) μ = (q (x0 :: ρ) μ).bind fun d => (qi (x0 :: ρ) μ).bind fun j => setIxK i d (x0 :: ρ) μ j := rfl
theorem setIxK_int (d : D) (j : Int) : setIxK i d ρ μ (.int j) = (lGet i ρ μ).bind fun ds => if data d = true ∧ dataL ds = true ∧ 0 ≤ j ∧ j < ds.length then some (.nx (lPutR i (ds.set j.toNat d) ρ) (lPutM i (ds.set j.toNat d) ρ μ)) else none := rfl
theorem qIxM_k : qIxM f q (x0 :: ρ) μ = (f (x0 :: ρ) μ).bind fun x => (q (x0 :: ρ) μ).bind fun y => dIxM μ x y := rfl
def dixK (y : D) (l : Option D) : Option D := match l with
  | some (.ml ds) => dIx (.ml ds) y
  | some (.lst ds) => dIx (.lst ds) y
  | _ => none
theorem dIxM_ref (k : Nat) (y : D) : dIxM μ (.ref k) y = dixK y (μ[k]?) := by
  show (μ[k]?).bind _ = _
  cases μ[k]? with
  | none => rfl
  | some l => cases l <;> rfl
theorem dixK_ml (y : D) : dixK y (some (.ml ds)) = dIx (.ml ds) y := rfl
theorem dixK_lst (y : D) : dixK y (some (.lst ds)) = dIx (.lst ds) y := rfl
theorem dIxM_ml (y : D) : dIxM μ (.ml ds) y = dIx (.ml ds) y := rfl
theorem dIxM_lst (y : D) : dIxM μ (.lst ds) y = dIx (.lst ds) y := rfl
theorem xShareN_k : xShareN k (x0 :: ρ) μ = (k (x0 :: ρ) μ).map fun ds => .ok (.ref μ.length) (x0 :: ρ) (μ ++ [.ml ds]) := rfl
theorem fNever_k : fNever (x0 :: ρ) μ = none := rfl
def revK (x y : D) : Option (List D) := match y with
  | .int (-1) => (asL x).map List.reverse
  | _ => none
theorem aRev_k : aRev f q (x0 :: ρ) μ = (f (x0 :: ρ) μ).bind fun x => (q (x0 :: ρ) μ).bind fun y => revK x y := rfl
theorem revK_lst : revK (.lst ds) (.int (-1)) = some ds.reverse := rfl
theorem revK_ml (h : dataL ds = true) : revK (.ml ds) (.int (-1)) = some ds.reverse := by
  show (if dataL ds = true then some ds else none).map List.reverse = _
  rw [if_pos h]
  rfl
theorem dLidx_lst {ts : List (List Nat)} {t : List Nat} (h : t ∈ ts) : dLidx (.lst (ts.map D.str)) (.str t) = some (.int (ts.idxOf t : Nat)) := by
  unfold dLidx
  show (strsD (ts.map D.str)).bind _ = _
  rw [strsD_map]
  exact if_pos h
theorem fAppX_k : fAppX i g (x0 :: ρ) μ = (lGet i (x0 :: ρ) μ).bind fun ds => if dataL ds = true then eS (g (x0 :: ρ) μ) (appXK i) else none := by
  unfold fAppX
  simp only [xS_eq]
theorem appXK_k (d : D) : appXK i d (x0 :: ρ) μ = (lGet i (x0 :: ρ) μ).bind fun ds => if data d = true ∧ dataL ds = true ∧ ds.length ≤ 1000000 then some (.nx (lPutR i (ds ++ [d]) (x0 :: ρ)) (lPutM i (ds ++ [d]) (x0 :: ρ) μ)) else none := rfl
end
def kset11 := And.intro @lGet_k <| And.intro @lgK_ml <| And.intro @lgK_ref <| And.intro @lgM_ml <| And.intro @lPutR_k <| And.intro @lPutM_k <| And.intro @lpR_ml <| And.intro @lpR_ref <| And.intro @lpM_ml <| And.intro @lpM_ref <| And.intro @fLm_k <| And.intro @opIns_k <| And.intro @fSetIx_k <| And.intro @setIxK_int <| And.intro @qIxM_k <| And.intro @dIxM_ref <| And.intro @dixK_ml <| And.intro @dixK_lst <| And.intro @dIxM_ml <| And.intro @dIxM_lst <| And.intro @xShareN_k <| And.intro @fNever_k <| And.intro @aRev_k <| And.intro @revK_lst <| And.intro @revK_ml <| And.intro @fAppX_k @appXK_k
end Fw
/-! # list(e), reckoned -/
namespace Fw
open PySem PySem.Spec PyProof.Rows L2
def listK (o : Option D) : Option (List D) := o.bind fun d => (seqD d).bind fun ds => if dataL ds = true then some ds else none
section
variable {f : FQ} {x0 : D} {ρ μ ds : List D}
theorem qListOf_k : qListOf f (x0 :: ρ) μ = listK (f (x0 :: ρ) μ) := rfl
theorem listK_lst : listK (some (.lst ds)) = if dataL ds = true then some ds else none := rfl
theorem listK_ml : listK (some (.ml ds)) = if dataL ds = true then some ds else none := rfl
theorem listK_tup : listK (some (.tup ds)) = if dataL ds = true then some ds else none := rfl
end
def kset12 := And.intro @qListOf_k <| And.intro @listK_lst <| And.intro @listK_ml @listK_tup
end Fw
/-! # a tuple turned round -/
namespace HT
open PySem PySem.Spec PyProof.Rows
section
variable {prog : Program} {w : World} {A : Around} {E : Value → Shared → Prop} {s : Shared}
theorem rev_adjust (n : Nat) : Builtin.Slice.sliceAdjust none none (-1) (n : Int) = ((n : Int) - 1, -1) := rfl
theorem rev_places (n : Nat) : Builtin.Slice.slicePlaces ((n : Int) - 1) (-1) (-1) = n := by
  unfold Builtin.Slice.slicePlaces
  have h1 : ¬ ((-1 : Int) > 0) := by omega
  rw [if_neg h1]
  by_cases h : (n : Int) - 1 > -1
  · rw [if_pos h, show (-(-1) : Int) = 1 by decide, Int.ediv_one]
    omega
  · rw [if_neg h]
    omega
theorem rev_applied {sl : Addr} {vs : Value} {n : Nat} {Q : Int × Int × Nat → Shared → Prop} (hs : s.heap.IsSliceOf sl .none .none vs) (p : IsPart vs (some (-1)))
    (h : Q ((n : Int) - 1, -1, n) s) : wpAny (model prog w) A (Builtin.Slice.sliceApplied (.ref sl) (pure (n : Int))) Q E s := by
  obtain ⟨os, hos, hcs, hds⟩ := id hs
  unfold Builtin.Slice.sliceApplied Builtin.Slice.sliceFields
  refine wpAny_bind (wpAny_bind (wpAny_field hos hds (x := .none) rfl (wpAny_bind (wpAny_field hos hds (x := .none) rfl (wpAny_bind (wpAny_field hos hds (x := vs) rfl (wpAny_pure ?_)))))))
  refine wpAny_bind (slicePart_ p ?_)
  show wpAny _ _ (if ((-1 : Int) == 0) = true then _ else _) _ _ s
  rw [if_neg (by decide)]
  refine wpAny_bind (slicePart_none (wpAny_bind (slicePart_none (wpAny_bind (wpAny_pure ?_)))))
  show wpAny _ _ (match Builtin.Slice.sliceAdjust none none (-1) (n : Int) with | (lo, hi) => pure (lo, (-1 : Int), Builtin.Slice.slicePlaces lo hi (-1))) _ _ s
  rw [rev_adjust]
  show wpAny _ _ (pure (((n : Int) - 1), (-1 : Int), Builtin.Slice.slicePlaces ((n : Int) - 1) (-1) (-1))) _ _ s
  rw [rev_places]
  exact wpAny_pure h
theorem rev_pick (xs : Array Value) : ((List.range xs.size).filterMap fun (m : Nat) => xs[(((xs.size : Int) - 1) + (m : Int) * (-1)).toNat]?).toArray = xs.toList.reverse.toArray := by
  congr 1
  have e : (List.range xs.size).filterMap (fun (m : Nat) => xs[(((xs.size : Int) - 1) + (m : Int) * (-1)).toNat]?) = ((List.range xs.size).map fun k => xs.size - 1 - k).filterMap (xs[·]?) := by
    rw [List.filterMap_map]
    congr 1
    funext m
    show _ = xs[xs.size - 1 - m]?
    congr 1
    omega
  rw [e, PySem.W.krv_range, List.filterMap_reverse, PySem.W.krv_all]
theorem getItem_tuple_rev {t sl : Addr} {items : Array Value} {vs : Value} {Q : Value → Shared → Prop} (ht : IsTup s.heap t items) (hs : s.heap.IsSliceOf sl .none .none vs) (p : IsPart vs (some (-1)))
    (h : Q (.ref s.heap.objs.size) { s with heap := s.heap.push { cls := .type "tuple", data := .seq items.toList.reverse.toArray } })
    (hsz : items.size ≤ sizeLine) : wpAny (model prog w) A (getItem (.ref t) (.ref sl)) Q E s := by
  have htake : sizeOk (.seq items.toList.reverse.toArray) := by
    show items.toList.reverse.toArray.size ≤ sizeLine
    rw [List.size_toArray, List.length_reverse, Array.length_toList]
    omega
  obtain ⟨os, hos, hcs, hds⟩ := id hs
  have hTs : s.TypeIs (.ref sl) "slice" := ⟨os, hos, hcs⟩
  unfold getItem
  try with_reducible refine wpAny_holding ?_
  first | refine wpAny_bind (wpAny_pure ?_) | skip
  refine wpAny_bind (wpAny_sequenceKey ht.typeIs (by decide) ?_)
  refine wpAny_bind (wpAny_callSpecial?_slot (name := Str.ofString "__getitem__") ht.typeIs PyProof.Rows.slot_tuple_getitem
    (wpAny_call_entry PyProof.Rows.slot_tuple_getitem ht.typeIs entry_tuple_getitem ?_ (args_tuple_getitem _ _)))
  show wpAny _ _ (Builtin.Tuple.tupleItemsOf (.ref t) >>= _) _ _ s
  refine wpAny_bind (tupleItemsOf_ ht ?_)
  refine wpAny_bind (wpAny_typeOf hTs ?_)
  rw [if_pos (by decide)]
  refine wpAny_bind (rev_applied hs p ?_)
  have hno : ¬ ((((items.size : Int) - 1) == 0 && (-1 : Int) == 1 && items.size == items.size) = true) := by
    intro q
    rw [Bool.and_eq_true, Bool.and_eq_true] at q
    exact absurd q.1.2 (by decide)
  show wpAny _ _ (if ((((items.size : Int) - 1) == 0 && (-1 : Int) == 1 && items.size == items.size) = true) then _ else _) _ _ s
  rw [if_neg hno, rev_pick]
  first
    | exact wpAny_bind (m := Builtin.Tuple.tupleExact _) (wpAny_newObj_type (wpAny_pure ⟨_, rfl, wpAny_pure h⟩) htake)
    | exact wpAny_bind (m := Builtin.Tuple.tupleExact _) (wpAny_newObj_type (wpAny_bind (wpAny_pure (wpAny_pure ⟨_, rfl, wpAny_pure h⟩))) htake)
    | exact wpAny_bind (wpAny_bind (m := Builtin.Tuple.tupleExact _) (wpAny_newObj_type (wpAny_pure (wpAny_pure ⟨_, rfl, wpAny_pure h⟩)) htake))
    | exact wpAny_bind (wpAny_bind (m := Builtin.Tuple.tupleExact _) (wpAny_newObj_type (wpAny_pure ⟨_, rfl, wpAny_pure h⟩) htake))
end
end HT
namespace Fw
open PySem PySem.Spec PyProof.Rows L2
open Evl (Ex)
section
variable {X : Cx} {ob : List Nat} {Wx : WX} {e a b c st : Expr} {f g : FQ} {pos p2 : Pos}
def tRevT (K : PySem.W.Frag) (te : TE) (ts : TE) : TE := fun σ H Q => te σ H fun x H1 => ts σ H1 fun y H2 => y = .int (-1) ∧ ∃ a xs, x = .ref a ∧ SqT K H2 a xs ∧ ∀ p, H2 p = none → Q (.ref p) (upd H2 p (.tup xs.reverse))
theorem pe_revT {te ts : TE} (he : PE X e te) (hst : PE X st ts) : PE X (.Subscript e (.Slice none none (some st) p2) pos) (tRevT X.K te ts) := by
  refine ⟨fun pins s σ H Q I h => ?_⟩
  refine Subscript_ (thn (he.run pins s σ H _ I h) fun v s1 ⟨x, H1, I1, r1, q1⟩ => ?_)
  refine wpAny_Slice ?_
  rw [evalPart_none]
  refine wpAny_pure (wpAny_pure ?_)
  rw [evalPart_some]
  refine thn (hst.run pins s1 σ H1 _ I1 q1) fun vk s3 ⟨y, H3, I3, r3, q3⟩ => ?_
  obtain ⟨rfl, a, xs, rfl, hx, q⟩ := q3
  obtain ⟨tk, rfl⟩ := r3
  have I4 : Inv X pins σ H3 { s3 with heap := s3.heap.push { cls := .type "slice", data := .fields #[.none, .none, .int (-1) tk] } } := I3.kept (t' := s3.toks) fun b ob q => Heap.get?_push_of_some _ q
  cases r1
  obtain ⟨its, r, ht, hz⟩ := I4.tuple hx
  have hlen := r.length
  refine tail_any (ops := [.ref a, .ref s3.heap.objs.size]) ht.typeIs PyProof.Rows.slot_tuple_getitem.lookup ?_ (by with_unfolding_all rfl)
  refine HT.getItem_tuple_rev ht (Heap.IsSliceOf.new ..) (.int (-1) tk) ?_ (by rw [List.size_toArray]; omega)
  refine ⟨.ref _, _, I4.laid (t' := s3.toks) (o := .tup xs.reverse) (fun b ob q => Heap.get?_push_of_some _ q) (Nat.le_refl _) ?_, rfl, q _ (I4.hok.fresh (Nat.le_refl _))⟩
  exact ⟨by rw [List.length_reverse]; exact hz, _, r.reverse, IsTup.new _ _⟩
def dRevT (x y : D) : Option D := match y with
  | .int (-1) => (match x with
    | .tup ds => if dataL ds = true then some (.tup ds.reverse) else none
    | _ => none)
  | _ => none
theorem dataL_rev {ds : List D} (h : dataL ds = true) : dataL ds.reverse = true := by
  rw [dataL_all, List.all_eq_true] at h ⊢
  exact fun d hd => h d (List.mem_reverse.mp hd)
theorem pq_revT (ha : PQ X a f) (hb : PQ X st g) : PQ X (.Subscript a (.Slice none none (some st) p2) pos) (q2 dRevT f g) := by
  obtain ⟨ta, pa, h1⟩ := ha
  obtain ⟨tb, pb, h2⟩ := hb
  refine ⟨_, pe_revT pa pb, fun σ W ρ μ F S d hd Q q => ?_⟩
  obtain ⟨x, e1, hd⟩ := bind_some hd
  obtain ⟨y, e2, hd⟩ := bind_some hd
  unfold dRevT at hd
  split at hd
  case h_2 => cases hd
  split at hd
  case h_2 => cases hd
  rename_i ds hdd
  by_cases hD : dataL ds = true
  case neg => rw [if_neg hD] at hd; cases hd
  rw [if_pos hD] at hd
  cases hd
  refine h1 σ W ρ μ F S _ e1 _ fun u W1 G1 x1 r1 => ?_
  have S1 := S.ext x1
  refine h2 σ W1 ρ μ F S1 _ e2 _ fun v W2 G2 x2 r2 => ?_
  obtain ⟨rfl, _⟩ := r2
  obtain ⟨p, vs, rfl, hsq, hR⟩ := R_ext x2 _ r1
  have hG := RL_data ds hD hR
  subst hG
  exact ⟨rfl, p, vs, rfl, hsq, fun p' hp' => q _ _ _ ((x1.trans x2).trans (Ext.put x2.ok hp')) (R_newT x2.ok hp' (RL_rev hR))⟩
theorem dRevT_k {ds : List D} (h : dataL ds = true) : dRevT (.tup ds) (.int (-1)) = some (.tup ds.reverse) := if_pos h
def kset13 := @dRevT_k
end
end Fw
/-! # defs that hand back a new instance, called with what changes; a list's last taken out -/
namespace Fw
open PySem PySem.Spec PyProof.Rows L2
open Evl (Ex)
section
variable {X : Cx} {Wx : WX} {e : Expr} {es : List Expr} {p pos : Pos} {kf : FXA} {x : Str} {k n : Nat} {dd : List D} {run : RF}
def xRunGX (n : Nat) (dd : List D) (run : RF) (k : FXA) : FX := xA k fun ds ρ μ => if (fzL ds ++ dd).length = n then (run (fzL ds ++ dd) (fzL μ)).bind fun d => if noO μ.length d = true then some (.ok d ρ μ) else none else none
theorem px_callGX (O : OkF X.prog X.w X.K X.mg X.base x k n dd run) (hr : Room k X.A) (ha : PAX X Wx (e :: es) kf) (hg : Gl X x := by rfl) (hdb : (x == ("__debug__" : Str)) = false := by decide)
    (he : starEach (e :: es) X.env = (false, eval e X.env) :: starEach es X.env := by rfl) (hpl : (backTo pos (starEach es X.env)).any (·.1) = false := by rfl) : PX X Wx (.Call (.Name x p) (e :: es) [] pos) (xRunGX n dd run kf) := by
  obtain ⟨f, fd, ps, dvs, us, hF, hb, hv, hdd, hm, hk⟩ := O
  obtain ⟨t, pt, k1⟩ := ha
  refine ⟨_, pe_call hF hr hg hm hk hb hv passN pt hdb he hpl, fun σ W ρ μ F S o ho Q hQ => ?_⟩
  refine runA_bind k1 S ho hQ fun ds vs W1 ρ1 μ1 F1 r S1 mv ho1 => ?_
  by_cases hl : (fzL ds ++ dd).length = n
  case neg => rw [if_neg hl] at ho1; cases ho1
  rw [if_pos hl] at ho1
  obtain ⟨d', e2, ho1⟩ := bind_some ho1
  by_cases hz : noO μ1.length d' = true
  case neg => rw [if_neg hz] at ho1; cases ho1
  rw [if_pos hz] at ho1
  cases ho1
  exact own_back S1 (RL_app (RL_fz S1.ok ds r) (hdd _)) hl e2 hz fun v W2 G x2 r2 nd nw => hQ v W2 G F1 r2 (S1.ext x2) (fresh_nd S1 nd nw) (fun a ha => (nw a ha).1) (mv.trans (x2.mvG fun a ha => (nw a ha).2))
theorem xRunGX_eq (n : Nat) (dd : List D) (run : RF) (k : FXA) (x0 : D) (ρ μ : List D) : xRunGX n dd run k (x0 :: ρ) μ = aB (k (x0 :: ρ) μ) fun as ρ1 μ1 => (avals as).bind fun ds => if (fzL ds ++ dd).length = n then (run (fzL ds ++ dd) (fzL μ1)).bind fun d => if noO μ1.length d = true then some (.ok d ρ1 μ1) else none else none := xA_eq _ _
end
section
variable {X : Cx} {ob : List Nat} {Wx : WX}
def xPop (i : Nat) : FX := fun ρ μ => (lGet i ρ μ).bind fun ds => if dataL ds = true then (ds.getLast?).map fun d => .ok d (lPutR i ds.dropLast ρ) (lPutM i ds.dropLast ρ μ) else none
theorem RL_dropLast {K : PySem.W.Frag} {W : Wd} : ∀ {ds : List D} {vs : List V}, RL K W ds vs [] → RL K W ds.dropLast vs.dropLast [] := by
  intro ds vs h
  have hl := RL_len h
  rw [List.dropLast_eq_take, List.dropLast_eq_take, hl]
  exact RL_take h
theorem px_pop {i : Nat} {x : Str} {px apos cpos : Pos} (hp : PE X (.Name x px) (tVar i)) (hcall : PE X (.Call (.Attribute (.Name x px) "pop" apos) [] [] cpos) (tBM X.K "list" rPop (tVar i) tNil)) : PX X Wx (.Call (.Attribute (.Name x px) "pop" apos) [] [] cpos) (xPop i) := by
  refine ⟨_, hcall, fun σ W ρ μ F S o ho Q hQ => ?_⟩
  obtain ⟨ds, e1, ho⟩ := bind_some ho
  by_cases hd : dataL ds = true
  case neg => rw [if_neg hd] at ho; cases ho
  rw [if_pos hd] at ho
  obtain ⟨d, e2, rfl⟩ := map_some ho
  obtain ⟨a, vs, hs, hH, hR, hF, back⟩ := sta_list S e1 hd
  have hlen := RL_len hR
  have hg : ds[ds.length - 1]? = some d := by rw [← List.getLast?_eq_getElem?]; exact e2
  obtain ⟨y, F1, hy, ry, hF1⟩ := RL_get hR hg
  have hdd : data d = true := by
    rw [dataL_all, List.all_eq_true] at hd
    exact hd d (List.mem_of_getLast? e2)
  have zF := R_data d hdd ry
  subst zF
  have lt : Lt W ⟨upd W.H a (.lst vs.dropLast), W.Fr, W.m⟩ := Lt.upd_lst hH hF
  obtain ⟨F', S', mv⟩ := back ds.dropLast vs.dropLast (RL_lt lt _ (RL_dropLast hR))
  refine ⟨.ref a, hs, .inl ⟨rfl, vs, SqL.of hH⟩, ?_⟩
  refine ⟨a, vs, y, rfl, rfl, hH, by rw [hlen]; exact hy, ?_⟩
  exact hQ y ⟨upd W.H a (.lst vs.dropLast), W.Fr, W.m⟩ [] F' (R_lt lt d ry) S' S'.nd (fun _ hb => nomatch hb) mv
theorem xPop_eq (i : Nat) (x0 : D) (ρ μ : List D) : xPop i (x0 :: ρ) μ = (lGet i (x0 :: ρ) μ).bind fun ds => if dataL ds = true then (ds.getLast?).map fun d => .ok d (lPutR i ds.dropLast (x0 :: ρ)) (lPutM i ds.dropLast (x0 :: ρ) μ) else none := rfl
end
/-! ### a text some times over -/
theorem foldl_cps : ∀ (xs : List (Array Nat)) (acc : Array Nat), (xs.foldl (· ++ ·) acc).toList = acc.toList ++ (xs.map Array.toList).flatten
  | [], acc => by simp
  | x :: xs, acc => by
    rw [List.foldl_cons, foldl_cps xs, Array.toList_append, List.map_cons, List.flatten_cons, List.append_assoc]
def repL (a : List Nat) (k : Nat) : List Nat := (List.replicate k a).flatten
theorem mul_tr (a : List Nat) (k : Int) : Txt.mul (tr a) k = tr (repL a k.toNat) := by
  unfold Txt.mul repL
  by_cases h : k < 1
  · rw [if_pos h, show k.toNat = 0 by omega]
    rfl
  · rw [if_neg h]
    by_cases h1 : (k == 1 || (tr a).length == 0) = true
    · rw [if_pos h1]
      rw [Bool.or_eq_true] at h1
      rcases h1 with h1 | h1
      · have : k = 1 := eq_of_beq h1
        rw [this]
        show tr a = tr (List.replicate 1 a).flatten
        simp
      · have h2 : (tr a).length = 0 := eq_of_beq h1
        rw [tr_length] at h2
        have h3 : a = [] := List.length_eq_zero_iff.mp h2
        subst h3
        have : ∀ n : Nat, (List.replicate n ([] : List Nat)).flatten = [] := by
          intro n
          induction n with
          | zero => rfl
          | succ n ih => rw [List.replicate_succ, List.flatten_cons, ih]; rfl
        rw [this]
    · rw [if_neg h1]
      show (⟨_⟩ : Str) = ⟨_⟩
      congr 1
      apply Array.ext'
      rw [foldl_cps]
      simp
theorem op_mulS {X : Cx} : OpR X (binaryOp .Mult) (fun x y H Q => ∃ a k, x = .str a ∧ y = .int k ∧ MulOk a k ∧ Q (.str (Txt.mul a k)) H) := by
  intro pins s σ H x y v u Q I rx ry h
  obtain ⟨a, k, rfl, rfl, ok, q⟩ := h
  obtain ⟨t, rfl⟩ := rx
  obtain ⟨t2, rfl⟩ := ry
  exact PySem.SB.mul ok fun t' n => ⟨.str (Txt.mul a k), H, I.tok n, ⟨t', rfl⟩, q⟩
def dMulS (x y : D) : Option D := match x, y with
  | .str a, .int k => if a.length ≤ 1000 ∧ -1000000 ≤ k ∧ k ≤ 2000 then some (.str (repL a k.toNat)) else none
  | _, _ => none
theorem opd_mulS {X : Cx} : OpD X (binaryOp .Mult) dMulS := by
  refine ⟨_, op_mulS, fun W x y u v G1 G2 ok r1 r2 d hd Q q => ?_⟩
  unfold dMulS at hd
  split at hd
  case h_2 => cases hd
  rename_i a k
  obtain ⟨rfl, _⟩ := r1
  obtain ⟨rfl, _⟩ := r2
  by_cases h : a.length ≤ 1000 ∧ -1000000 ≤ k ∧ k ≤ 2000
  case neg => rw [if_neg h] at hd; cases hd
  rw [if_pos h] at hd
  cases hd
  obtain ⟨h1, h2, h3⟩ := h
  refine ⟨_, _, rfl, rfl, ⟨?_, fun g1 _ => ?_, fun g1 _ => ?_⟩, ?_⟩
  · rw [decide_eq_false (by omega), decide_eq_false (by omega)]
    rfl
  · rw [tr_length]
    have : (1000 : Int) ≤ (2 ^ 63 - 1) / k := by
      rw [Int.le_ediv_iff_mul_le (by omega)]
      omega
    omega
  · rw [tr_length]
    have : a.length * k.toNat ≤ 1000 * 2000 := Nat.mul_le_mul h1 (by omega)
    unfold Builtin.Str.tooLong
    first | exact decide_eq_false (by rw [sizeLine_eq]; omega) | (rw [sizeLine_eq]; exact decide_eq_false (by omega)) | (simp [sizeLine_eq]; omega)
  · rw [mul_tr]
    exact q _ W [] (Ext.refl ok) ⟨rfl, rfl⟩
theorem dMulS_k {a : List Nat} {k : Int} (h1 : a.length ≤ 1000) (h2 : -1000000 ≤ k) (h3 : k ≤ 2000) : dMulS (.str a) (.int k) = some (.str (repL a k.toNat)) := if_pos ⟨h1, h2, h3⟩
theorem repL_one (c k : Nat) : repL [c] k = List.replicate k c := by
  unfold repL
  induction k with
  | zero => rfl
  | succ k ih => rw [List.replicate_succ, List.flatten_cons, ih, List.replicate_succ]; rfl
def kset14 := And.intro @xRunGX_eq <| And.intro @xPop_eq @dMulS_k
end Fw
/-! # reckoning: what several know -/
namespace Fw
open PySem PySem.Spec PyProof.Rows L2
def mQR (m : Str) (n : Nat) (dd : List D) (runs : MT) (ρ μ : List D) (j : Nat) (o : Option (List D)) (t : Option D) : Option EO := match t with
  | some (.obj c ns _) => if fidx m ns = none then (runs c).bind fun run => o.bind fun as => if flL as = true ∧ (D.ref j :: (as ++ dd)).length = n then (run (D.ref j :: (as ++ dd)) μ).bind (xPut fun ys => some ρ) else none else none
  | _ => none
theorem mQK_ref (q : List Str) (m : Str) (n : Nat) (dd : List D) (runs : MT) (ρ μ : List D) (i j : Nat) (r : D) (o : Option (List D)) : mQK q m n dd runs ρ μ i r o (some (.ref j)) = mQR m n dd runs ρ μ j o (μ[j]?) := rfl
theorem mQR_obj (m : Str) (n : Nat) (dd : List D) (runs : MT) (ρ μ : List D) (j : Nat) (o : Option (List D)) (c : Str) (ns : List Str) (ds : List D) : mQR m n dd runs ρ μ j o (some (.obj c ns ds)) = if fidx m ns = none then (runs c).bind fun run => o.bind fun as => if flL as = true ∧ (D.ref j :: (as ++ dd)).length = n then (run (D.ref j :: (as ++ dd)) μ).bind (xPut fun ys => some ρ) else none else none := rfl
def fldR (ok : OkT) (x : Str) (d : D) (ρ μ : List D) (k : Nat) (t : Option D) : Option SO := match t with
  | some (.obj c ns ds) => if ok c x = true ∧ ns.length < 1000 ∧ fl d = true then some (.nx ρ (μ.set k (putD x d c ns ds))) else none
  | _ => none
theorem fldK_ref (ok : OkT) (i : Nat) (q : List Str) (x : Str) (d : D) (ρ μ : List D) (r : D) (k : Nat) : fldK ok i q x d ρ μ r (some (.ref k)) = fldR ok x d ρ μ k (μ[k]?) := rfl
theorem fldR_obj (ok : OkT) (x : Str) (d : D) (ρ μ : List D) (k : Nat) (c : Str) (ns : List Str) (ds : List D) : fldR ok x d ρ μ k (some (.obj c ns ds)) = if ok c x = true ∧ ns.length < 1000 ∧ fl d = true then some (.nx ρ (μ.set k (putD x d c ns ds))) else none := rfl
def kset15 := And.intro @mQK_ref <| And.intro @mQR_obj <| And.intro @fldK_ref @fldR_obj
end Fw
/-! # try .. except C: -/
namespace Fw
open PySem PySem.Spec PyProof.Rows L2
/-- a walk's weakest wish: that the mirror's end goes where it should -/
def canon (K : PySem.W.Frag) (ob : List Nat) (Wx : WX) (b : FS) : TS := fun E σ H => ∃ (W : Wd) (ρ μ : List D) (F : List Addr) (o : SO), W.H = H ∧ Sta K W σ ρ μ F ∧ b ρ μ = some o ∧ Goes K ob Wx E σ W F o
theorem pss_canon {X : Cx} {ob : List Nat} {Wx : WX} {ss : List Stmt} {b : FS} (h : PSS X ob Wx ss b) : PSs X ss (canon X.K ob Wx b) := by
  obtain ⟨ts, p, k⟩ := h
  refine ⟨fun pins s σ H E I hh => ?_⟩
  obtain ⟨W, ρ, μ, F, o, rfl, S, ho, g⟩ := hh
  exact p.run pins s σ W.H E I (k E σ W ρ μ F S o ho g)
def notEx : SO → Bool
  | .ex .. => false
  | _ => true
def fTry (tab : Str → Option Bool) (b s : FS) : FS := fun ρ μ => (b ρ μ).bind fun o => match o with
  | .ex c fs ρ1 μ1 => (tab c).bind fun z => if z = true then (s ρ1 μ1).bind fun o2 => if notEx o2 = true then some o2 else none else some (.ex c fs ρ1 μ1)
  | o => some o
theorem goes_notEx {K : PySem.W.Frag} {ob : List Nat} {Wx Wy : WX} {E : Ends} {σ : L2.St} {W : Wd} {F : List Addr} {o : SO} (h : Goes K ob Wx E σ W F o) (n : notEx o = true) : Goes K ob Wy E σ W F o := by
  cases o with
  | ex c fs ρ μ => cases n
  | _ => exact h
section
variable {X : Cx} {ob : List Nat} {Wx : WX} {x : Str} {cv : Value} {body suite : List Stmt} {b₀ : Stmt} {np pos pos' : Pos} {b s : FS} {tab : Str → Option Bool}
theorem ps1_tryOnly (hs : X.stack = X.env :: X.outer) (hf : X.env.frame = some X.env.locals) (hc : Names X x cv) (tk : L2N.Takes X Wx)
    (ht : ∀ c z, tab c = some z → PySem.W.exmOne X.K (.ref (He.ga X.K c)) cv = some z)
    (hb : ∀ (W : WX) (pn : List (Addr × Obj)) (xe : Value → Shared → Prop), L2N.Takes (X.tr pn xe) W → PassesOwn (model X.prog X.w) X.A X.env xe → PSS (X.tr pn xe) ob W body b)
    (hsu : ∀ (a : Addr) (oe : Obj) (pn : List (Addr × Obj)), PSS (X.suite a ((a, oe) :: pn)) ob (fun _ _ _ _ => False) (b₀ :: suite) s) :
    PS1 X ob Wx (.Try body [.ExceptHandler (some (.Name x np)) none (b₀ :: suite) pos'] [] [] pos) (fTry tab b s) := by
  refine ⟨_, L2N.ps_try_many hs hf tk (tb := fun W => canon X.K ob W b) (l := [(cv, fun _ _ _ => canon X.K ob (fun _ _ _ _ => False) s)]) (fun W pn xe tkW po => pss_canon (hb W pn xe tkW po)) (.cons hc (fun a oe cls d pn _ _ => pss_canon (hsu a oe pn)) .nil), fun E σ W ρ μ F S o ho h => ?_⟩
  obtain ⟨o1, e1, ho⟩ := bind_some ho
  refine ⟨W, ρ, μ, F, o1, rfl, S, e1, ?_⟩
  cases o1 with
  | ex c fs ρ1 μ1 =>
    obtain ⟨z, ez, ho⟩ := bind_some ho
    intro dx σ' W' F' hx S' mv kp
    refine ⟨z, ht c z ez, fun hz a na => ?_, fun hz => ?_⟩
    · rw [if_pos hz] at ho
      obtain ⟨o2, e2, ho⟩ := bind_some ho
      by_cases hn : notEx o2 = true
      · rw [if_pos hn] at ho
        cases ho
        exact ⟨W', ρ1, μ1, F', _, rfl, S', e2, goes_notEx (h.after mv kp) hn⟩
      · rw [if_neg hn] at ho
        cases ho
    · rw [if_neg (by rw [hz]; decide)] at ho
      cases ho
      exact h dx σ' W' F' hx S' mv kp
  | nx ρ1 μ1 => cases ho; exact h
  | rt d ρ1 μ1 => cases ho; exact h
  | bk ρ1 μ1 => cases ho; exact h
  | ct ρ1 μ1 => cases ho; exact h
end
def tryK (tab : Str → Option Bool) (s : FS) : SO → Option SO
  | .ex c fs ρ1 μ1 => (tab c).bind fun z => if z = true then (s ρ1 μ1).bind fun o2 => if notEx o2 = true then some o2 else none else some (.ex c fs ρ1 μ1)
  | o => some o
section
variable {tab : Str → Option Bool} {b s : FS} {x0 d : D} {ρ μ : List D} {c : Str} {fs : List (Str × D)}
theorem fTry_k : fTry tab b s (x0 :: ρ) μ = (b (x0 :: ρ) μ).bind (tryK tab s) := rfl
theorem tryK_nx : tryK tab s (.nx ρ μ) = some (.nx ρ μ) := rfl
theorem tryK_rt : tryK tab s (.rt d ρ μ) = some (.rt d ρ μ) := rfl
theorem tryK_ex : tryK tab s (.ex c fs ρ μ) = (tab c).bind fun z => if z = true then (s ρ μ).bind fun o2 => if notEx o2 = true then some o2 else none else some (.ex c fs ρ μ) := rfl
theorem notEx_nx : notEx (.nx ρ μ) = true := rfl
theorem notEx_rt : notEx (.rt d ρ μ) = true := rfl
def kset16 := And.intro @fTry_k <| And.intro @tryK_nx <| And.intro @tryK_rt <| And.intro @tryK_ex <| And.intro @notEx_nx @notEx_rt
end
end Fw
/-! # try .. except C as e: -/
namespace Fw
open PySem PySem.Spec PyProof.Rows L2
/-- a suite that may look at the exception in slot i: its class and its field are what the mirror is told -/
def PSU (X : Cx) (ob : List Nat) (i : Nat) (suite : List Stmt) (s : Str → List (Str × D) → FS) : Prop :=
  ∃ ts : Addr → Value → Option Addr → TS, (∀ (a : Addr) (oe : Obj) (cls : Value) (d : Option Addr) (pn : List (Addr × Obj)), L2N.Zn cls d oe → (∃ vs, oe.data = .fields vs) → PSs (X.suite a ((a, oe) :: pn)) suite (ts a cls d)) ∧
    ∀ (a : Addr) (d : Option Addr) (c : Str) (fs : List (Str × D)) (E : Ends) (σ : L2.St) (W : Wd) (ρ μ : List D) (F : List Addr), ExAt X.K W fs d → σ[i]? = some (some (.ref a)) → Sta X.K W σ ρ μ F → ∀ o, s c fs ρ μ = some o → notEx o = true → Goes X.K ob (fun _ _ _ _ => False) E σ W F o → ts a (.ref (He.ga X.K c)) d E σ W.H
def unAt (i : Nat) : SO → Option SO
  | .nx ρ μ => some (.nx (ρ.set i .un) μ)
  | .bk ρ μ => some (.bk (ρ.set i .un) μ)
  | .ct ρ μ => some (.ct (ρ.set i .un) μ)
  | .rt d ρ μ => some (.rt d ρ μ)
  | .ex .. => none
def fTryAs (tab : Str → Option Bool) (i : Nat) (b : FS) (s : Str → List (Str × D) → FS) : FS := fun ρ μ => (b ρ μ).bind fun o => match o with
  | .ex c fs ρ1 μ1 => (tab c).bind fun z => if z = true then (if i < ρ1.length then (s c fs (ρ1.set i .un) μ1).bind (unAt i) else none) else some (.ex c fs ρ1 μ1)
  | o => some o
section
variable {X : Cx} {ob : List Nat} {Wx : WX} {x n : Str} {i : Nat} {cv : Value} {body suite : List Stmt} {b₀ : Stmt} {np pos pos' : Pos} {b : FS} {s : Str → List (Str × D) → FS} {tab : Str → Option Bool}
theorem ps1_tryAs (hs : X.stack = X.env :: X.outer) (hf : X.env.frame = some X.env.locals) (hN : X.N.Nodup) (hi : X.N[i]? = some n) (hln : X.env.kindOf n = some .local) (hc : Names X x cv) (tk : L2N.Takes X Wx) (hob : i ∉ ob)
    (ht : ∀ c z, tab c = some z → PySem.W.exmOne X.K (.ref (He.ga X.K c)) cv = some z)
    (hb : ∀ (W : WX) (pn : List (Addr × Obj)) (xe : Value → Shared → Prop), L2N.Takes (X.tr pn xe) W → PassesOwn (model X.prog X.w) X.A X.env xe → PSS (X.tr pn xe) ob W body b)
    (hsu : PSU X ob i (b₀ :: suite) s) :
    PS1 X ob Wx (.Try body [.ExceptHandler (some (.Name x np)) (some n) (b₀ :: suite) pos'] [] [] pos) (fTryAs tab i b s) := by
  obtain ⟨ts, p, k⟩ := hsu
  refine ⟨_, L2N.ps_try_as hs hf hN hi hln hc tk (tb := fun W => canon X.K ob W b) (ts := ts) (fun W pn xe tkW po => pss_canon (hb W pn xe tkW po)) p, fun E σ W ρ μ F S o ho h => ?_⟩
  obtain ⟨o1, e1, ho⟩ := bind_some ho
  refine ⟨W, ρ, μ, F, o1, rfl, S, e1, ?_⟩
  cases o1 with
  | ex c fs ρ1 μ1 =>
    obtain ⟨z, ez, ho⟩ := bind_some ho
    intro dx σ' W' F' hx S' mv kp
    refine ⟨z, ht c z ez, fun hz a na => ?_, fun hz => ?_⟩
    · rw [if_pos hz] at ho
      by_cases hl : i < ρ1.length
      · rw [if_pos hl] at ho
        obtain ⟨o2, e2, ho⟩ := bind_some ho
        obtain ⟨F2, S2, sub2⟩ := S'.set (i := i) (d := .un) (o := some (.ref a)) rfl
        have hg : (σ'.set i (some (V.ref a)))[i]? = some (some (.ref a)) := List.getElem?_set_self (by rw [S'.len]; exact hl)
        have mv2 : Mv W W' F F2 := mv.sub (fun _ q => q) sub2
        have kp2 : Kept ob σ (σ'.set i (some (V.ref a))) := kp.trans (Kept.set hob)
        refine k a dx c fs _ _ W' _ μ1 F2 hx hg S2 o2 e2 ?_ ?_
        · cases o2 with
          | ex => cases ho
          | _ => rfl
        · cases o2 with
          | ex => cases ho
          | nx ρ2 μ2 =>
            cases ho
            intro σ3 W3 F3 S3 mv3 kp3
            obtain ⟨F4, S4, sub4⟩ := S3.set (i := i) (d := .un) (o := none) rfl
            exact h (σ3.set i none) W3 F4 S4 (mv2.trans (mv3.sub (fun _ q => q) sub4)) (kp2.trans (kp3.trans (Kept.set hob)))
          | bk ρ2 μ2 =>
            cases ho
            intro σ3 W3 F3 S3 mv3 kp3
            obtain ⟨F4, S4, sub4⟩ := S3.set (i := i) (d := .un) (o := none) rfl
            exact h (σ3.set i none) W3 F4 S4 (mv2.trans (mv3.sub (fun _ q => q) sub4)) (kp2.trans (kp3.trans (Kept.set hob)))
          | ct ρ2 μ2 =>
            cases ho
            intro σ3 W3 F3 S3 mv3 kp3
            obtain ⟨F4, S4, sub4⟩ := S3.set (i := i) (d := .un) (o := none) rfl
            exact h (σ3.set i none) W3 F4 S4 (mv2.trans (mv3.sub (fun _ q => q) sub4)) (kp2.trans (kp3.trans (Kept.set hob)))
          | rt d ρ2 μ2 =>
            cases ho
            intro v σ3 W3 G F3 r S3 nd own mv3 kp3
            exact h v σ3 W3 G F3 r S3 nd own (mv2.trans mv3) (kp2.trans kp3)
      · rw [if_neg hl] at ho
        cases ho
    · rw [if_neg (by rw [hz]; decide)] at ho
      cases ho
      exact h dx σ' W' F' hx S' mv kp
  | nx ρ1 μ1 => cases ho; exact h
  | rt d ρ1 μ1 => cases ho; exact h
  | bk ρ1 μ1 => cases ho; exact h
  | ct ρ1 μ1 => cases ho; exact h
end
end Fw
/-! # what a suite says of the exception it holds -/
namespace Fw
open PySem PySem.Spec PyProof.Rows L2
abbrev FJ := Str → List (Str × D) → FQ
/-- an expression in a suite, slot i the exception: its mirror is told the class and the field -/
def PJ (X : Cx) (i : Nat) (e : Expr) (q : FJ) : Prop :=
  ∃ te : Addr → Value → Option Addr → TE, (∀ (a : Addr) (oe : Obj) (cls : Value) (d : Option Addr) (pn : List (Addr × Obj)), L2N.Zn cls d oe → (∃ vs, oe.data = .fields vs) → PE (X.suite a ((a, oe) :: pn)) e (te a cls d)) ∧
    ∀ (a : Addr) (d : Option Addr) (c : Str) (fs : List (Str × D)) (σ : L2.St) (W : Wd) (ρ μ : List D) (F : List Addr), ExAt X.K W fs d → σ[i]? = some (some (.ref a)) → Sta X.K W σ ρ μ F → ∀ r, q c fs ρ μ = some r → ∀ Q : VK, (∀ v W' G, Ext W W' → R X.K W' r v G → Q v W'.H) → te a (.ref (He.ga X.K c)) d σ W.H Q
def canonE (K : PySem.W.Frag) (f : FQ) : TE := fun σ H Q => ∃ (W : Wd) (ρ μ : List D) (F : List Addr) (d : D), W.H = H ∧ Sta K W σ ρ μ F ∧ f ρ μ = some d ∧ ∀ v W' G, Ext W W' → R K W' d v G → Q v W'.H
section
variable {X : Cx} {ob : List Nat} {i j : Nat} {e : Expr} {f : FQ} {q : FJ} {n x fld : Str} {pos pos' : Pos}
theorem pq_canon (h : PQ X e f) : PE X e (canonE X.K f) := by
  obtain ⟨te, p, k⟩ := h
  refine ⟨fun pins s σ H Q I hh => ?_⟩
  obtain ⟨W, ρ, μ, F, d, rfl, S, e1, g⟩ := hh
  exact p.run pins s σ W.H Q I (k σ W ρ μ F S d e1 Q g)
theorem pj_q (h : ∀ (a : Addr) (oe : Obj) (pn : List (Addr × Obj)), PQ (X.suite a ((a, oe) :: pn)) e f) : PJ X i e (fun _ _ => f) :=
  ⟨fun _ _ _ => canonE X.K f, fun a oe _ _ pn _ _ => pq_canon (h a oe pn), fun a d c fs σ W ρ μ F _ _ S r hr Q k => ⟨W, ρ, μ, F, r, rfl, S, hr, k⟩⟩
/-- e.f -/
def jAt (ok : Str → Bool) (fld : Str) : FJ := fun c fs _ _ => if ok c = true then (match fs with
  | [(g, d)] => if g = fld then some d else none
  | _ => none) else none
theorem pj_at {ok : Str → Bool} (hn : ∀ (a : Addr) (oe : Obj) (pn : List (Addr × Obj)), PE (X.suite a ((a, oe) :: pn)) (.Name n pos') (tVar i))
    (hc : ∀ c, ok c = true → XfC X.K (He.ga X.K c) ∧ PySem.W.findIn X.K (.ref (He.ga X.K c)) fld = some none) (hb : attributeBase (.Name n pos') fld X.env (eval (.Name n pos') X.env) = eval (.Name n pos') X.env := by rfl) :
    PJ X i (.Attribute (.Name n pos') fld pos) (jAt ok fld) := by
  refine ⟨fun a cls d => fun σ H Q => ∃ C, XfC X.K C ∧ PySem.W.findIn X.K (.ref C) fld = some none ∧ tXf a cls d C fld (tVar i) σ H Q, fun a oe cls d pn hz hf => ⟨fun pins s σ H Q I h => ?_⟩, fun a d c fs σ W ρ μ F hx hg S r hr Q k => ?_⟩
  · obtain ⟨C, T, hno, h⟩ := h
    exact (pe_xf T hno hz.zc hf (hn a oe pn) hb).run pins s σ H Q I h
  · unfold jAt at hr
    by_cases ho : ok c = true
    case neg => rw [if_neg ho] at hr; cases hr
    rw [if_pos ho] at hr
    obtain ⟨T, hno⟩ := hc c ho
    rcases hx with ⟨rfl, _⟩ | ⟨x, dd, a', v, rfl, rfl, h1, h2⟩
    · cases hr
    · simp only at hr
      by_cases hg2 : x = fld
      case neg => rw [if_neg hg2] at hr; cases hr
      rw [if_pos hg2] at hr
      cases hr
      subst hg2
      exact ⟨_, T, hno, _, hg, rfl, rfl, a', [(x, v)], v, rfl, h1, by simp [List.lookup], k v W [] (Ext.refl S.ok) h2⟩
/-- x = .. in a suite, alone -/
theorem psu_set (hN : X.N.Nodup) (hi : X.N[j]? = some x) (hx : Loc X.env.scope x) (he : PJ X i e q) (hs : swapsWith e (some (.Name x pos')) pos.line X.env = pure false := by rfl) (hf : X.fn x = true ∨ X.env.scope.names.lookup x = some .local := by first | exact .inl rfl | exact .inr rfl) (ho : j ∉ ob := by decide) :
    PSU X ob i [.Assign [.Name x pos'] e pos] (fun c fs => fSet j (q c fs)) := by
  obtain ⟨te, p, k⟩ := he
  refine ⟨fun a cls d => tAsg (te a cls d) (gName j), fun a oe cls d pn hz hfl => pss_one (ps_set (X := X.suite a ((a, oe) :: pn)) hN hi hx (p a oe cls d pn hz hfl) hs hf), fun a d c fs E σ W ρ μ F hxx hg S o hh hn h => ?_⟩
  obtain ⟨r, e1, hh⟩ := bind_some hh
  by_cases hd : data r = true
  case neg => rw [if_neg hd] at hh; cases hh
  rw [if_pos hd] at hh
  cases hh
  refine k a d c fs σ W ρ μ F hxx hg S r e1 _ fun v W1 G x1 r1 => ?_
  have z := R_data r hd r1
  subst z
  obtain ⟨F', S', sub⟩ := (S.ext x1).set (i := j) (R1_of r1)
  exact h _ W1 F' S' (x1.mv sub) (Kept.set ho)
end
end Fw
/-! # in, remove by equality of plain trees -/
namespace Fw
open PySem PySem.Spec PyProof.Rows L2
section
variable {X : Cx}
def anyP (p : PyData) : PyData → Option Bool
  | .list ps => if SeqAt.shaped p = true ∧ SeqAt.shaped (.list ps) = true then some (ps.any fun z => PyData.eqv z p) else none
  | _ => none
def inP (x y : D) : Option Bool := (toP x).bind fun p => (toP y).bind fun q => anyP p q
def dInP (x y : D) : Option D := (inP x y).map D.bl
def dNotInP (x y : D) : Option D := (inP x y).map fun b => D.bl (!b)
theorem inP_ok {x y : D} {b : Bool} (h : inP x y = some b) : ∃ p ps, toP x = some p ∧ toP y = some (.list ps) ∧ SeqAt.shaped p = true ∧ SeqAt.shaped (.list ps) = true ∧ b = ps.any fun z => PyData.eqv z p := by
  obtain ⟨p, e1, h⟩ := bind_some h
  obtain ⟨q, e2, h⟩ := bind_some h
  unfold anyP at h
  split at h
  case h_2 => cases h
  rename_i ps
  split at h
  case isFalse => cases h
  rename_i hs
  cases h
  exact ⟨p, ps, e1, e2, hs.1, hs.2, rfl⟩
theorem units65 {k : Nat} {A : Around} (r : Room k A) : A.units + 65 < cLine := by have := r.un; omega
theorem opd_inP {k : Nat} (hr : Room k X.A) : OpD X (compareOp .In) dInP := by
  refine ⟨_, op_inD (units65 hr), fun W x y u v G1 G2 ok r1 r2 d hd Q q => ?_⟩
  obtain ⟨b, hb, z⟩ := map_some hd
  subst z
  obtain ⟨p, ps, e1, e2, s1, s2, rfl⟩ := inP_ok hb
  exact ⟨p, ps, R_dp x e1 r1, R_dp y e2 r2, s1, s2, q _ W [] (Ext.refl ok) ⟨rfl, rfl⟩⟩
theorem opd_notinP {k : Nat} (hr : Room k X.A) : OpD X (compareOp .NotIn) dNotInP := by
  refine ⟨_, op_notInD (units65 hr), fun W x y u v G1 G2 ok r1 r2 d hd Q q => ?_⟩
  obtain ⟨b, hb, z⟩ := map_some hd
  subst z
  obtain ⟨p, ps, e1, e2, s1, s2, rfl⟩ := inP_ok hb
  exact ⟨p, ps, R_dp x e1 r1, R_dp y e2 r2, s1, s2, q _ W [] (Ext.refl ok) ⟨rfl, rfl⟩⟩
/-- xs.remove(y), y in it -/
def rRemD (K : PySem.W.Frag) : V → List V → Hp → VK → Prop := fun x xs H Q => ∃ (a : Addr) (vs : List V) (y : V) (d : PyData) (ds : List PyData) (j : Nat) (z : PyData), x = V.ref a ∧ xs = [y] ∧ H a = some (.lst vs) ∧ DpAll K H vs ds ∧ Dp K H y d ∧
  SeqAt.shaped (.list ds) = true ∧ SeqAt.shaped d = true ∧ ds[j]? = some z ∧ PyData.eqv z d = true ∧ (∀ (m : Nat) (z' : PyData), m < j → ds[m]? = some z' → PyData.eqv z' d = false) ∧ Q .non (upd H a (.lst (vs.eraseIdx j)))
theorem mt_removeD (hu : X.A.units + 65 < cLine) : MtR X "list.remove" (rRemD X.K) := by
  intro pins s σ H x xs v us Q I rx rxs h
  obtain ⟨a, vs, y, d, ds, j, z, rfl, rfl, hH, hl, hy, sl, sd, hz, hzj, hno, q⟩ := h
  cases rx
  obtain ⟨uy, rfl, ry⟩ := rxs.one
  obtain ⟨bs, r1⟩ := Dp.reads I d y uy hy ry
  have hxs : PyData.canLayAll0 ds = true := SeqAt.canLay_of_shaped sl
  have hroom : X.A.units + 1 + min (PyData.depthAll ds) d.depth < cLine := room_in_shaped sd hu
  obtain ⟨hlen, its, n, rv, hl2, ho⟩ := I.lstM hH
  obtain ⟨as, h4⟩ := Dp.readsAll I ds _ its hl rv
  have hn : its.length = ds.length := SeqAt.ReadsAll.length ds its as h4
  have hmap : its.map (SeqAt.readOf s.heap) = ds := SeqAt.readsAll_map ds its as hxs h4
  have hsl := sizeLine_eq
  obtain ⟨hjd, _⟩ := List.getElem?_eq_some_iff.mp hz
  have hjl : j < its.length := by omega
  have hj : j < its.toArray.size := by simpa using hjl
  have at_ : ∀ (m : Nat) (hm : m < its.toArray.size) (z' : PyData), ds[m]? = some z' → SeqAt.readOf s.heap its.toArray[m] = z' := by
    intro m hm z' hz'
    have hml : m < its.length := by simpa using hm
    rw [← hmap, List.getElem?_map, List.getElem?_eq_getElem hml] at hz'
    have e1 : SeqAt.readOf s.heap its[m] = z' := Option.some.inj (show some (SeqAt.readOf s.heap its[m]) = some z' from hz')
    simpa using e1
  refine call_meets PySem.F.slot_list_remove ⟨_, ho, rfl⟩ PySem.F.entry_list_remove (PySem.F.args_list_remove_2 _ _)
    (SeqAt.list_removeAt a its.toArray n none #[] uy (fun u => PyData.eqv (SeqAt.readOf s.heap u) d) j hj ?_ ?_ (by rw [List.size_toArray]; omega)) ⟨ho, SeqAt.items_eqAt (vs := its.toArray) (show ReadsAll s.heap its.toArray.toList ds as from h4) r1 hxs (SeqAt.canLay_of_shaped sd) hroom, ?_⟩
  · show PyData.eqv (SeqAt.readOf s.heap its.toArray[j]) d = true
    rw [at_ j hj z hz]
    exact hzj
  · intro m hm hmj
    have hmd : m < ds.length := by
      have := hm
      simp at this
      omega
    have hz' : ds[m]? = some ds[m] := List.getElem?_eq_getElem hmd
    show PyData.eqv (SeqAt.readOf s.heap its.toArray[m]) d = false
    rw [at_ m hm _ hz']
    exact hno m _ hmj hz'
  · have rr := rv.eraseIdx j
    refine ⟨.non, _, I.lset (its' := its.eraseIdx j) (t' := s.toks) hH ho ?_ rr ?_, rfl, q⟩
    · show its.toArray.eraseIdxIfInBounds j = (its.eraseIdx j).toArray
      rw [List.eraseIdxIfInBounds_toArray]
    · have := List.length_eraseIdx_le vs j
      omega
def remP (p : PyData) (ps : List PyData) (ds : List D) : Option (List D) := if SeqAt.shaped p = true ∧ SeqAt.shaped (.list ps) = true then (ps.findIdx? fun z => PyData.eqv z p).map fun j => ds.eraseIdx j else none
def opRem (ds as : List D) : Option (List D) := match as with
  | [d] => (toP d).bind fun p => (toPL ds).bind fun ps => remP p ps ds
  | _ => none
theorem RL_erase {K : PySem.W.Frag} {W : Wd} : ∀ {ds : List D} {vs : List V} (j : Nat), RL K W ds vs [] → RL K W (ds.eraseIdx j) (vs.eraseIdx j) []
  | [], vs, j, h => by
    obtain ⟨rfl, _⟩ := h
    exact ⟨rfl, rfl⟩
  | d :: ds, vs, j, h => by
    obtain ⟨v, vs', F1, F2, rfl, h1, h2, h3⟩ := h
    have w := List.append_eq_nil_iff.mp h3.symm
    rw [w.1] at h1
    rw [w.2] at h2
    cases j with
    | zero => exact h2
    | succ j => exact ⟨v, vs'.eraseIdx j, [], [], rfl, h1, RL_erase j h2, rfl⟩
theorem opRem_ok {K : PySem.W.Frag} (W : Wd) (a : Addr) (ds as ds' : List D) (vs us : List V) (h : opRem ds as = some ds') (hH : W.H a = some (.lst vs)) (r : RL K W ds vs []) (ra : RL K W as us []) :
    ∃ vs', (∀ W' : Wd, Lt W W' → RL K W' ds' vs' []) ∧ ∀ Q : VK, Q .non (upd W.H a (.lst vs')) → rRemD K (.ref a) us W.H Q := by
  unfold opRem at h
  split at h
  case h_2 => cases h
  rename_i d
  obtain ⟨p, e1, h⟩ := bind_some h
  obtain ⟨ps, e2, h⟩ := bind_some h
  unfold remP at h
  split at h
  case isFalse => cases h
  rename_i hs
  obtain ⟨j, e3, rfl⟩ := map_some h
  obtain ⟨y, us', F1, F2, rfl, r1, ⟨rfl, _⟩, w⟩ := ra
  obtain ⟨hj, q1, q2⟩ := List.findIdx?_eq_some_iff_getElem.mp e3
  refine ⟨vs.eraseIdx j, fun W' lt => RL_erase j (RL_lt lt _ r), fun Q hq => ⟨a, vs, y, p, ps, j, ps[j], rfl, rfl, hH, RL_dp ds e2 r, R_dp d e1 r1, hs.2, hs.1, List.getElem?_eq_getElem hj, q1, fun m z' hm hz => ?_, hq⟩⟩
  obtain ⟨hm', q3⟩ := List.getElem?_eq_some_iff.mp hz
  rw [← q3]
  exact Bool.eq_false_iff.mpr (q2 m hm)
variable {ob : List Nat} {Wx : WX} {a : Expr} {pos : Pos} {k : FA}
theorem ps1_rem {i : Nat} {x : Str} {px apos cpos : Pos} (hp : PE X (.Name x px) (tVar i)) (ha : PAQ X [a] k)
    (hcall : ∀ ta : TA, PA X [a] ta → PE X (.Call (.Attribute (.Name x px) "remove" apos) [a] [] cpos) (tBM X.K "list" (rRemD X.K) (tVar i) ta))
    (hsw : swapsWith (.Call (.Attribute (.Name x px) "remove" apos) [a] [] cpos) none pos.line X.env = pure false := by rfl) : PS1 X ob Wx (.Expr (.Call (.Attribute (.Name x px) "remove" apos) [a] [] cpos) pos) (fLm i opRem k) :=
  ps1_lm hcall ha opRem_ok hsw
end
/-! ### plain -/
theorem shaped_pl {h : Nat} {d : D} (hd : pl h d = true) (hh : h ≤ 60) : ∃ p, toP d = some p ∧ SeqAt.shaped p = true := by
  obtain ⟨p, e, c, l⟩ := pl_toP h d hd
  refine ⟨p, e, ?_⟩
  show (p.canLay0 && decide (p.depth ≤ 64)) = true
  rw [c, Bool.true_and]
  exact decide_eq_true (by omega)
theorem shapedL_pl {h : Nat} {ds : List D} (hd : plL h ds = true) (hh : h ≤ 60) : ∃ ps, toPL ds = some ps ∧ SeqAt.shaped (.list ps) = true := by
  obtain ⟨ps, e, c, l⟩ := plL_toP h ds hd
  refine ⟨ps, e, ?_⟩
  show ((PyData.list ps).canLay0 && decide ((PyData.list ps).depth ≤ 64)) = true
  have e1 : (PyData.list ps).canLay0 = true := by simp only [PyData.canLay0]; exact c
  have e2 : (PyData.list ps).depth ≤ 64 := by simp only [PyData.depth]; omega
  rw [e1, Bool.true_and]
  exact decide_eq_true e2
theorem any_pl {x : D} {h h' : Nat} {p : PyData} (hx : pl h x = true) (ep : toP x = some p) : ∀ (ds : List D) (ps : List PyData), plL h' ds = true → toPL ds = some ps → ((ps.any fun z => PyData.eqv z p) = true ↔ x ∈ ds)
  | [], ps, _, e => by
    cases e
    simp
  | d :: ds, ps, hd, e => by
    obtain ⟨q, e1, e⟩ := bind_some e
    obtain ⟨qs, e2, rfl⟩ := map_some e
    have hd2 := Bool.and_eq_true_iff.mp (show (pl h' d && plL h' ds) = true from hd)
    have ih := any_pl hx ep ds qs hd2.2 e2
    have k := eqv_pl d x h' h q p hd2.1 hx e1 ep
    rw [List.any_cons, Bool.or_eq_true, ih, k, List.mem_cons]
    exact ⟨fun z => z.elim (fun w => .inl w.symm) .inr, fun z => z.elim (fun w => .inl w.symm) .inr⟩
theorem inP_pl {x : D} {ds : List D} {h h' : Nat} (hx : pl h x = true) (hd : plL h' ds = true) (hh : h ≤ 60) (hh' : h' ≤ 60) : ∃ b, inP x (.lst ds) = some b ∧ inP x (.ml ds) = some b ∧ (b = true ↔ x ∈ ds) := by
  obtain ⟨p, e1, s1⟩ := shaped_pl hx hh
  obtain ⟨ps, e2, s2⟩ := shapedL_pl hd hh'
  have z : anyP p (.list ps) = some (ps.any fun z => PyData.eqv z p) := by
    exact if_pos ⟨s1, s2⟩
  have el : toP (.lst ds) = some (.list ps) := by show (toPL ds).map _ = _; rw [e2]; rfl
  have em : toP (.ml ds) = some (.list ps) := by show (toPL ds).map _ = _; rw [e2]; rfl
  refine ⟨_, ?_, ?_, any_pl hx e1 ds ps hd e2⟩
  · unfold inP
    rw [e1, el]
    exact z
  · unfold inP
    rw [e1, em]
    exact z
theorem dInP_of {x : D} {ds : List D} {h h' : Nat} (hx : pl h x = true) (hd : plL h' ds = true) (hh : h ≤ 60) (hh' : h' ≤ 60) (m : x ∈ ds) : dInP x (.lst ds) = some (.bl true) ∧ dInP x (.ml ds) = some (.bl true) ∧ dNotInP x (.lst ds) = some (.bl false) ∧ dNotInP x (.ml ds) = some (.bl false) := by
  obtain ⟨b, e1, e2, e3⟩ := inP_pl hx hd hh hh'
  have := e3.mpr m
  subst this
  unfold dInP dNotInP
  rw [e1, e2]
  exact ⟨rfl, rfl, rfl, rfl⟩
theorem find_pl {x : D} {h h' : Nat} {p : PyData} (hx : pl h x = true) (ep : toP x = some p) : ∀ (ds : List D) (ps : List PyData), plL h' ds = true → toPL ds = some ps → x ∈ ds →
    ∃ j A B, (ps.findIdx? fun z => PyData.eqv z p) = some j ∧ ds = A ++ x :: B ∧ x ∉ A ∧ ds.eraseIdx j = A ++ B
  | [], _, _, _, m => nomatch m
  | d :: ds, ps, hd, e, m => by
    obtain ⟨q, e1, e⟩ := bind_some e
    obtain ⟨qs, e2, rfl⟩ := map_some e
    have hd2 := Bool.and_eq_true_iff.mp (show (pl h' d && plL h' ds) = true from hd)
    have k := eqv_pl d x h' h q p hd2.1 hx e1 ep
    rw [List.findIdx?_cons]
    by_cases hq : PyData.eqv q p = true
    · rw [if_pos hq]
      have e3 := k.mp hq
      subst e3
      exact ⟨0, [], ds, rfl, rfl, (fun z => nomatch z), rfl⟩
    · rw [if_neg hq]
      have hne : d ≠ x := fun z => hq (k.mpr z)
      have m2 : x ∈ ds := by
        rcases List.mem_cons.mp m with w | w
        · exact absurd w.symm hne
        · exact w
      obtain ⟨j, A, B, h1, h2, h3, h4⟩ := find_pl hx ep ds qs hd2.2 e2 m2
      refine ⟨j + 1, d :: A, B, by rw [h1]; rfl, by rw [h2]; rfl, fun z => ?_, by rw [List.eraseIdx_cons_succ, h4]; rfl⟩
      rcases List.mem_cons.mp z with w | w
      · exact hne w.symm
      · exact h3 w
/-- remove of a plain tree that is there -/
theorem opRem_pl {x : D} {ds : List D} {h h' : Nat} (hx : pl h x = true) (hd : plL h' ds = true) (hh : h ≤ 60) (hh' : h' ≤ 60) (m : x ∈ ds) : ∃ A B, ds = A ++ x :: B ∧ x ∉ A ∧ opRem ds [x] = some (A ++ B) := by
  obtain ⟨p, e1, s1⟩ := shaped_pl hx hh
  obtain ⟨ps, e2, s2⟩ := shapedL_pl hd hh'
  obtain ⟨j, A, B, h1, h2, h3, h4⟩ := find_pl hx e1 ds ps hd e2 m
  refine ⟨A, B, h2, h3, ?_⟩
  show ((toP x).bind fun p => (toPL ds).bind fun ps => remP p ps ds) = _
  rw [e1, Option.bind_some, e2, Option.bind_some]
  unfold remP
  rw [if_pos ⟨s1, s2⟩, h1, Option.map_some, h4]
end Fw
/-! # lists of instances: written, walked -/
namespace Fw
open PySem PySem.Spec PyProof.Rows L2
inductive LO where
  | ok (ds ρ μ : List D) | ex (c : Str) (fs : List (Str × D)) (ρ μ : List D)
abbrev FXL := List D → List D → Option LO
def GoesL (K : PySem.W.Frag) (Wx : WX) (Q : List V → Hp → Prop) (σ : L2.St) (W : Wd) (F : List Addr) : LO → Prop
  | .ok ds ρ' μ' => ∀ vs W' G F', RL K W' ds vs G → Sta K W' σ ρ' μ' F' → (G ++ F').Nodup → (∀ a ∈ G, Own W' a) → Mv W W' F (G ++ F') → Q vs W'.H
  | .ex c fs ρ' μ' => ∀ dx W' F', ExAt K W' fs dx → Sta K W' σ ρ' μ' F' → Mv W W' F F' → Wx (.ref (He.ga K c)) dx σ W'.H
def PLr (X : Cx) (Wx : WX) (ta : TA) (g : FXL) : Prop := ∀ (σ : L2.St) (W : Wd) (ρ μ : List D) (F : List Addr), Sta X.K W σ ρ μ F → ∀ o, g ρ μ = some o → ∀ Q : List V → Hp → Prop, GoesL X.K Wx Q σ W F o → ta σ W.H Q
def PL (X : Cx) (Wx : WX) (es : List Expr) (g : FXL) : Prop := ∃ ta : TA, PA X es ta ∧ PLr X Wx ta g
theorem Ext.mvN {W W' : Wd} (e : Ext W W') {F G : List Addr} (h : ∀ a ∈ G, a ∈ F ∨ W.H a = none) : Mv W W' F G :=
  ⟨fun a o q _ => e.ex a o q, e.fr, fun a q => (e.nf a q).elim .inl fun z => .inr (.inl z), h, ⟨[], by rw [e.m, List.append_nil]⟩⟩
/-- further things stand by, untouched -/
theorem Mv.by {W W' : Wd} {F F' : List Addr} (m : Mv W W' F F') (G : List Addr) : Mv W W' (G ++ F) (G ++ F') :=
  ⟨fun a o h n => m.keep a o h fun z => n (List.mem_append_right _ z), m.fr, fun a h => (m.nf a h).elim .inl fun z => z.elim (fun w => .inr (.inl w)) fun w => .inr (.inr (List.mem_append_right _ w)),
    fun a ha => (List.mem_append.mp ha).elim (fun z => .inl (List.mem_append_left _ z)) fun z => (m.own a z).elim (fun w => .inl (List.mem_append_right _ w)) .inr, m.m⟩
theorem own_some {W : Wd} {a : Addr} (h : Own W a) : W.H a ≠ none := fun z => by
  obtain ⟨_, ⟨xs, w⟩ | ⟨C, dx, fs, w⟩⟩ := h <;> rw [z] at w <;> cases w
/-- what stands by keeps its place, its owner and its own footprint -/
theorem by_off {W W' : Wd} {F F' G : List Addr} (m : Mv W W' F F') (nd : (G ++ F).Nodup) (own : ∀ a ∈ G, Own W a) : ∀ b ∈ G, W'.H b = W.H b := fun b hb => by
  have nb : b ∉ F := fun z => (List.nodup_append.mp nd).2.2 b hb b z rfl
  cases q : W.H b with
  | none => exact absurd q (own_some (own b hb))
  | some o => exact m.keep b o q nb
theorem by_own {W W' : Wd} {F F' G : List Addr} (m : Mv W W' F F') (nd : (G ++ F).Nodup) (own : ∀ a ∈ G, Own W a) : ∀ b ∈ G, Own W' b := fun b hb => by
  have nb : b ∉ F := fun z => (List.nodup_append.mp nd).2.2 b hb b z rfl
  have e := by_off m nd own b hb
  obtain ⟨w1, w2⟩ := own b hb
  refine ⟨fun z => ?_, by rw [e]; exact w2⟩
  rcases m.nf b z with q | q | q
  · exact w1 q
  · exact own_some (own b hb) q
  · exact nb q
theorem by_nodup {W W' : Wd} {F F' G : List Addr} (m : Mv W W' F F') (nd : (G ++ F).Nodup) (own : ∀ a ∈ G, Own W a) (nd' : F'.Nodup) : (G ++ F').Nodup := by
  have q := List.nodup_append.mp nd
  refine List.nodup_append.mpr ⟨q.1, nd', fun a ha b hb e => ?_⟩
  subst e
  rcases m.own a hb with z | z
  · exact q.2.2 a ha a z rfl
  · exact own_some (own a ha) z
section
variable {X : Cx} {Wx : WX} {ob : List Nat} {e : Expr} {es : List Expr} {body : List Stmt} {f g : FX} {k : FXL} {b : FS} {pos : Pos}
def xlNil : FXL := fun ρ μ => some (.ok [] ρ μ)
theorem pl_nil : PL X Wx [] xlNil := ⟨_, pa_nil, fun σ W ρ μ F S o ho Q hQ => by
  cases ho
  exact hQ [] W [] F ⟨rfl, rfl⟩ S S.nd (fun _ h => nomatch h) (Ext.refl S.ok).mvr⟩
def loCons (d : D) : LO → LO
  | .ok ds ρ μ => .ok (d :: ds) ρ μ
  | .ex c fs ρ μ => .ex c fs ρ μ
def xlCons (f : FX) (k : FXL) : FXL := fun ρ μ => (f ρ μ).bind fun o => match o with
  | .ok d ρ1 μ1 => (k ρ1 μ1).map (loCons d)
  | .ex c fs ρ1 μ1 => some (.ex c fs ρ1 μ1)
theorem pl_cons (ha : PX X Wx e f) (hr : PL X Wx es k) (hs : starEach (e :: es) X.env = (false, eval e X.env) :: starEach es X.env := by rfl) : PL X Wx (e :: es) (xlCons f k) := by
  obtain ⟨te, p1, k1⟩ := ha
  obtain ⟨ta, p2, k2⟩ := hr
  refine ⟨_, pa_cons p1 p2 hs, fun σ W ρ μ F S o ho Q hQ => ?_⟩
  obtain ⟨o1, e1, ho⟩ := bind_some ho
  refine k1 σ W ρ μ F S o1 e1 _ ?_
  cases o1 with
  | ok d ρ1 μ1 =>
    obtain ⟨o2, e2, z⟩ := map_some (show (k ρ1 μ1).map (loCons d) = some o from ho)
    subst z
    intro v W1 G1 F1 r1 S1 nd1 own1 mv1
    refine k2 σ W1 ρ1 μ1 F1 S1 o2 e2 _ ?_
    cases o2 with
    | ok ds ρ2 μ2 =>
      intro vs W2 G2 F2 r2 S2 nd2 own2 mv2
      have r1' := R_keep (mv2.lt S1.own) d (by_off mv2 nd1 own1) r1
      refine hQ (v :: vs) W2 (G1 ++ G2) F2 ⟨v, vs, G1, G2, rfl, r1', r2, rfl⟩ S2 ?_ (fun a ha => ?_) ?_
      · rw [List.append_assoc]
        exact by_nodup mv2 nd1 own1 nd2
      · rcases List.mem_append.mp ha with z | z
        · exact by_own mv2 nd1 own1 a z
        · exact own2 a z
      · rw [List.append_assoc]
        exact mv1.trans (mv2.by G1)
    | ex c fs ρ2 μ2 =>
      intro dx W2 F2 hx S2 mv2
      exact hQ dx W2 F2 hx S2 ((mv_drop mv1).trans mv2)
  | ex c fs ρ1 μ1 =>
    cases ho
    exact hQ
def xLst (k : FXL) : FX := fun ρ μ => (k ρ μ).bind fun o => match o with
  | .ok ds ρ1 μ1 => if ds.length ≤ 100 then some (.ok (.ml ds) ρ1 μ1) else none
  | .ex c fs ρ1 μ1 => some (.ex c fs ρ1 μ1)
theorem px_lst (h : PL X Wx es k) : PX X Wx (.List es pos) (xLst k) := by
  obtain ⟨ta, p, k1⟩ := h
  refine ⟨_, pe_lst p, fun σ W ρ μ F S o ho Q hQ => ?_⟩
  obtain ⟨o1, e1, ho⟩ := bind_some ho
  refine k1 σ W ρ μ F S o1 e1 _ ?_
  cases o1 with
  | ok ds ρ1 μ1 =>
    have ho2 : (if ds.length ≤ 100 then some (EO.ok (.ml ds) ρ1 μ1) else none) = some o := ho
    by_cases hl : ds.length ≤ 100
    case neg => rw [if_neg hl] at ho2; cases ho2
    rw [if_pos hl] at ho2
    cases ho2
    intro vs W1 G F1 r S1 nd own mv
    refine ⟨by rw [RL_len r]; exact lim_ok (Nat.le_trans hl (by decide)), fun p hp => ?_⟩
    have x := Ext.put (W := W1) (o := .lst vs) S1.ok hp
    have pn : ∀ a ∈ G ++ F1, a ≠ p := fun a ha z => by
      have oa : Own W1 a := (List.mem_append.mp ha).elim (own a) (S1.own a)
      exact own_some oa (by rw [z]; exact hp)
    refine hQ (.ref p) (W1.put p (.lst vs)) (p :: G) F1 ⟨p, vs, G, rfl, upd_same, RL_ext x ds r, rfl⟩ (S1.ext x) ?_ (fun a ha => ?_) (mv.trans (x.mvN fun a ha => ?_))
    · exact List.nodup_cons.mpr ⟨fun z => pn p z rfl, nd⟩
    · rcases List.mem_cons.mp ha with z | z
      · subst z
        exact ⟨fun q => S1.ok a q hp, .inl ⟨vs, upd_same⟩⟩
      · exact (own a z).ext x
    · rcases List.mem_cons.mp (show a ∈ p :: (G ++ F1) from ha) with z | z
      · subst z
        exact .inr hp
      · exact .inl z
  | ex c fs ρ1 μ1 =>
    cases ho
    exact hQ
/-! ### for x in a new list of instances -/
def forMv (i : Nat) (b : FS) : List D → List D → List D → Option SO
  | [], ρ, μ => some (.nx ρ μ)
  | d :: ds, ρ, μ => (b (ρ.set i d) μ).bind fun o => match o with
    | .nx ρ2 μ2 => forMv i b ds ρ2 μ2
    | .ct ρ2 μ2 => forMv i b ds ρ2 μ2
    | .bk ρ2 μ2 => some (.nx ρ2 μ2)
    | o => some o
def fForMv (i : Nat) (g : FX) (b : FS) : FS := fun ρ μ => (g ρ μ).bind fun o => match o with
  | .ok d ρ1 μ1 => (match d with
    | .ml ds => forMv i b ds ρ1 μ1
    | _ => none)
  | .ex c fs ρ1 μ1 => some (.ex c fs ρ1 μ1)
theorem ps1_forMv {tg : Expr} {i : Nat} (hp : PassesOwn (model X.prog X.w) X.A X.env X.xe) (hc : X.calm = true) (he : PX X Wx e g) (hg : PG X tg (gName i)) (hb : PSS X ob Wx body b)
    (hs : ∀ x, foldedSetIterable e X.env x = pure x := by intro _; rfl) (hi : i ∉ ob := by decide) : PS1 X ob Wx (.For tg e body [] pos) (fForMv i g b) := by
  obtain ⟨te, p0, k0⟩ := he
  obtain ⟨tb, p2, k2⟩ := hb
  refine ⟨_, ps_for hp hc (pi_list p0) hg p2 hs, fun E σ W ρ μ F S o ho h => ?_⟩
  obtain ⟨o1, e1, ho⟩ := bind_some ho
  refine k0 σ W ρ μ F S o1 e1 _ ?_
  cases o1 with
  | ex c fs ρ1 μ1 =>
    cases ho
    exact fun dx W' F' hx S' mv => h dx σ W' F' hx S' mv Kept.refl
  | ok d ρ1 μ1 =>
    cases d with
    | ml ds =>
      have ho1 : forMv i b ds ρ1 μ1 = some o := ho
      intro v W1 G F1 r S1 nd own mv
      obtain ⟨a, vs, F', rfl, hH, hR, rfl⟩ := r
      have hl := RL_len hR
      refine ⟨a, rfl, ⟨vs, Evl.sq_of hH⟩, ?_⟩
      refine ⟨fun j m σ2 H => m = ds.length - j ∧ j ≤ ds.length ∧ ∃ (W2 : Wd) (ρ2 μ2 : List D) (F2 G2 : List Addr), W2.H = H ∧ Sta X.K W2 σ2 ρ2 μ2 F2 ∧ RL X.K W2 (ds.drop j) (vs.drop j) G2 ∧ W2.H a = some (.lst vs) ∧ (a :: G2 ++ F2).Nodup ∧ (∀ b ∈ a :: G2, Own W2 b) ∧
        Mv W W2 F (a :: G2 ++ F2) ∧ Kept ob σ σ2 ∧ forMv i b (ds.drop j) ρ2 μ2 = some o,
        ⟨_, rfl, Nat.zero_le _, W1, ρ1, μ1, F1, F', rfl, S1, hR, hH, nd, own, mv, Kept.refl, ho1⟩, ?_⟩
      rintro j m σ2 H ⟨rfl, hil, W2, ρ2, μ2, F2, G2, rfl, S2, r2, hH2, nd2, own2, mv2, kp2, ho2⟩
      by_cases hlt : j < ds.length
      · have hv : j < vs.length := by omega
        refine .inr ⟨⟨vs, vs[j], Evl.sq_of hH2, List.getElem?_eq_getElem hv⟩, ?_⟩
        have ed : ds.drop j = ds[j] :: ds.drop (j + 1) := List.drop_eq_getElem_cons hlt
        have ev : vs.drop j = vs[j] :: vs.drop (j + 1) := List.drop_eq_getElem_cons hv
        rw [ed] at ho2 r2
        rw [ev] at r2
        obtain ⟨o1, e3, ho2⟩ := bind_some (show (b (ρ2.set i ds[j]) μ2).bind _ = some o from ho2)
        obtain ⟨w, ws, Gd, Gr, q1, q2, q3, rfl⟩ := r2
        injection q1 with q1 q1'
        subst q1
        subst q1'
        refine ⟨fun σ3 H3 => j + 1 ≤ ds.length ∧ ∃ (W3 : Wd) (ρ3 μ3 : List D) (F3 G3 : List Addr), W3.H = H3 ∧ Sta X.K W3 σ3 ρ3 μ3 F3 ∧ RL X.K W3 (ds.drop (j + 1)) (vs.drop (j + 1)) G3 ∧ W3.H a = some (.lst vs) ∧ (a :: G3 ++ F3).Nodup ∧ (∀ b ∈ a :: G3, Own W3 b) ∧
            Mv W W3 F (a :: G3 ++ F3) ∧ Kept ob σ σ3 ∧ forMv i b (ds.drop (j + 1)) ρ3 μ3 = some o,
          fun σ3 H3 n => ⟨ds.length - (j + 1), by omega, rfl, n⟩, fun x H' hy => ?_⟩
        obtain ⟨rfl, hy⟩ := hy
        have hx := hy vs (Evl.sq_of hH2)
        rw [List.getElem?_eq_getElem hv] at hx
        cases hx
        -- the instance goes into its slot
        have pm : (a :: (Gd ++ Gr) ++ F2).Perm ((a :: Gr) ++ (Gd ++ F2)) := by
          show (a :: (Gd ++ Gr ++ F2)).Perm (a :: (Gr ++ (Gd ++ F2)))
          refine List.Perm.cons a ?_
          rw [List.append_assoc]
          exact (List.perm_append_comm_assoc Gd Gr F2)
        have nd3 : ((a :: Gr) ++ (Gd ++ F2)).Nodup := pm.nodup_iff.mp nd2
        have ndd : (Gd ++ F2).Nodup := (List.nodup_append.mp nd3).2.1
        have ownd : ∀ b ∈ Gd, Own W2 b := fun b hb => own2 b (List.mem_cons_of_mem _ (List.mem_append_left _ hb))
        have ownr : ∀ b ∈ a :: Gr, Own W2 b := fun b hb => (List.mem_cons.mp hb).elim (fun z => own2 b (by rw [z]; exact List.mem_cons_self ..)) fun z => own2 b (List.mem_cons_of_mem _ (List.mem_append_right _ z))
        obtain ⟨F3, S3, sub3⟩ := sta_setG q2 S2 ndd ownd i
        have nd4 : ((a :: Gr) ++ F3).Nodup := by
          have q := List.nodup_append.mp nd3
          exact List.nodup_append.mpr ⟨q.1, S3.nd, fun x hx y hy => q.2.2 x hx y (sub3 y hy)⟩
        have mv3 : Mv W W2 F ((a :: Gr) ++ F3) := mv2.sub (fun _ q => q) fun x hx => pm.mem_iff.mpr (by
          rcases List.mem_append.mp hx with z | z
          · exact List.mem_append_left _ z
          · exact List.mem_append_right _ (sub3 x z))
        have kp3 : Kept ob σ (σ2.set i (some vs[j])) := kp2.trans (Kept.set hi)
        have h3 := h.after (mv_drop mv3) kp3
        have next : ∀ (ρ4 μ4 : List D) (σ4 : L2.St) (W4 : Wd) (F4 : List Addr), forMv i b (ds.drop (j + 1)) ρ4 μ4 = some o → Sta X.K W4 σ4 ρ4 μ4 F4 → Mv W2 W4 F3 F4 → Kept ob (σ2.set i (some vs[j])) σ4 →
            j + 1 ≤ ds.length ∧ ∃ (W3 : Wd) (ρ3 μ3 : List D) (F3 G3 : List Addr), W3.H = W4.H ∧ Sta X.K W3 σ4 ρ3 μ3 F3 ∧ RL X.K W3 (ds.drop (j + 1)) (vs.drop (j + 1)) G3 ∧ W3.H a = some (.lst vs) ∧ (a :: G3 ++ F3).Nodup ∧ (∀ b ∈ a :: G3, Own W3 b) ∧
              Mv W W3 F (a :: G3 ++ F3) ∧ Kept ob σ σ4 ∧ forMv i b (ds.drop (j + 1)) ρ3 μ3 = some o := fun ρ4 μ4 σ4 W4 F4 q S4 mv4 kp4 => by
          have off := by_off mv4 nd4 ownr
          refine ⟨by omega, W4, ρ4, μ4, F4, Gr, rfl, S4, RL_keep (mv4.lt S3.own) _ (fun b hb => off b (List.mem_cons_of_mem _ hb)) q3, ?_, by_nodup mv4 nd4 ownr S4.nd, by_own mv4 nd4 ownr, mv3.trans (mv4.by (a :: Gr)), kp3.trans kp4, q⟩
          rw [off a (List.mem_cons_self ..)]
          exact hH2
        show tb _ (σ2.set i (some vs[j])) W2.H
        refine k2 _ _ W2 _ μ2 F3 S3 o1 e3 ?_
        cases o1 with
        | nx ρ4 μ4 => exact fun σ4 W4 F4 S4 mv4 kp4 => next ρ4 μ4 σ4 W4 F4 ho2 S4 mv4 kp4
        | ct ρ4 μ4 => exact fun σ4 W4 F4 S4 mv4 kp4 => next ρ4 μ4 σ4 W4 F4 ho2 S4 mv4 kp4
        | bk ρ4 μ4 =>
          cases ho2
          exact fun σ4 W4 F4 S4 mv4 kp4 => h3 σ4 W4 F4 S4 mv4 kp4
        | rt d ρ4 μ4 =>
          cases ho2
          exact fun v σ4 W4 G F4 r S4 nd own mv4 kp4 => h3 v σ4 W4 G F4 r S4 nd own mv4 kp4
        | ex c fs ρ4 μ4 =>
          cases ho2
          exact fun dx σ4 W4 F4 r S4 mv4 kp4 => h3 dx σ4 W4 F4 r S4 mv4 kp4
      · refine .inl ⟨⟨vs, Evl.sq_of hH2, by omega⟩, ?_⟩
        have e : ds.drop j = [] := List.drop_eq_nil_of_le (by omega)
        rw [e] at ho2
        cases ho2
        exact h σ2 W2 F2 S2 (mv_drop mv2) kp2
    | _ => cases ho
end
/-! ### reckoning -/
section
variable {f g : FX} {k : FXL} {b : FS} {d d' x0 : D} {ds ρ μ ρ1 μ1 : List D} {i : Nat}
theorem xLst_k : xLst k (x0 :: ρ) μ = (k (x0 :: ρ) μ).bind fun o => match o with
  | .ok ds ρ1 μ1 => if ds.length ≤ 100 then some (.ok (.ml ds) ρ1 μ1) else none
  | .ex c fs ρ1 μ1 => some (.ex c fs ρ1 μ1) := rfl
theorem xlNil_k : xlNil (x0 :: ρ) μ = some (.ok [] (x0 :: ρ) μ) := rfl
def loK (k : FXL) : EO → Option LO
  | .ok d ρ1 μ1 => (k ρ1 μ1).map (loCons d)
  | .ex c fs ρ1 μ1 => some (.ex c fs ρ1 μ1)
theorem xlCons_k : xlCons f k (x0 :: ρ) μ = (f (x0 :: ρ) μ).bind (loK k) := rfl
theorem loK_ok : loK k (.ok d ρ μ) = (k ρ μ).map (loCons d) := rfl
theorem loCons_ok : loCons d (.ok ds ρ μ) = .ok (d :: ds) ρ μ := rfl
def fmK (i : Nat) (b : FS) : EO → Option SO
  | .ok d ρ1 μ1 => (match d with
    | .ml ds => forMv i b ds ρ1 μ1
    | _ => none)
  | .ex c fs ρ1 μ1 => some (.ex c fs ρ1 μ1)
theorem fForMv_k : fForMv i g b (x0 :: ρ) μ = (g (x0 :: ρ) μ).bind (fmK i b) := rfl
theorem fmK_ok : fmK i b (.ok (.ml ds) ρ μ) = forMv i b ds ρ μ := rfl
def kset17 := And.intro @xLst_k <| And.intro @xlNil_k <| And.intro @xlCons_k <| And.intro @loK_ok <| And.intro @loCons_ok <| And.intro @fForMv_k @fmK_ok
end
end Fw
/-! # exceptions of own classes: made, raised, asked; isinstance of own instances -/
namespace Fw
open PySem PySem.Spec PyProof.Rows L2
/-! ### raise C('..'), C without an __init__ of its own -/
def excOB (K : PySem.W.Frag) (c : Str) : Bool := PySem.W.excIn K (He.ga K c) [.type "ValueError", .type "Exception", .type "BaseException", .type "object"] "ValueError.__new__" && (PySem.W.keepIn K (.ref (He.ga K c)) && (decide (PySem.W.subIn K (.ref (He.ga K c)) (.type "BaseException") = some true) && decide (PySem.W.typeIn K (.ref (He.ga K c)) = some (.type "type"))))
section
variable {X : Cx} {Wx : WX} {ob : List Nat} {e : Expr} {pos pos' p p2 : Pos} {c m x : Str} {j : Nat} {q : FQ}
theorem ps1_raiseO (O : excOB X.K c = true) (hm : X.mg c = some (.ref (He.ga X.K c))) (hc : X.calm = true) (tk : L2N.Takes X Wx) (hg : Gl X c := by rfl) (hdb : (c == ("__debug__" : Str)) = false := by decide) : PS1 X ob Wx (.Raise (some (.Call (.Name c p) [.Constant (.str m) j p2] [] pos)) none pos') (fRaise c) := by
  obtain ⟨b1, O⟩ := Bool.and_eq_true_iff.mp O
  obtain ⟨b2, O⟩ := Bool.and_eq_true_iff.mp O
  obtain ⟨b3, b4⟩ := Bool.and_eq_true_iff.mp O
  exact ps1_raise hc tk (L2N.pmk_own PySem.F.excBase_ValueError b1 hm b2 (raises_own (of_decide_eq_true b3) (of_decide_eq_true b4)) hg hdb) fun _ _ _ h => h
end
/-! ### raise C(e), C's __init__ saying B.__init__(self, '..') and self.x = e -/
def oexB (K : PySem.W.Frag) (c : Str) : Bool := (match K.lookup (He.ga K c) with
  | some ⟨.type "type", _, .cls cd, sl⟩ => (match cd.mro, sl.toList with
    | .ref C' :: bm, [_, _, _, _, some (.builtin n), _] => C' == He.ga K c && n == "ValueError.__new__" && !cd.hasDel && cd.hasDict && PySem.HandSPX.refsVE bm
    | _, _ => false)
  | _ => false) && (decide (PySem.W.findIn K (.ref (He.ga K c)) "__setattr__" = some (some (.builtin "object.__setattr__"))) && (decide (PySem.W.subIn K (.ref (He.ga K c)) (.type "BaseException") = some true) && (decide (PySem.W.typeIn K (.ref (He.ga K c)) = some (.type "type")) && PySem.W.keepIn K (.ref (He.ga K c)))))
theorem oexB_ok {K : PySem.W.Frag} {c : Str} (h : oexB K c = true) : OexC K (He.ga K c) := by
  obtain ⟨b1, h⟩ := Bool.and_eq_true_iff.mp h
  obtain ⟨b2, h⟩ := Bool.and_eq_true_iff.mp h
  obtain ⟨b3, h⟩ := Bool.and_eq_true_iff.mp h
  obtain ⟨b4, b5⟩ := Bool.and_eq_true_iff.mp h
  refine ⟨?_, of_decide_eq_true b2, of_decide_eq_true b3, of_decide_eq_true b4, b5⟩
  split at b1
  · rename_i dd cd sl ho
    split at b1
    · rename_i C' bm k0 k1 k2 k3 n k5 hm hs
      simp only [Bool.and_eq_true, beq_iff_eq, Bool.not_eq_true'] at b1
      obtain ⟨⟨⟨⟨rfl, rfl⟩, hdel⟩, hd⟩, hv⟩ := b1
      obtain ⟨nm, bs, mro, ns, qn, hdct, sn, sub, ab, col, del⟩ := cd
      dsimp only at hm hdel hd
      subst hm hdel hd
      have hsl : sl = #[k0, k1, k2, k3, some (.builtin "ValueError.__new__"), k5] := by
        obtain ⟨l⟩ := sl
        simp only at hs
        rw [hs]
      subst hsl
      exact ⟨nm, qn, ns, bs, bm, sn, sub, ab, col, dd, k0, k1, k2, k3, k5, ho, hv⟩
    · cases b1
  · cases b1
/-- B.__init__ found through an own class -/
def veB (K : PySem.W.Frag) (c : Str) : Bool := PySem.W.readsIn K (He.ga K c) (.type "type") && (decide (PySem.W.specialIn K (.ref (He.ga K c)) "__getattribute__" = some (some (.builtin "type.__getattribute__"))) && (match PySem.W.findCls K (.ref (He.ga K c)) (.type "type") "__init__" with
  | some (.val v) => decide (v = .builtin "ValueError.__init__")
  | _ => false))
theorem pe_veown {X : Cx} {b : Str} {e : Expr} {es : List Expr} {ta : TA} {p1 p2 pos : Pos} {pl : Sem Bool} (hB : veB X.K b = true) (hm : X.mg b = some (.ref (He.ga X.K b))) (ha : PA X (e :: es) ta) (hg : Gl X b := by rfl) (hdb : (b == ("__debug__" : Str)) = false := by decide)
    (hc : eval (.Call (.Attribute (.Name b p1) "__init__" p2) (e :: es) [] pos) X.env = (do
      let ov ← eval (.Name b p1) X.env
      standAt p2.atName
      let (f, first) ← holding [ov] (getMethod ov "__init__" pl)
      callWith pos f first (backTo pos (starEach (e :: es) X.env)) (backToKw pos (keywordEach [] X.env))) := by rfl)
    (he : starEach (e :: es) X.env = (false, eval e X.env) :: starEach es X.env := by rfl) (hpl : (backTo pos (starEach es X.env)).any (·.1) = false := by rfl) :
    PE X (.Call (.Attribute (.Name b p1) "__init__" p2) (e :: es) [] pos) (tVeI X.K ta) := by
  obtain ⟨b1, hB⟩ := Bool.and_eq_true_iff.mp hB
  obtain ⟨b2, b3⟩ := Bool.and_eq_true_iff.mp hB
  have b2' := of_decide_eq_true b2
  have b3' : PySem.W.findCls X.K (.ref (He.ga X.K b)) (.type "type") "__init__" = some (.val (.builtin "ValueError.__init__")) := by
    cases q : PySem.W.findCls X.K (.ref (He.ga X.K b)) (.type "type") "__init__" with
    | none => rw [q] at b3; cases b3
    | some r =>
      rw [q] at b3
      cases r with
      | val v => rw [of_decide_eq_true b3]
      | get _ _ _ _ => cases b3
  refine ⟨fun pins s σ H Q I h => ?_⟩
  refine PySem.W.methodCall_KW (pl := pl) (ld_glob I hg hm ?_ hdb) hc
  refine PySem.W.method_cls I.kIn b2' (PySem.W.cls_value I.kIn b1 b3' (by decide +kernel) ?_)
  show wpAny _ _ (callWith pos (Value.builtin "ValueError.__init__") [] (backTo pos (starEach (e :: es) X.env)) []) _ _ _
  refine PyProof.Rows.callWith_method1 (thn (ha.run pos pins _ σ H _ (I.tok _) h) fun us s1 ⟨vs, H1, I1, r1, a, C, ws, ev, hl, T, ea, q⟩ => ?_) he hpl
  subst ev
  cases r1 with
  | @cons _ u0 _ ur ra rw' =>
    obtain rfl : u0 = Value.ref a := ra
    have hlen : ur.length ≤ sizeLine := by
      rw [← Paired.length rw', sizeLine_eq]
      omega
    exact oinit_ok T I1 ea hlen fun s' J => ⟨.non, H1, J, rfl, q⟩
/-- what such an __init__ keeps -/
def exSp (K : PySem.W.Frag) (C : Addr) (x : Str) : Sp := fun vs H Q E => ∃ (a : Addr) (v : V), vs = [.ref a, v] ∧ H a = some (exo a C none) ∧ ∀ dx, H dx = none → dx ≠ a → Q .non (upd (upd H dx (exd dx [(x, v)])) a (exo a C (some dx)))
def exBody (K : PySem.W.Frag) (m x : Str) : TS := tSeq (tDrop (tVeI K (tCons (tVar 0) (tCons (tC (.str m)) tNil)))) (tOst K x (tVar 0) (tVar 1))
theorem fn_exinit {P : Program} {w : World} {K : PySem.W.Frag} {mg : Str → Option Value} {base : Heap} {nm qual m x : Str} {params : Arguments} {body : List Stmt} {scope : Scope} {fa C : Addr} {fd : FuncData} {N : List Str} {k : Nat}
    (F : FunD K nm qual params body scope [] [] fa fd) (Sc : FnScope N N scope) (hn : N.length = 2) (T : OexC K C) (hno : PySem.W.findIn K (.ref C) x = some none)
    (h : ∀ (cdv : Value) (A : Around) (outer : List Env) (s : Shared) (H : Hp) (E : XK), PSs (cxOf (L2N.CX P w) P w K mg base N qual scope fa cdv A outer s H E) body (exBody K m x)) : FnOk P w K mg base (L2N.CX P w) (k + 1) fa fd N (exSp K C x) := by
  refine F.ok Sc (fun vs H Q E q => ?_) (fun cdv A outer s H vs Q E hroom q => ⟨_, h cdv A outer s H E, ?_⟩)
  · obtain ⟨a, v, rfl, _⟩ := q
    rw [hn]
    rfl
  · obtain ⟨a, v, rfl, ea, q⟩ := q
    have e0 : L2.start N [V.ref a, v] = [some (.ref a), some v] := by
      unfold L2.start
      rw [hn]
      rfl
    rw [e0]
    refine ⟨.ref a, rfl, ?_⟩
    refine ⟨a, C, [.str m], rfl, (by decide : 1 ≤ 1000), T, ea, ?_⟩
    refine ⟨v, rfl, .ref a, rfl, a, C, rfl, T, hno, .inl ⟨ea, fun dx n ne => q dx n ne⟩⟩
def OkXF (P : Program) (w : World) (K : PySem.W.Frag) (mg : Str → Option Value) (base : Heap) (c x : Str) (k : Nat) : Prop :=
  ∃ (fI : Addr) (fd : FuncData) (ps : List Str), PySem.W.findIn K (.ref (He.ga K c)) "__init__" = some (some (.ref fI)) ∧ PySem.W.typeIn K (.ref fI) = some (.type "function") ∧ FnOk P w K mg base (L2N.CX P w) k fI fd ps (exSp K (He.ga K c) x) ∧ Binds K fd ps [] ∧ OexC K (He.ga K c) ∧ mg c = some (.ref (He.ga K c))
def fRaiseF (c x : Str) (q : FQ) : FS := fun ρ μ => (q ρ μ).bind fun d => if data d = true then some (.ex c [(x, d)] ρ μ) else none
/-- C(e), C's own __init__ walked: what comes has no context -/
theorem oex_made {X : Cx} {c : Str} {Ci g : Addr} {n : Nat} {fd : FuncData} {qs : List Str} {sp : Sp} {a1 : Expr} {as : List Expr} {tz : TA} {po pq : Pos} (O : OexC X.K Ci) (fin : PySem.W.findIn X.K (.ref Ci) "__init__" = some (some (.ref g))) (fty : PySem.W.typeIn X.K (.ref g) = some (.type "function"))
    (Fi : FnOk X.prog X.w X.K X.mg X.base (L2N.CX X.prog X.w) n g fd qs sp) (rm : Room (n + 1) X.A) (bi : Binds X.K fd qs []) (pas : Passes (L2N.CX X.prog X.w) X (fun _ _ _ => False)) (gl : Gl X c) (gm : X.mg c = some (.ref Ci)) (pa : PA X (a1 :: as) tz)
    (ndb : (c == ("__debug__" : Str)) = false) (st : starEach (a1 :: as) X.env = (false, eval a1 X.env) :: starEach as X.env) (pl : (backTo po (starEach as X.env)).any (·.1) = false) :
    L2N.PMk X (.Call (.Name c pq) (a1 :: as) [] po) (L2.tMkO Ci sp [] tz) := by
  intro pins s0 τ G0 QQ J hh
  obtain ⟨_, _, _, _, bmv, _, _, _, _, _, _, _, _, _, _, kC, kv⟩ := O.cls
  refine wpAny_Call_Name_kw (ld_glob J gl gm ?_ ndb)
  refine PySem.W.callWith_K (h₀ := X.base) J.ok.mod.kin O.kC (thn (pa.run po pins s0 τ G0 _ J hh) fun ws s1 hw => ?_) st pl
  obtain ⟨vv, G1, J1, rv, lz, fq⟩ := hw
  refine ⟨J1.kIn, ?_⟩
  show wpAny _ _ (call (.ref Ci) ws) _ _ _
  obtain ⟨hp, gg, dd, tt, oo⟩ := s1
  have fn : G1 (hp.objs.size + 1) = none := J1.hok.fresh (Nat.le_succ _)
  have fq := fq (hp.objs.size + 1) fn
  rw [List.append_nil] at fq
  generalize hE : (hp.push (PySem.W.kdv_tup ws)).push (PySem.HandSPX.excO Ci hp.objs.size) = hq at *
  have keep : ∀ b o, hp.get? b = some o → hq.get? b = some o := fun b o e => by
    rw [← hE]
    exact Heap.get?_push_of_some _ (Heap.get?_push_of_some _ e)
  have got : hq.get? (hp.objs.size + 1) = some (PySem.HandSPX.excO Ci hp.objs.size) := by
    rw [← hE]
    heap_get
  have J2 : Inv X pins τ (upd G1 (hp.objs.size + 1) (exo (hp.objs.size + 1) Ci none)) ⟨hq, gg, dd, tt, oo⟩ := J1.laid keep (Nat.le_succ _) (exo_ok got)
  have rr : Vals (V.ref (hp.objs.size + 1) :: vv) (Value.ref (hp.objs.size + 1) :: ws) := .cons rfl rv
  have ln : (Value.ref (hp.objs.size + 1) :: ws).length = qs.length := by
    rw [← rr.length, Fi.len _ _ _ _ fq]
  have lw : ws.length ≤ sizeLine := by
    rw [← Paired.length rv, sizeLine_eq]
    omega
  have bb := bi _ (Value.ref (hp.objs.size + 1) :: ws) J2.kIn (by rw [List.append_nil]; exact ln)
  rw [List.append_nil] at bb
  rw [hE.symm] at J2 bb keep
  refine wpAny_call (PySem.HandSPX.call_own F.excBase_ValueError (fun Y => PySem.HandSPX.refsVE_contains Y bmv kv) (J1.kIn _ _ kC) (PySem.W.looks_findIn J1.kIn fin) (fun u => PySem.W.bind_fn J1.kIn u fty) lw
    (codeAny_mono (Fi.run _ X.stack _ _ ⟨Value.ref (hp.objs.size + 1) :: ws, []⟩ (Value.ref (hp.objs.size + 1) :: ws) _ _ (fun _ _ _ => False) (rm.make Ci ws []) (J2.env0.make Ci ws []) bb rr fq) fun r s2 hr => ?_))
  match r, hr with
  | .error er, hr => exact pas pins τ _ _ er s2 J2 hr
  | .ok (.ret u), hr =>
    obtain ⟨v, G2, o2, br, un2, ok2, ru, ev, d, fs, ea, ed, nd, q2⟩ := hr
    subst ev
    obtain ⟨h2, g2, d2, t2, o3⟩ := s2
    obtain ⟨t0, Gx, Jx, kx, nx, hx, na⟩ := mk_end0 (d2 := d2) (t2 := t2) J1 (Nat.le_succ _) keep un2 ok2 o2 br ea ed nd
    exact ⟨ru, _, _, _, ⟨Gx, g2, d2, t2, o3⟩, _, .ref Ci, some d, rfl, Jx, kx, nx, hx, ⟨rfl, rfl, fun ys he => by cases he; rfl⟩, rfl, rfl, na, rfl, br, raises_own O.exC O.tyC, q2⟩
  | .ok .next, hr => exact False.elim hr
  | .ok .brk, hr => exact False.elim hr
  | .ok .cont, hr => exact False.elim hr
theorem ps1_raiseF {X : Cx} {Wx : WX} {ob : List Nat} {e : Expr} {pos pos' p : Pos} {c x : Str} {k : Nat} {q : FQ} (O : OkXF X.prog X.w X.K X.mg X.base c x k) (hr : Room (k + 1) X.A) (hc : X.calm = true) (tk : L2N.Takes X Wx) (he : PQ X e q) (hg : Gl X c := by rfl) (hdb : (c == ("__debug__" : Str)) = false := by decide)
    (hs : starEach [e] X.env = (false, eval e X.env) :: starEach [] X.env := by rfl) (hpl : (backTo pos (starEach [] X.env)).any (·.1) = false := by rfl) :
    PS1 X ob Wx (.Raise (some (.Call (.Name c p) [e] [] pos)) none pos') (fRaiseF c x q) := by
  obtain ⟨fI, fd, ps, h1, h2, h3, h4, h5, h6⟩ := O
  obtain ⟨te, pe, k1⟩ := he
  refine ⟨_, L2N.ps_raise hc tk (oex_made h5 h1 h2 h3 hr h4 (L2N.passes_call tk fun _ _ _ _ z => False.elim z) hg h6 (pa_cons pe pa_nil hs) hdb hs hpl), fun E σ W ρ μ F S o ho h => ?_⟩
  obtain ⟨d, e1, ho⟩ := bind_some ho
  by_cases hd : data d = true
  case neg => rw [if_neg hd] at ho; cases ho
  rw [if_pos hd] at ho
  cases ho
  refine k1 σ W ρ μ F S d e1 _ fun v W1 G x1 r1 => ?_
  have z := R_data d hd r1
  subst z
  refine ⟨(by decide : 1 ≤ 1000), fun a na => ⟨a, v, rfl, upd_same, fun dx nd ne => ⟨rfl, dx, [(x, v)], upd_same, ?_, ?_, ?_⟩⟩⟩
  · rw [upd_ne ne, upd_same]
  · rw [upd_ne ne] at nd
    exact nd
  · have nd1 : W1.H dx = none := by
      rw [upd_ne ne] at nd
      exact nd
    have eH : upd (del (upd (upd (upd W1.H a (exo a (He.ga X.K c) none)) dx (exd dx [(x, v)])) a (exo a (He.ga X.K c) (some dx))) a) dx (.xd [(x, v)]) = (W1.put dx (.xd [(x, v)])).H := by
      funext b
      show upd _ dx _ b = upd W1.H dx _ b
      by_cases h1 : b = dx
      · rw [h1, upd_same, upd_same]
      · rw [upd_ne h1, upd_ne h1]
        by_cases h2 : b = a
        · rw [h2, del_same, na]
        · rw [del_ne h2, upd_ne h2, upd_ne h1, upd_ne h2]
    show Wx _ _ _ _
    rw [eH]
    have x2 := Ext.put (W := W1) (p := dx) (o := .xd [(x, v)]) x1.ok nd1
    have x3 := x1.trans x2
    exact h (some dx) σ (W1.put dx (.xd [(x, v)])) F (.inr ⟨x, d, dx, v, rfl, rfl, upd_same, R_ext x2 d r1⟩) (S.ext x3) x3.mvr Kept.refl
/-! ### isinstance(e, C) in the suite that holds e -/
def excCB (K : PySem.W.Frag) (c : Str) : Bool := decide (PySem.W.findIn K (.ref (He.ga K c)) "__getattribute__" = some (some (.builtin "BaseException.__getattribute__"))) && (decide (PySem.W.findIn K (.ref (He.ga K c)) "__getattr__" = some none) && (decide (PySem.W.subIn K (.ref (He.ga K c)) (.type "BaseException") = some true) && (PySem.W.hasDictIn K (He.ga K c) &&
  (decide (PySem.W.findIn K (.ref (He.ga K c)) "__class__" = some (some (.builtin "object.__class__"))) && (decide (PySem.W.specialIn K (.builtin "object.__class__") "__get__" = some (some (.builtin "getset_descriptor.__get__"))) && (decide (PySem.W.takesIn K (.builtin "object.__class__") = some true) && decide (PySem.W.mroIn K (He.ga K c) (.type "object") = some true)))))))
theorem excCB_ok {K : PySem.W.Frag} {c : Str} (h : excCB K c = true) : ExcC K (He.ga K c) := by
  obtain ⟨b1, h⟩ := Bool.and_eq_true_iff.mp h
  obtain ⟨b2, h⟩ := Bool.and_eq_true_iff.mp h
  obtain ⟨b3, h⟩ := Bool.and_eq_true_iff.mp h
  obtain ⟨b4, h⟩ := Bool.and_eq_true_iff.mp h
  obtain ⟨b5, h⟩ := Bool.and_eq_true_iff.mp h
  obtain ⟨b6, h⟩ := Bool.and_eq_true_iff.mp h
  obtain ⟨b7, b8⟩ := Bool.and_eq_true_iff.mp h
  exact ⟨of_decide_eq_true b1, of_decide_eq_true b2, of_decide_eq_true b3, b4, of_decide_eq_true b5, of_decide_eq_true b6, of_decide_eq_true b7, of_decide_eq_true b8⟩
def rIsE2 (K : PySem.W.Frag) (cls : Value) (d : Option Addr) (a : Addr) (cv : Value) : List V → Hp → VK → Prop := fun xs H Q => ∃ (c : V) (C : Addr) (b : Bool), cls = .ref C ∧ ExcC K C ∧ xs = [.ref a, c] ∧ ClsV c cv ∧ PySem.W.kitOne K (.ref C) cv = some b ∧ (d = none ∨ ∃ dd fs, d = some dd ∧ H dd = some (.xd fs)) ∧ Q (.bl b) H
theorem call_isE2 {X : Cx} {a : Addr} {oe : Obj} {cls cv : Value} {d : Option Addr} {pn : List (Addr × Obj)} (hz : L2N.Zn cls d oe) (hf : ∃ vs, oe.data = .fields vs) : CallR (X.suite a ((a, oe) :: pn)) (.builtin "isinstance") (rIsE2 X.K cls d a cv) := by
  intro pins s σ H xs us Q I r h
  obtain ⟨c, D, b, rfl, C, rfl, hcv, e, hdd, q⟩ := h
  obtain ⟨u1, u2, rfl, r1, r2⟩ := vals2 r
  cases (show u1 = Value.ref a from r1)
  have ec := hcv.eq r2
  subst ec
  obtain ⟨hget, _⟩ := I.pin (a, oe) (List.mem_append.mpr (.inl List.mem_cons_self))
  obtain ⟨vs, hv⟩ := hf
  have J : ∃ od, PySem.W.InstAt s.heap a oe D od := by
    rcases hdd with rfl | ⟨dd, fs, rfl, hdd⟩
    · exact ⟨none, hget, hz.1, by unfold PySem.W.notCls; rw [hv] <;> rfl, by rw [hz.2.1]; exact trivial⟩
    · have hx : ObjOk X.prog X.w H s.heap dd (.xd fs) := I.hok dd _ hdd
      obtain ⟨mA, hns, hr⟩ := hx
      obtain ⟨od, ho, hl⟩ := lookIn_ns hns
      exact ⟨some od, hget, hz.1, by unfold PySem.W.notCls; rw [hv] <;> rfl, by rw [hz.2.1]; exact ho⟩
  obtain ⟨od, J⟩ := J
  have hcl : (PySem.W.clsIn X.K D).isSome = true := by
    obtain ⟨cd, hc, _⟩ := PySem.W.any_some C.hd
    rw [hc]
    rfl
  exact PySem.W.kia_one (PySem.W.kitx_exc hcl C.hg C.hk C.hs C.ha C.hn C.ht C.hm) I.kIn J e (fun z => nomatch z) fun tk => ⟨.bl b, H, I.kept (t' := tk) fun _ _ z => z, rfl, q⟩
/-- a class's name: an own one, or a built-in one -/
def NmC (X : Cx) (x : Str) (c : V) (cv : Value) : Prop := ClsV c cv ∧ ((X.mg x = some cv) ∨ (X.mg x = none ∧ bootBuiltins x = some cv ∧ x ≠ "__name__"))
def jIsi (tab : Str → Option Bool) : FJ := fun c _ _ _ => (tab c).map D.bl
theorem pj_isi {X : Cx} {i : Nat} {n cn : Str} {p p1 p2 pos : Pos} {c : V} {cv : Value} {tab : Str → Option Bool} (hn : ∀ (a : Addr) (oe : Obj) (pn : List (Addr × Obj)), PE (X.suite a ((a, oe) :: pn)) (.Name n p1) (tVar i)) (hm : NmC X cn c cv)
    (ht : ∀ z b, tab z = some b → ExcC X.K (He.ga X.K z) ∧ PySem.W.kitOne X.K (.ref (He.ga X.K z)) cv = some b) (hmi : X.mg "isinstance" = none) (hgi : Gl X "isinstance" := by rfl) (hg : Gl X cn := by rfl) (hd : (cn == ("__debug__" : Str)) = false := by decide)
    (hvi : bootBuiltins "isinstance" = some (.builtin "isinstance") := by decide +kernel)
    (hs1 : starEach [.Name n p1, .Name cn p2] X.env = (false, eval (.Name n p1) X.env) :: starEach [.Name cn p2] X.env := by rfl) (hs2 : starEach [.Name cn p2] X.env = (false, eval (.Name cn p2) X.env) :: starEach [] X.env := by rfl) (hpl : (backTo pos (starEach [.Name cn p2] X.env)).any (·.1) = false := by rfl) :
    PJ X i (.Call (.Name "isinstance" p) [.Name n p1, .Name cn p2] [] pos) (jIsi tab) := by
  obtain ⟨kc, hm⟩ := hm
  have r : RelV c cv := by cases kc <;> rfl
  have hp : ∀ (a : Addr) (oe : Obj) (pn : List (Addr × Obj)), PE (X.suite a ((a, oe) :: pn)) (.Name cn p2) (tC c) := fun a oe pn => by
    rcases hm with hm | ⟨hm, hv, hnn⟩
    · exact pe_glob (X := X.suite a ((a, oe) :: pn)) hg hm r hd
    · exact pe_bltn (X := X.suite a ((a, oe) :: pn)) hg hm hv r hnn hd
  refine ⟨fun a cls d => tCB (rIsE2 X.K cls d a cv) (tCons (tVar i) (tCons (tC c) tNil)), fun a oe cls d pn hz hf => ?_, fun a d c' fs σ W ρ μ F hx hg2 S o hr Q k => ?_⟩
  · exact pe_callB (X := X.suite a ((a, oe) :: pn)) (call_isE2 hz hf) hgi hmi hvi (pa_cons (hn a oe pn) (pa_cons (hp a oe pn) pa_nil hs2) hs1) (by decide) (by decide) hs1 hpl
  · obtain ⟨b, e1, z⟩ := map_some hr
    subst z
    obtain ⟨h1, h2⟩ := ht c' b e1
    refine ⟨.ref a, hg2, c, _, b, rfl, h1, rfl, kc, h2, ?_, k _ W [] (Ext.refl S.ok) ⟨rfl, rfl⟩⟩
    rcases hx with ⟨_, rfl⟩ | ⟨x, dd, a', v, _, rfl, h3, _⟩
    · exact .inl rfl
    · exact .inr ⟨a', _, rfl, h3⟩
end Fw
/-! # isinstance of own instances -/
namespace Fw
open PySem PySem.Spec PyProof.Rows L2
def insB (K : PySem.W.Frag) (c : Str) : Bool := decide (PySem.W.findIn K (.ref (He.ga K c)) "__class__" = some (some (.builtin "object.__class__"))) && (decide (PySem.W.specialIn K (.builtin "object.__class__") "__get__" = some (some (.builtin "getset_descriptor.__get__"))) && (decide (PySem.W.takesIn K (.builtin "object.__class__") = some true) && decide (PySem.W.mroIn K (He.ga K c) (.type "object") = some true)))
/-- what a table of answers says of the classes -/
def kitTab (K : PySem.W.Frag) (cv : Value) : List (Str × Bool) → Bool
  | [] => true
  | (c, b) :: l => decide (PySem.W.kitOne K (.ref (He.ga K c)) cv = some b) && kitTab K cv l
def exmTab (K : PySem.W.Frag) (cv : Value) : List (Str × Bool) → Bool
  | [] => true
  | (c, b) :: l => decide (PySem.W.exmOne K (.ref (He.ga K c)) cv = some b) && exmTab K cv l
def tabB (l : List (Str × Bool)) : Str → Option Bool := fun c => l.lookup c
theorem kitTab_ok {K : PySem.W.Frag} {cv : Value} : ∀ {l : List (Str × Bool)}, kitTab K cv l = true → ∀ c b, tabB l c = some b → PySem.W.kitOne K (.ref (He.ga K c)) cv = some b
  | [], _, c, b, h => by cases h
  | (c', b') :: l, h, c, b, e => by
    obtain ⟨h1, h2⟩ := Bool.and_eq_true_iff.mp h
    unfold tabB at e
    rw [List.lookup_cons] at e
    by_cases q : c = c'
    · subst q
      rw [beq_self_eq_true] at e
      cases e
      exact of_decide_eq_true h1
    · have z : (c == c') = false := by simpa using q
      rw [z] at e
      exact kitTab_ok h2 c b e
theorem exmTab_ok {K : PySem.W.Frag} {cv : Value} : ∀ {l : List (Str × Bool)}, exmTab K cv l = true → ∀ c b, tabB l c = some b → PySem.W.exmOne K (.ref (He.ga K c)) cv = some b
  | [], _, c, b, h => by cases h
  | (c', b') :: l, h, c, b, e => by
    obtain ⟨h1, h2⟩ := Bool.and_eq_true_iff.mp h
    unfold tabB at e
    rw [List.lookup_cons] at e
    by_cases q : c = c'
    · subst q
      rw [beq_self_eq_true] at e
      cases e
      exact of_decide_eq_true h1
    · have z : (c == c') = false := by simpa using q
      rw [z] at e
      exact exmTab_ok h2 c b e
/-- one fact of all classes of a table -/
def allTab (f : Str → Bool) : List (Str × Bool) → Bool
  | [] => true
  | (c, _) :: l => f c && allTab f l
theorem allTab_ok {f : Str → Bool} : ∀ {l : List (Str × Bool)}, allTab f l = true → ∀ c b, tabB l c = some b → f c = true
  | [], _, c, b, h => by cases h
  | (c', b') :: l, h, c, b, e => by
    obtain ⟨h1, h2⟩ := Bool.and_eq_true_iff.mp h
    unfold tabB at e
    rw [List.lookup_cons] at e
    by_cases q : c = c'
    · subst q
      exact h1
    · have z : (c == c') = false := by simpa using q
      rw [z] at e
      exact allTab_ok h2 c b e
theorem tab_cls {P : Str → Prop} {l : List (Str × Bool)} (h : ∀ p ∈ l, P p.1) : ∀ z b, tabB l z = some b → P z := fun z b e => by
  induction l with
  | nil => cases e
  | cons p l ih =>
    obtain ⟨c, b'⟩ := p
    unfold tabB at e ih
    rw [List.lookup_cons] at e
    by_cases q : z = c
    · subst q
      exact h (z, b') (List.mem_cons_self ..)
    · have w : (z == c) = false := by simpa using q
      rw [w] at e
      exact ih (fun p hp => h p (List.mem_cons_of_mem _ hp)) e
def isiC (tab : Str → Option Bool) : D → Option D
  | .obj c _ _ => (tab c).map D.bl
  | .fo c _ _ => (tab c).map D.bl
  | _ => none
def qIsiC (tab : Str → Option Bool) (f : FQ) : FQ := fun ρ μ => (f ρ μ).bind (isiC tab)
section
variable {X : Cx} {e : Expr} {f : FQ}
theorem pq_isiC {cn : Str} {p px pos : Pos} {c : V} {cv : Value} {l : List (Str × Bool)} (he : PQ X e f) (hm : NmC X cn c cv) (hk : kitTab X.K cv l = true) (hc : ∀ z b, tabB l z = some b → Cls X.K (He.ga X.K z)) (hi : allTab (insB X.K) l = true) (hmi : X.mg "isinstance" = none) (hgi : Gl X "isinstance" := by rfl) (hg : Gl X cn := by rfl) (hd : (cn == ("__debug__" : Str)) = false := by decide)
    (hvi : bootBuiltins "isinstance" = some (.builtin "isinstance") := by decide +kernel)
    (hs1 : starEach [e, .Name cn px] X.env = (false, eval e X.env) :: starEach [.Name cn px] X.env := by rfl) (hs2 : starEach [.Name cn px] X.env = (false, eval (.Name cn px) X.env) :: starEach [] X.env := by rfl) (hpl : (backTo pos (starEach [.Name cn px] X.env)).any (·.1) = false := by rfl) :
    PQ X (.Call (.Name "isinstance" p) [e, .Name cn px] [] pos) (qIsiC (tabB l) f) := by
  obtain ⟨t, pt, k1⟩ := he
  obtain ⟨kc, hm⟩ := hm
  have r : RelV c cv := by cases kc <;> rfl
  have hp : PE X (.Name cn px) (tC c) := by
    rcases hm with hm | ⟨hm, hv, hnn⟩
    · exact pe_glob hg hm r hd
    · exact pe_bltn hg hm hv r hnn hd
  refine ⟨_, pe_callB call_isi hgi hmi hvi (pa_cons pt (pa_cons hp pa_nil hs2) hs1) (by decide) (by decide) hs1 hpl, fun σ W ρ μ F S d hd Q q => ?_⟩
  obtain ⟨x, e1, hd⟩ := bind_some hd
  refine k1 σ W ρ μ F S x e1 _ fun v W1 G1 x1 r1 => ?_
  have fin : ∀ (z : Str) (a dx : Addr) (fs : List (Str × V)), v = .ref a → W1.H a = some (.ins (He.ga X.K z) dx fs) → (tabB l z).map D.bl = some d → rIsi X.K [v, c] W1.H Q := fun z a dx fs ev ea ed => by
    obtain ⟨b, eb, w⟩ := map_some ed
    subst w
    have h := allTab_ok hi z b eb
    obtain ⟨b1, h⟩ := Bool.and_eq_true_iff.mp h
    obtain ⟨b2, h⟩ := Bool.and_eq_true_iff.mp h
    obtain ⟨b3, b4⟩ := Bool.and_eq_true_iff.mp h
    subst ev
    exact ⟨_, c, _, cv, b, rfl, kc, .base (.ins ea (hc z b eb) (of_decide_eq_true b1) (of_decide_eq_true b2) (of_decide_eq_true b3) (of_decide_eq_true b4)), kitTab_ok hk z b eb, q _ W1 [] x1 ⟨rfl, rfl⟩⟩
  cases x with
  | obj z ns ds =>
    obtain ⟨a, dx, vs, F', ev, ea, _⟩ := r1
    exact fin z a dx _ ev ea hd
  | fo z ns ds =>
    obtain ⟨a, dx, vs, ev, ea, _⟩ := r1
    exact fin z a dx _ ev ea hd
  | _ => cases hd
end
section
variable {tab : Str → Option Bool} {f : FQ} {x0 : D} {ρ μ ds : List D} {c : Str} {ns : List Str} {l : List (Str × Bool)}
theorem qIsiC_k : qIsiC tab f (x0 :: ρ) μ = (f (x0 :: ρ) μ).bind (isiC tab) := rfl
theorem isiC_obj : isiC tab (.obj c ns ds) = (tab c).map D.bl := rfl
theorem isiC_fo : isiC tab (.fo c ns ds) = (tab c).map D.bl := rfl
def kset18 := And.intro @qIsiC_k <| And.intro @isiC_obj @isiC_fo
end
end Fw
/-! # e.replace(..) of written texts, e giving out a token -/
namespace Fw
open PySem PySem.Spec PyProof.Rows L2
theorem keepK {α : Type} {M : Model} {A : Around} {s : Shared} {t : Sem α} {Q : α → Shared → Prop} {E : Value → Shared → Prop} (hn : 1 ≤ s.toks) (h : wpAny M A t Q E s) : wpAny M A t (fun a s' => 1 ≤ s'.toks ∧ Q a s') E s :=
  wpAny_mono (PySem.wpAny_toks_of hn h) (fun _ _ x => x) fun _ _ z => z.2
section
variable {X : Cx} {a b e o : Expr} {es : List Expr} {te ta tb to : TE} {t : TA} {f g : FQ} {kf : FA} {p pos apos : Pos}
/-- behind it a token is out -/
def PEK (X : Cx) (e : Expr) (te : TE) : Prop := ∀ (pins : List (Addr × Obj)) (s : Shared) (σ : L2.St) (H : Hp) (Q : VK), Inv X pins σ H s → te σ H Q → wpAny (model X.prog X.w) X.A (eval e X.env) (fun v s1 => 1 ≤ s1.toks ∧ EP X pins σ Q v s1) X.xe s
def PAK (X : Cx) (es : List Expr) (ta : TA) : Prop := ∀ (pos : Pos) (pins : List (Addr × Obj)) (s : Shared) (σ : L2.St) (H : Hp) (Q : List V → Hp → Prop), Inv X pins σ H s → ta σ H Q → wpAny (model X.prog X.w) X.A (spliced (backTo pos (starEach es X.env))) (fun us s1 => 1 ≤ s1.toks ∧ AP X pins σ Q us s1) X.xe s
theorem pek_int {i : Int} {j} : PEK X (.Constant (.int i) j pos) (tC (.int i)) := fun pins s σ H Q I h => wpAny_Constant_int ⟨Nat.le_add_left 1 s.toks, .int i, H, I.tok _, ⟨_, rfl⟩, h⟩
theorem pek_str {x : Str} {j} : PEK X (.Constant (.str x) j pos) (tC (.str x)) := fun pins s σ H Q I h => Calls.Constant_str ⟨Nat.le_add_left 1 s.toks, .str x, H, I.tok _, ⟨_, rfl⟩, h⟩
theorem pek_opL {op : Operator} {r : R2} (ho : OpR X (binaryOp op) r) (ha : PEK X a ta) (hb : PE X b tb) : PEK X (.BinOp a op b pos) (tOp r ta tb) := by
  intro pins s σ H Q I h
  refine wpAny_BinOp (thn (ha pins s σ H _ I h) fun v s1 q => ?_)
  obtain ⟨k1, x, H1, I1, r1, q1⟩ := q
  exact thn (keepK k1 (hb.run pins s1 σ H1 _ I1 q1)) fun u s2 ⟨k2, y, H2, I2, r2, q2⟩ => keepK k2 (ho pins s2 σ H2 x y v u Q I2 r1 r2 q2)
theorem pak_head (ha : PEK X e te) (hr : PA X es t) (hs : starEach (e :: es) X.env = (false, eval e X.env) :: starEach es X.env := by rfl) : PAK X (e :: es) (tCons te t) := by
  intro pos pins s σ H Q I h
  rw [hs]
  show wpAny _ _ (spliced ((false, eval e X.env) :: backTo pos (starEach es X.env))) _ _ s
  refine Calls.spliced_cons (thn (ha pins s σ H _ I h) fun u s1 ⟨k1, x, H1, I1, r1, q1⟩ => ?_)
  exact thn (keepK k1 (hr.run pos pins s1 σ H1 _ I1 q1)) fun us s2 ⟨k2, xs, H2, I2, r2, q2⟩ => ⟨k2, x :: xs, H2, I2, .cons r1 r2, q2⟩
theorem pak_tail (ha : PE X e te) (hr : PAK X es t) (hs : starEach (e :: es) X.env = (false, eval e X.env) :: starEach es X.env := by rfl) : PAK X (e :: es) (tCons te t) := by
  intro pos pins s σ H Q I h
  rw [hs]
  show wpAny _ _ (spliced ((false, eval e X.env) :: backTo pos (starEach es X.env))) _ _ s
  refine Calls.spliced_cons (thn (ha.run pins s σ H _ I h) fun u s1 ⟨x, H1, I1, r1, q1⟩ => ?_)
  exact thn (hr pos pins s1 σ H1 _ I1 q1) fun us s2 ⟨k2, xs, H2, I2, r2, q2⟩ => ⟨k2, x :: xs, H2, I2, .cons r1 r2, q2⟩
theorem pek_call {CX : CXT} {k : Nat} {fa : Addr} {fd : FuncData} {ps : List Str} {sp : Sp} {dvs : List V} {ds : List Value} {E : XK} {x : Str} (F : FnOk X.prog X.w X.K X.mg X.base CX k fa fd ps sp) (hr : Room k X.A) (hg : Gl X x) (hm : X.mg x = some (.ref fa)) (hk : PySem.W.keepIn X.K (.ref fa) = true) (hb : Binds X.K fd ps ds) (hd : Vals dvs ds) (hx : Passes CX X E)
    (ha : PAK X (e :: es) t) (hdb : (x == ("__debug__" : Str)) = false := by decide) (he : starEach (e :: es) X.env = (false, eval e X.env) :: starEach es X.env := by rfl) (hpl : (backTo pos (starEach es X.env)).any (·.1) = false := by rfl) :
    PEK X (.Call (.Name x p) (e :: es) [] pos) (tCall sp dvs E t) := by
  intro pins s σ H Q I h
  refine wpAny_Call_Name_kw (ld_glob I hg hm ?_ hdb)
  refine PySem.W.callWith_K (h₀ := X.base) I.ok.mod.kin hk (thn (ha pos pins s σ H _ I h) fun us s1 ⟨k1, vs, H1, I1, r, q⟩ => ⟨I1.kIn, ?_⟩) he hpl
  exact keepK k1 (run_fn F hr hb hd hx I1 r q)
theorem pek_repl {y z : Str} {j k : Nat} {c0 c1 : Pos} (ho : PEK X o to) (hyz : (y == z) = false := by decide)
    (hst : starEach [.Constant (.str y) j c0, .Constant (.str z) k c1] X.env = [(false, eval (.Constant (.str y) j c0) X.env), (false, eval (.Constant (.str z) k c1) X.env)] := by rfl)
    (hbase : attributeBase o "replace" X.env (eval o X.env) = eval o X.env := by rfl) (hline : (apos.endLine == pos.line) = true := by rfl) :
    PEK X (.Call (.Attribute o "replace" apos) [.Constant (.str y) j c0, .Constant (.str z) k c1] [] pos) (CwR.tReplC to y z) := by
  intro pins s σ H Q I h
  refine PySem.Call_method2 hbase hst hline (thn (ho pins s σ H _ I h) fun v s1 q => ?_)
  obtain ⟨hk, v', H1, I1, r1, x, e1, hb, q⟩ := q
  subst e1
  obtain ⟨tx, e2⟩ := r1
  subst e2
  refine ⟨"str", _, PySem.F.plainAttrs_str, PySem.F.slot_str_replace, PySem.F.type_str_replace, typeIs_str _ _ _, (fun _ e => nomatch e), Calls.callWith_builtin rfl (Calls.evalArgs_plain (Calls.spliced_cons ?_))⟩
  refine Calls.Constant_str (Calls.spliced_cons (Calls.Constant_str (Calls.spliced_nil ?_)))
  refine keepK (by show 1 ≤ s1.toks + 1 + 1; omega) ?_
  exact PySem.SC.replace (by show s1.toks ≠ 0; omega) (by show s1.toks + 1 ≠ 0; omega) (by show s1.toks ≠ s1.toks + 1; omega) hyz hb fun t' k => ⟨.str (Txt.replace x y z), H1, I1.tok k, ⟨t', rfl⟩, q⟩
/-! ### quiet -/
def PQK (X : Cx) (e : Expr) (f : FQ) : Prop := ∃ te : TE, PEK X e te ∧ ∀ (σ : L2.St) (W : Wd) (ρ μ : List D) (F : List Addr), Sta X.K W σ ρ μ F → ∀ d, f ρ μ = some d → ∀ Q : VK, (∀ v W' G, Ext W W' → R X.K W' d v G → Q v W'.H) → te σ W.H Q
def PAQK (X : Cx) (es : List Expr) (f : FA) : Prop := ∃ ta : TA, PAK X es ta ∧ ∀ (σ : L2.St) (W : Wd) (ρ μ : List D) (F : List Addr), Sta X.K W σ ρ μ F → ∀ ds, f ρ μ = some ds → ∀ Q : List V → Hp → Prop, (∀ vs W' G, Ext W W' → RL X.K W' ds vs G → Q vs W'.H) → ta σ W.H Q
theorem PQK.pq (h : PQK X e f) : PQ X e f := by
  obtain ⟨te, p, k⟩ := h
  exact ⟨te, ⟨fun pins s σ H Q I q => thn (p pins s σ H Q I q) fun _ _ z => z.2⟩, k⟩
theorem pqk_int {i : Int} {j} : PQK X (.Constant (.int i) j pos) (qC (.int i)) := by
  obtain ⟨te, p, k⟩ := (pq_int (X := X) (i := i) (j := j) (pos := pos))
  exact ⟨_, pek_int, fun σ W ρ μ F S d hd Q q => q _ W [] (Ext.refl S.ok) (by cases hd; exact ⟨rfl, rfl⟩)⟩
theorem pqk_op {op : Operator} {o : D → D → Option D} (h : OpD X (binaryOp op) o) (ha : PQK X a f) (hb : PQ X b g) : PQK X (.BinOp a op b pos) (q2 o f g) := by
  obtain ⟨r, hr, h3⟩ := h
  obtain ⟨ta, pa, h1⟩ := ha
  obtain ⟨tb, pb, h2⟩ := hb
  exact ⟨_, pek_opL hr pa pb, run2 h1 h2 h3⟩
theorem cons_run {ta : TE} {t : TA} (h1 : ∀ (σ : L2.St) (W : Wd) (ρ μ : List D) (F : List Addr), Sta X.K W σ ρ μ F → ∀ d, f ρ μ = some d → ∀ Q : VK, (∀ v W' G, Ext W W' → R X.K W' d v G → Q v W'.H) → ta σ W.H Q)
    (h2 : ∀ (σ : L2.St) (W : Wd) (ρ μ : List D) (F : List Addr), Sta X.K W σ ρ μ F → ∀ ds, kf ρ μ = some ds → ∀ Q : List V → Hp → Prop, (∀ vs W' G, Ext W W' → RL X.K W' ds vs G → Q vs W'.H) → t σ W.H Q)
    (σ : L2.St) (W : Wd) (ρ μ : List D) (F : List Addr) (S : Sta X.K W σ ρ μ F) (ds : List D) (hd : aCons f kf ρ μ = some ds) (Q : List V → Hp → Prop) (q : ∀ vs W' G, Ext W W' → RL X.K W' ds vs G → Q vs W'.H) : tCons ta t σ W.H Q := by
  obtain ⟨d, e1, hd⟩ := bind_some hd
  obtain ⟨ds', e2, z⟩ := map_some hd
  subst z
  refine h1 σ W ρ μ F S d e1 _ fun v W1 G1 x1 r1 => ?_
  refine h2 σ W1 ρ μ F (S.ext x1) ds' e2 _ fun vs W2 G2 x2 r2 => ?_
  exact q (v :: vs) W2 (G1 ++ G2) (x1.trans x2) ⟨v, vs, G1, G2, rfl, R_ext x2 d r1, r2, rfl⟩
theorem paqk_head (ha : PQK X e f) (hr : PAQ X es kf) (hs : starEach (e :: es) X.env = (false, eval e X.env) :: starEach es X.env := by rfl) : PAQK X (e :: es) (aCons f kf) := by
  obtain ⟨ta, pa, h1⟩ := ha
  obtain ⟨t, pt, h2⟩ := hr
  exact ⟨_, pak_head pa pt hs, cons_run h1 h2⟩
theorem paqk_tail (ha : PQ X e f) (hr : PAQK X es kf) (hs : starEach (e :: es) X.env = (false, eval e X.env) :: starEach es X.env := by rfl) : PAQK X (e :: es) (aCons f kf) := by
  obtain ⟨ta, pa, h1⟩ := ha
  obtain ⟨t, pt, h2⟩ := hr
  exact ⟨_, pak_tail pa pt hs, cons_run h1 h2⟩
theorem pqk_call {x : Str} {k n : Nat} {dd : List D} {run : List D → Option D} (O : OkQ X.prog X.w X.K X.mg X.base x k n dd run) (hr : Room k X.A) (ha : PAQK X (e :: es) kf) (hg : Gl X x := by rfl) (hdb : (x == ("__debug__" : Str)) = false := by decide)
    (he : starEach (e :: es) X.env = (false, eval e X.env) :: starEach es X.env := by rfl) (hpl : (backTo pos (starEach es X.env)).any (·.1) = false := by rfl) : PQK X (.Call (.Name x p) (e :: es) [] pos) (qRun n dd run kf) := by
  obtain ⟨f, fd, ps, dvs, us, hF, hb, hv, hdd, hdt, hm, hk⟩ := O
  obtain ⟨t, pt, k1⟩ := ha
  refine ⟨_, pek_call hF hr hg hm hk hb hv passN pt hdb he hpl, fun σ W ρ μ F S d hd Q q => ?_⟩
  obtain ⟨ds, e1, hd⟩ := bind_some hd
  by_cases hl : dataL ds = true ∧ (ds ++ dd).length = n
  case neg => rw [if_neg hl] at hd; cases hd
  rw [if_pos hl] at hd
  obtain ⟨d', e2, hd⟩ := bind_some hd
  by_cases hdd2 : data d' = true
  case neg => rw [if_neg hdd2] at hd; cases hd
  rw [if_pos hdd2] at hd
  cases hd
  refine k1 σ W ρ μ F S ds e1 _ fun vs W1 G1 x1 r1 => ?_
  have z := RL_data ds hl.1 r1
  subst z
  exact call_back hl.1 hdt x1.ok (RL_app r1 (hdd W1)) hl.2 e2 hdd2 fun v W2 x2 r2 => q v W2 [] (x1.trans x2) r2
def replD (y z : List Nat) : D → Option D
  | .str s => if s.length ≤ 1000000 ∧ 1 ≤ y.length ∧ z.length ≤ 10 then some (.str (PySem.StrLaws.replL y z s)) else none
  | _ => none
def qRepl (y z : List Nat) (f : FQ) : FQ := fun ρ μ => (f ρ μ).bind (replD y z)
theorem repl_tr {s y z : List Nat} (hy : 1 ≤ y.length) : Txt.replace (tr s) (tr y) (tr z) = tr (PySem.StrLaws.replL y z s) := by
  have h := PySem.StrLaws.replace_list (x := tr s) (y := tr y) (z := tr z) (by rw [tr_length]; exact hy)
  have e : ∀ x : Str, x = tr x.cps.toList := fun x => by cases x; rfl
  rw [e (Txt.replace (tr s) (tr y) (tr z)), h]
theorem pqk_repl {y z : String} {j k : Nat} {c0 c1 : Pos} (ho : PQK X o f) (hyz : (Str.ofString y == Str.ofString z) = false := by decide)
    (hst : starEach [.Constant (.str (Str.ofString y)) j c0, .Constant (.str (Str.ofString z)) k c1] X.env = [(false, eval (.Constant (.str (Str.ofString y)) j c0) X.env), (false, eval (.Constant (.str (Str.ofString z)) k c1) X.env)] := by rfl)
    (hbase : attributeBase o "replace" X.env (eval o X.env) = eval o X.env := by rfl) (hline : (apos.endLine == pos.line) = true := by rfl) :
    PQK X (.Call (.Attribute o "replace" apos) [.Constant (.str (Str.ofString y)) j c0, .Constant (.str (Str.ofString z)) k c1] [] pos) (qRepl (ofS y) (ofS z) f) := by
  obtain ⟨to, po, h1⟩ := ho
  refine ⟨_, pek_repl po hyz hst hbase hline, fun σ W ρ μ F S d hd Q q => ?_⟩
  obtain ⟨x, e1, hd⟩ := bind_some hd
  refine h1 σ W ρ μ F S x e1 _ fun v W1 G1 x1 r1 => ?_
  unfold replD at hd
  split at hd
  case h_2 => cases hd
  rename_i s
  split at hd
  case isFalse => cases hd
  rename_i hc
  cases hd
  obtain ⟨rfl, rfl⟩ := r1
  refine ⟨tr s, rfl, ?_, ?_⟩
  · rw [tr_ofS z, tr_length, tr_length]
    have h2 := Nat.mul_le_mul (show s.length + 1 ≤ 1000001 by omega) hc.2.2
    omega
  · rw [tr_ofS y, tr_ofS z, repl_tr hc.2.1]
    exact q _ W1 [] x1 ⟨rfl, rfl⟩
end
/-! ### reckoning -/
theorem replL_one (a : Nat) (z : List Nat) : ∀ s : List Nat, PySem.StrLaws.replL [a] z s = s.flatMap fun c => if c = a then z else [c]
  | [] => PySem.StrLaws.replL_nil
  | c :: r => by
    by_cases h : c = a
    · subst h
      rw [PySem.StrLaws.replL_hit (y := [c]) (List.cons_ne_nil c []) rfl, List.flatMap_cons, if_pos rfl]
      show z ++ PySem.StrLaws.replL [c] z r = _
      rw [replL_one c z r]
    · rw [PySem.StrLaws.replL_miss (y := [a]) (fun q => h (by injection q)), List.flatMap_cons, if_neg h, replL_one a z r]
      rfl
theorem replL_sign (a b : Nat) (s : List Nat) : PySem.StrLaws.replL [a] [b] s = s.map fun c => if c = a then b else c := by
  rw [replL_one]
  induction s with
  | nil => rfl
  | cons c r ih =>
    rw [List.flatMap_cons, List.map_cons, ih]
    split <;> rfl
section
variable {f : FQ} {x0 : D} {ρ μ y z s : List Nat}
theorem qRepl_k {f : FQ} {x0 : D} {ρ μ : List D} {y z : List Nat} : qRepl y z f (x0 :: ρ) μ = (f (x0 :: ρ) μ).bind (replD y z) := rfl
theorem replD_sign {a b : Nat} {s : List Nat} (h : s.length ≤ 1000000) : replD [a] [b] (.str s) = some (.str (s.map fun c => if c = a then b else c)) := by
  rw [← replL_sign]
  exact if_pos ⟨h, Nat.le_refl _, show 1 ≤ 10 by decide⟩
theorem xMake0_k {c : Str} {x0 : D} {ρ μ : List D} : xMake0 c (x0 :: ρ) μ = some (.ok (.obj c [] []) (x0 :: ρ) μ) := rfl
def shK : EO → Option EO
  | .ok d ρ1 μ1 => (match d with
    | .obj _ _ _ => some (.ok (.ref μ1.length) ρ1 (μ1 ++ [d]))
    | _ => none)
  | .ex c fs ρ1 μ1 => some (.ex c fs ρ1 μ1)
theorem xShare_k (g : FX) (x0 : D) (ρ μ : List D) : xShare g (x0 :: ρ) μ = (g (x0 :: ρ) μ).bind shK := rfl
theorem shK_obj {c : Str} {ns : List Str} {ds ρ μ : List D} : shK (.ok (.obj c ns ds) ρ μ) = some (.ok (.ref μ.length) ρ (μ ++ [.obj c ns ds])) := rfl
def kset19 := And.intro @qRepl_k <| And.intro @replD_sign <| And.intro @xMake0_k <| And.intro @xShare_k @shK_obj
end
end Fw
/-! # a comprehension whose element changes instances; its list stands still behind -/
namespace Fw
open PySem PySem.Spec PyProof.Rows L2
open Evl (Ex)
theorem Sta.wipeS {K : PySem.W.Frag} {W : Wd} {μ : List D} : ∀ (vs : List Nat) {σ : L2.St} {ρ : List D} {F : List Addr}, Sta K W σ ρ μ F → ∃ F', Sta K W (L2.wipe σ vs) (wipeD ρ vs) μ F' ∧ ∀ a ∈ F', a ∈ F
  | [], _, _, F, S => ⟨F, S, fun _ h => h⟩
  | v :: vs, _, _, F, S => by
    obtain ⟨F1, S1, s1⟩ := Sta.wipeS vs S
    obtain ⟨F2, S2, s2⟩ := S1.set (i := v) (d := .un) (o := none) rfl
    exact ⟨F2, S2, fun a h => s1 a (s2 a h)⟩
theorem RS_other {K : PySem.W.Frag} {W : Wd} : ∀ {ds : List D} {σ τ : L2.St} {F : List Addr}, RS K W ds σ F → σ.length = τ.length → (∀ i : Nat, ds[i]? = some D.un ∨ σ[i]? = τ[i]?) → RS K W ds τ F
  | [], σ, τ, F, h, hl, _ => by
    obtain ⟨rfl, rfl⟩ := h
    cases τ with
    | nil => exact ⟨rfl, rfl⟩
    | cons _ _ => simp at hl
  | d :: ds, σ, τ, F, h, hl, k => by
    obtain ⟨o, σ', F1, F2, rfl, h2, h3, h4⟩ := h
    cases τ with
    | nil => simp at hl
    | cons o' τ' =>
      refine ⟨o', τ', F1, F2, rfl, ?_, RS_other h3 (by simpa using hl) fun i => by simpa using k (i + 1), h4⟩
      rcases k 0 with z | z
      · have z1 : d = .un := by simpa using z
        subst z1
        exact h2
      · have z1 : o = o' := by simpa using z
        subst z1
        exact h2
theorem wipeD_len : ∀ (vs : List Nat) (ρ : List D), (wipeD ρ vs).length = ρ.length
  | [], _ => rfl
  | v :: vs, ρ => by
    show ((wipeD ρ vs).set v .un).length = _
    rw [List.length_set, wipeD_len vs ρ]
theorem wipeD_un : ∀ (vs : List Nat) (ρ : List D) (i : Nat), i ∈ vs → i < ρ.length → (wipeD ρ vs)[i]? = some .un
  | [], _, _, h, _ => nomatch h
  | v :: vs, ρ, i, h, hl => by
    show ((wipeD ρ vs).set v .un)[i]? = _
    by_cases e : v = i
    · rw [e, List.getElem?_set_self (by rw [wipeD_len]; exact hl)]
    · rw [List.getElem?_set_ne e]
      exact wipeD_un vs ρ i ((List.mem_cons.mp h).resolve_left fun z => e z.symm) hl
def noW : WX := fun _ _ _ _ => False
/-- an expression's own form, one for all contexts -/
def tXv (K : PySem.W.Frag) (Wx : WX) (f : FX) : TE := fun σ H Q => ∃ (W : Wd) (ρ μ : List D) (F : List Addr) (o : EO), W.H = H ∧ Sta K W σ ρ μ F ∧ f ρ μ = some o ∧ GoesE K Wx Q σ W F o
theorem PX.can {X : Cx} {Wx : WX} {e : Expr} {f : FX} (h : PX X Wx e f) : PE X e (tXv X.K Wx f) := by
  obtain ⟨te, p, k⟩ := h
  refine ⟨fun pins s σ H Q I ⟨W, ρ, μ, F, o, hH, S, ho, q⟩ => ?_⟩
  subst hH
  exact p.run pins s σ _ Q I (k σ W ρ μ F S o ho Q q)
def lcX (g : D → List D → Option (List D)) (t : FB) (f : FX) (vs : List Nat) : List D → List D → List D → Option (List D × List D × List D)
  | ρ, μ, [] => some ([], ρ, μ)
  | ρ, μ, d :: ds => (g d ρ).bind fun ρ1 => (t ρ1 μ).bind fun b => if b = true then (f ρ1 μ).bind fun o => match o with
      | .ok y ρ2 μ2 => if data y = true then (lcX g t f vs (wipeD ρ2 vs) μ2 ds).map fun r => (y :: r.1, r.2) else none
      | .ex _ _ _ _ => none
    else lcX g t f vs (wipeD ρ1 vs) μ ds
def xLc (it : FA) (g : D → List D → Option (List D)) (vs : List Nat) (t : FB) (f : FX) : FX := fun ρ μ => (it ρ μ).bind fun ds => if ds.length ≤ LIM then (lcX g t f vs (wipeD ρ vs) μ ds).map fun r => EO.ok (.lst r.1) r.2.1 r.2.2 else none
section
variable {X : Cx} {Wx : WX} {elt tg iter : Expr} {ifs : List Expr} {scope : Scope} {own : List (Str × Nat)} {pos : Pos} {it : FA} {g : D → List D → Option (List D)} {t : FB} {f : FX}
theorem lcx_run {K : PySem.W.Frag} {wi : TI} {vs : List Nat} {it : FA}
    (k0 : ∀ (σ : L2.St) (W : Wd) (ρ μ : List D) (F : List Addr), Sta K W σ ρ μ F → ∀ ds, it ρ μ = some ds → ∀ Q : It → Hp → Prop, (∀ J W', Ext W W' → ItD K J W' ds Lt → Q J W'.H) → wi σ W.H Q)
    (σ : L2.St) (W : Wd) (ρ μ : List D) (F : List Addr) (S : Sta K W σ ρ μ F) (o : EO) (ho : xLc it g vs t f ρ μ = some o) (Q : VK) (q : GoesE K Wx Q σ W F o) :
    tLc wi (gTv K vs g) (tBv K t) (tXv K noW f) vs σ W.H Q := by
  obtain ⟨ds, e1, ho⟩ := bind_some ho
  by_cases hlim : ds.length ≤ LIM
  case neg => rw [if_neg hlim] at ho; cases ho
  rw [if_pos hlim] at ho
  obtain ⟨⟨out, ρe, μe⟩, hd, z⟩ := map_some ho
  subst z
  refine k0 σ W ρ μ F S ds e1 _ fun J W1 x1 itd => ?_
  intro Dl hDl
  have S1 := S.ext x1
  obtain ⟨Fw, Sw, subw⟩ := Sta.wipeS vs S1
  have nDl : ∀ a ∈ Fw, a ≠ Dl := fun a ha z => own_some (Sw.own a ha) (by rw [z]; exact hDl)
  refine ⟨fun i m H => m = ds.length - i ∧ i ≤ ds.length ∧ ∃ (W2 : Wd) (acc : List V) (done rest ρ2 μ2 : List D) (F2 : List Addr), W2.H = H ∧ Sta K W2 (wipe σ vs) ρ2 μ2 F2 ∧ Mv W1 W2 Fw (Dl :: F2) ∧ ¬ W2.Fr Dl ∧ Dl ∉ F2 ∧ W2.H Dl = some (.lst acc) ∧ RL K W2 done acc [] ∧
    lcX g t f vs ρ2 μ2 (ds.drop i) = some (rest, ρe, μe) ∧ out = done ++ rest ∧ done.length ≤ i ∧ dataL done = true ∧ (∀ j ∈ vs, j < ρ2.length → ρ2[j]? = some .un), ⟨_, rfl, Nat.zero_le _, ?_⟩, ?_⟩
  · have x := Ext.put (W := W1) (o := .lst []) Sw.ok hDl
    exact ⟨W1.put Dl (.lst []), [], [], out, wipeD ρ vs, μ, Fw, rfl, Sw.ext x, x.mvN (fun a ha => (List.mem_cons.mp ha).elim (fun z => .inr (by rw [z]; exact hDl)) .inl), fun z => S1.ok Dl z hDl, fun z => nDl Dl z rfl, upd_same, ⟨rfl, rfl⟩, hd, rfl, Nat.le_refl _, rfl,
      fun j hj hl => wipeD_un vs ρ j hj (by rw [wipeD_len] at hl; exact hl)⟩
  · rintro i m H ⟨rfl, hi, W2, acc, done, rest, ρ2, μ2, F2, rfl, S2, mv2, hf, nd2, hacc, hrl, hrest, hout, hdl, hdd, hun⟩
    have lt2 := mv2.lt Sw.own
    by_cases hlt : i < ds.length
    · refine .inr ⟨itd.go i W2 lt2 hlt, ?_⟩
      have ed : ds.drop i = ds[i] :: ds.drop (i + 1) := List.drop_eq_getElem_cons hlt
      rw [ed] at hrest
      obtain ⟨ρ', e2, hrest⟩ := bind_some (show (g ds[i] ρ2).bind _ = some (rest, ρe, μe) from hrest)
      obtain ⟨b, e3, hrest⟩ := bind_some hrest
      refine ⟨fun H' => i + 1 ≤ ds.length ∧ ∃ (W2 : Wd) (acc : List V) (done rest ρ2 μ2 : List D) (F2 : List Addr), W2.H = H' ∧ Sta K W2 (wipe σ vs) ρ2 μ2 F2 ∧ Mv W1 W2 Fw (Dl :: F2) ∧ ¬ W2.Fr Dl ∧ Dl ∉ F2 ∧ W2.H Dl = some (.lst acc) ∧ RL K W2 done acc [] ∧
          lcX g t f vs ρ2 μ2 (ds.drop (i + 1)) = some (rest, ρe, μe) ∧ out = done ++ rest ∧ done.length ≤ i + 1 ∧ dataL done = true ∧ (∀ j ∈ vs, j < ρ2.length → ρ2[j]? = some .un),
        fun H' n => ⟨ds.length - (i + 1), by omega, rfl, n⟩, fun x H' hy => ?_⟩
      obtain ⟨W3, d, hW3, hd3, x3, r3⟩ := itd.yl i W2 x H' lt2 S2.ok hlt hy
      subst hW3
      rw [List.getElem?_eq_getElem hlt] at hd3
      cases hd3
      have S3 := S2.ext x3
      have own2 : Own W2 Dl := ⟨hf, .inl ⟨acc, hacc⟩⟩
      -- what is known of the list, behind a step
      have by_ : ∀ {W5 : Wd} {F5 : List Addr}, Mv W2 W5 F2 F5 → W5.H Dl = some (.lst acc) ∧ ¬ W5.Fr Dl ∧ Dl ∉ F5 := fun {W5 F5} mv => by
        refine ⟨mv.keep _ _ hacc nd2, fun z => ?_, fun z => ?_⟩
        · rcases mv.nf Dl z with w | w | w
          · exact hf w
          · exact own_some own2 w
          · exact nd2 w
        · rcases mv.own Dl z with w | w
          · exact nd2 w
          · exact own_some own2 w
      refine ⟨W3, ρ2, μ2, F2, ds[i], ρ', rfl, S3, r3, e2, fun σ' F' S' sub' hw => ⟨hw.trans (wipe_idem vs σ), ?_⟩⟩
      have mv3 : Mv W2 W3 F2 F' := x3.mv sub'
      refine ⟨W3, ρ', μ2, F', b, rfl, S', e3, fun W4 x4 => ?_⟩
      have mv4 : Mv W2 W4 F2 F' := mv3.trans x4.mvr
      have S4 := S'.ext x4
      have hw2 : wipe σ' vs = wipe σ vs := hw.trans (wipe_idem vs σ)
      cases b with
      | true =>
        rw [if_pos rfl] at hrest
        show (if true = true then _ else _)
        rw [if_pos rfl]
        obtain ⟨o, e4, hrest⟩ := bind_some hrest
        cases o with
        | ex c fs ρ4 μ4 => cases hrest
        | ok y ρ4 μ4 =>
          have hrest2 : (if data y = true then (lcX g t f vs (wipeD ρ4 vs) μ4 (ds.drop (i + 1))).map fun r => (y :: r.1, r.2) else none) = some (rest, ρe, μe) := hrest
          by_cases hdy : data y = true
          case neg => rw [if_neg hdy] at hrest2; cases hrest2
          rw [if_pos hdy] at hrest2
          obtain ⟨⟨rest', ρe', μe'⟩, e5, z⟩ := map_some hrest2
          injection z with z1 z
          injection z with z2 z3
          subst z2
          subst z3
          refine ⟨W4, ρ', μ2, F', _, rfl, S4, e4, fun v W5 G F5 r5 S5 nd5 own5 mv5 => ?_⟩
          have zG := R_data y hdy r5
          subst zG
          have mv25 : Mv W2 W5 F2 F5 := mv4.trans mv5
          obtain ⟨hacc5, hf5, nf5⟩ := by_ mv25
          have la : acc.length = done.length := RL_len hrl
          have lt25 := mv25.lt S2.own
          have hrl5 : RL K W5 done acc [] := RL_lt lt25 done hrl
          have ltu : Lt W5 ⟨upd W5.H Dl (.lst (acc ++ [v])), W5.Fr, W5.m⟩ := Lt.upd_lst hacc5 hf5
          obtain ⟨F6, S6, sub6⟩ := Sta.wipeS vs S5
          rw [hw2] at S6
          have nd6 : Dl ∉ F6 := fun z => nf5 (sub6 Dl z)
          have off : ∀ a ∈ F6, upd W5.H Dl (.lst (acc ++ [v])) a = W5.H a := fun a ha => upd_ne fun z => nd6 (z ▸ ha)
          have S7 : Sta K ⟨upd W5.H Dl (.lst (acc ++ [v])), W5.Fr, W5.m⟩ (wipe σ vs) (wipeD ρ4 vs) μ4 F6 := by
            obtain ⟨⟨A, B, h1, h2, h3⟩, n, w, ok⟩ := S6
            subst h3
            refine ⟨⟨A, B, RS_keep ltu (fun b hb => off b (List.mem_append_left _ hb)) h1, RL_keep ltu _ (fun b hb => off b (List.mem_append_right _ hb)) h2, rfl⟩, n, fun a ha => ?_, fun a h => ?_⟩
            · obtain ⟨w1, w2⟩ := w a ha
              refine ⟨w1, ?_⟩
              show (∃ xs, upd W5.H Dl _ a = _) ∨ ∃ C dx fs, upd W5.H Dl _ a = _
              rw [off a ha]
              exact w2
            · show upd W5.H Dl _ a ≠ none
              by_cases ea : a = Dl
              · rw [ea, upd_same]
                exact fun z => nomatch z
              · rw [upd_ne ea]
                exact ok a h
          have mv7 : Mv W1 ⟨upd W5.H Dl (.lst (acc ++ [v])), W5.Fr, W5.m⟩ Fw (Dl :: F6) := by
            have m1 : Mv W1 W5 Fw (Dl :: F5) := mv2.trans (mv25.by [Dl])
            refine ⟨fun a o h n => ?_, m1.fr, m1.nf, fun a ha => ?_, m1.m⟩
            · show upd W5.H Dl _ a = _
              rw [upd_ne (ne_of_none h hDl)]
              exact m1.keep a o h n
            · rcases List.mem_cons.mp ha with z | z
              · exact .inr (by rw [z]; exact hDl)
              · exact m1.own a (List.mem_cons_of_mem _ (sub6 a z))
          refine ⟨acc, hacc5, lim_lt (by omega), by omega, ⟨upd W5.H Dl (.lst (acc ++ [v])), W5.Fr, W5.m⟩, acc ++ [v], done ++ [y], rest', wipeD ρ4 vs, μ4, F6, rfl, S7, mv7, hf5, nd6, upd_same, ?_, e5, ?_, ?_, ?_, fun j hj hl => wipeD_un vs ρ4 j hj (by rw [wipeD_len] at hl; exact hl)⟩
          · exact RL_app (G := []) (RL_lt ltu done hrl5) ⟨v, [], [], [], rfl, R_lt ltu y r5, ⟨rfl, rfl⟩, rfl⟩
          · rw [hout, ← z1, List.append_assoc]
            rfl
          · rw [List.length_append]
            show done.length + 1 ≤ i + 1
            omega
          · rw [dataL_all] at hdd ⊢
            rw [List.all_append, hdd]
            show (data y && true) = true
            rw [hdy]
            rfl
      | false =>
        rw [if_neg Bool.false_ne_true] at hrest
        show (if false = true then _ else _)
        rw [if_neg Bool.false_ne_true]
        obtain ⟨hacc4, hf4, nf4⟩ := by_ mv4
        obtain ⟨F6, S6, sub6⟩ := Sta.wipeS vs S4
        rw [hw2] at S6
        refine ⟨by omega, W4, acc, done, rest, wipeD ρ' vs, μ2, F6, rfl, S6, ?_, hf4, fun z => nf4 (sub6 Dl z), hacc4, RL_lt (mv4.lt S2.own) done hrl, hrest, hout, by omega, hdd, fun j hj hl => wipeD_un vs ρ' j hj (by rw [wipeD_len] at hl; exact hl)⟩
        exact (mv2.trans (mv4.by [Dl])).sub (fun _ h => h) fun a ha => by
          rcases List.mem_cons.mp ha with z | z
          · rw [z]; exact List.mem_append_left _ (List.mem_cons_self ..)
          · exact List.mem_append_right _ (sub6 a z)
    · refine .inl ⟨itd.st i W2 lt2 (by omega), ?_⟩
      have e : ds.drop i = [] := List.drop_eq_nil_of_le (by omega)
      rw [e] at hrest
      cases hrest
      rw [List.append_nil] at hout
      subst hout
      -- the list stands still from here
      have ltf : Lt W2 ⟨W2.H, fun a => W2.Fr a ∨ a = Dl, W2.m⟩ := ⟨fun _ _ h => h, fun _ _ h => ⟨h.1, .inl h.2⟩, fun _ _ _ _ h h' => ⟨h, .inl h'⟩, fun _ _ h => h⟩
      have Sf : Sta K ⟨W2.H, fun a => W2.Fr a ∨ a = Dl, W2.m⟩ σ ρe μe F2 := by
        have hlen := S2.len
        obtain ⟨⟨A, B, h1, h2, h3⟩, n, w, ok⟩ := S2
        subst h3
        refine ⟨⟨A, B, RS_other (RS_keep ltf (fun _ _ => rfl) h1) (wipe_length ..) (fun j => ?_), RL_keep ltf _ (fun _ _ => rfl) h2, rfl⟩, n, fun a ha => ⟨fun z => z.elim (w a ha).1 fun z => nd2 (z ▸ ha), (w a ha).2⟩, fun a h => ?_⟩
        · by_cases hj : j ∈ vs
          · by_cases hl : j < ρe.length
            · exact .inl (hun j hj hl)
            · refine .inr ?_
              have l1 : (wipe σ vs).length ≤ j := by omega
              have l2 : σ.length ≤ j := by rw [wipe_length] at l1; exact l1
              rw [List.getElem?_eq_none l1, List.getElem?_eq_none l2]
          · exact .inr (wipe_other hj)
        · rcases h with h | h
          · exact ok a h
          · show W2.H a ≠ none
            rw [h, hacc]
            exact fun z => nomatch z
      have mvf : Mv W1 ⟨W2.H, fun a => W2.Fr a ∨ a = Dl, W2.m⟩ Fw F2 := by
        refine ⟨mv2.keep, fun a h => .inl (mv2.fr a h), fun a h => ?_, fun a ha => mv2.own a (List.mem_cons_of_mem _ ha), mv2.m⟩
        rcases h with h | h
        · exact mv2.nf a h
        · exact .inr (.inl (by rw [h]; exact hDl))
      exact q (.ref Dl) ⟨W2.H, fun a => W2.Fr a ∨ a = Dl, W2.m⟩ [] F2 ⟨Dl, acc, rfl, .inl ⟨.inl hacc, .inr rfl⟩, RL_lt ltf _ hrl, rfl⟩ Sf Sf.nd (fun _ h => nomatch h)
        ((x1.mv subw).trans mvf)
theorem px_lc (hc : X.calm = true) (hN : X.N.Nodup) (hi : PIF X tg iter it) (ok : BlkOk X.N X.env.scope scope own)
    (hg : ∀ (s : Shared) (H : Hp) (C : Addr) (cl : List (Str × Addr)) (fp : List Addr), PGD (X.blk s H scope (compEnvC scope cl C X.env) fp) tg (own.map (·.2)) g)
    (ht : ∀ (s : Shared) (H : Hp) (C : Addr) (cl : List (Str × Addr)) (fp : List Addr), PTsB (X.blk s H scope (compEnvC scope cl C X.env) fp) ifs t)
    (he : ∀ (s : Shared) (H : Hp) (C : Addr) (cl : List (Str × Addr)) (fp : List Addr), PX (X.blk s H scope (compEnvC scope cl C X.env) fp) noW elt f)
    (hs : ∀ x, foldedSetIterable iter X.env x = pure x := by intro _; rfl) : PX X Wx (.ListComp elt [⟨tg, iter, ifs, 0⟩] scope pos) (xLc it g (own.map (·.2)) t f) := by
  obtain ⟨wi, p0, k0⟩ := hi
  refine ⟨_, pe_lc (g := gTv X.K (own.map (·.2)) g) (tt := tBv X.K t) (te := tXv X.K noW f) hc hN p0 ok (fun s H C cl fp => (hg s H C cl fp).can) (fun s H C cl fp => ht s H C cl fp) (fun s H C cl fp => (he s H C cl fp).can) hs, fun σ W ρ μ F S o ho Q hQ => ?_⟩
  exact lcx_run k0 σ W ρ μ F S o ho Q hQ
end
/-! ### reckoning -/
section
variable {it : FA} {g : D → List D → Option (List D)} {vs : List Nat} {t : FB} {f : FX} {x0 : D} {ρ μ ds : List D} {d : D}
def xlcE : List D × List D × List D → EO
  | (a, b, c) => .ok (.lst a) b c
def xlcK (g : D → List D → Option (List D)) (t : FB) (f : FX) (vs : List Nat) (ρ μ : List D) (o : Option (List D)) : Option EO := o.bind fun ds => if ds.length ≤ LIM then (lcX g t f vs ρ μ ds).map xlcE else none
theorem xLc_k : xLc it g vs t f (x0 :: ρ) μ = xlcK g t f vs (wipeD (x0 :: ρ) vs) μ (it (x0 :: ρ) μ) := rfl
theorem xlcK_s (h : ds.length ≤ 1000000) : xlcK g t f vs ρ μ (some ds) = (lcX g t f vs ρ μ ds).map xlcE := if_pos (lk h)
theorem xlcE_k {a b c : List D} : xlcE (a, b, c) = .ok (.lst a) b c := rfl
def lcXt (g : D → List D → Option (List D)) (t : FB) (f : FX) (vs : List Nat) (ds : List D) (ρ1 μ : List D) (b : Bool) : Option (List D × List D × List D) :=
  if b = true then (f ρ1 μ).bind fun o => match o with
      | .ok y ρ2 μ2 => if data y = true then (lcX g t f vs (wipeD ρ2 vs) μ2 ds).map fun r => (y :: r.1, r.2) else none
      | .ex _ _ _ _ => none
    else lcX g t f vs (wipeD ρ1 vs) μ ds
theorem lcX_cons : lcX g t f vs ρ μ (d :: ds) = (g d ρ).bind fun ρ1 => (t ρ1 μ).bind fun b => lcXt g t f vs ds ρ1 μ b := rfl
def kset20 := And.intro @xLc_k <| And.intro @xlcK_s @xlcE_k
end
end Fw
/-! # a call whose first argument is a new instance that nobody keeps -/
namespace Fw
open PySem PySem.Spec PyProof.Rows L2
open Evl (Ex)
def xRunT (n : Nat) (dd : List D) (run : RX) (g : FX) (k : FA) : FX := fun ρ μ => (g ρ μ).bind fun o => match o with
  | .ok t ρ1 μ1 => (k ρ1 μ1).bind fun as => if flL as = true ∧ (t :: (as ++ dd)).length = n then (run (t :: (as ++ dd)) μ1).bind (xPut fun ys => (ys.head?).map fun _ => ρ1) else none
  | .ex c fs ρ1 μ1 => some (.ex c fs ρ1 μ1)
section
variable {X : Cx} {Wx : WX} {e : Expr} {es : List Expr} {g : FX} {p pos : Pos} {kq : FA} {x : Str} {k n : Nat} {dd : List D} {run : RX}
theorem px_callT (O : OkX X.prog X.w X.K X.mg X.base x k n dd run) (hr : Room k X.A) (tk : L2N.Takes X Wx) (hp : PX X Wx e g) (ha : PAQ X es kq) (hg : Gl X x := by rfl) (hdb : (x == ("__debug__" : Str)) = false := by decide)
    (he : starEach (e :: es) X.env = (false, eval e X.env) :: starEach es X.env := by rfl) (hpl : (backTo pos (starEach es X.env)).any (·.1) = false := by rfl) : PX X Wx (.Call (.Name x p) (e :: es) [] pos) (xRunT n dd run g kq) := by
  obtain ⟨f, fd, ps, dvs, us, hF, hb, hv, hdd, hm, hk⟩ := O
  obtain ⟨te, pe, k0⟩ := hp
  obtain ⟨t, pt, k1⟩ := ha
  refine ⟨_, pe_callSD hF hr hg hm hk hb hv (fun σ => L2N.passAt tk σ) (pa_cons pe pt he) hdb he hpl, fun σ W ρ μ F S o ho Q hQ => ?_⟩
  obtain ⟨o1, e1, ho⟩ := bind_some ho
  refine k0 σ W ρ μ F S o1 e1 _ ?_
  cases o1 with
  | ok t0 ρ1 μ1 =>
    intro v W1 G F1 r S1 nd own mv
    obtain ⟨as, e3, ho2⟩ := bind_some (show (kq ρ1 μ1).bind (fun as => if flL as = true ∧ (t0 :: (as ++ dd)).length = n then (run (t0 :: (as ++ dd)) μ1).bind (xPut fun ys => (ys.head?).map fun _ => ρ1) else none) = some o from ho)
    by_cases hl : flL as = true ∧ (t0 :: (as ++ dd)).length = n
    case neg => rw [if_neg hl] at ho2; cases ho2
    rw [if_pos hl] at ho2
    obtain ⟨o2, e4, ho2⟩ := bind_some ho2
    refine k1 σ W1 ρ1 μ1 F1 S1 as e3 _ fun vs W2 G2 x2 ra => ?_
    have z := RL_fl hl.1 ra
    subst z
    have Sf := sta_cons (o := some v) (R1_of (R_ext x2 _ r)) (S1.ext x2) nd fun b hb => (own b hb).ext x2
    have fo2 := (foc_front Sf).trans fun Fc Sc => foc_vals Sc (RL_app ra (hdd W2))
    obtain ⟨t', ht'⟩ := front_put ho2
    exact spX_of (Wx := fun cls dx _ H => Wx cls dx σ H) (vs := v :: (vs ++ dvs)) fo2 hl.2 e4 ht' (goes_drop hQ (mv.trans x2.mvr))
  | ex c fs ρ1 μ1 =>
    cases ho
    exact hQ
end
/-! ### reckoning -/
def rtK (n : Nat) (dd : List D) (run : RX) (k : FA) : EO → Option EO
  | .ok t ρ1 μ1 => (k ρ1 μ1).bind fun as => if flL as = true ∧ (t :: (as ++ dd)).length = n then (run (t :: (as ++ dd)) μ1).bind (xPut fun ys => (ys.head?).map fun _ => ρ1) else none
  | .ex c fs ρ1 μ1 => some (.ex c fs ρ1 μ1)
theorem xRunT_k (n : Nat) (dd : List D) (run : RX) (g : FX) (k : FA) (x0 : D) (ρ μ : List D) : xRunT n dd run g k (x0 :: ρ) μ = (g (x0 :: ρ) μ).bind (rtK n dd run k) := rfl
def rtP (ρ : List D) : EO → Option EO := xPut fun ys => (ys.head?).map fun _ => ρ
def rtG (n : Nat) (dd : List D) (run : RX) (t : D) (ρ μ as : List D) : Option EO := if flL as = true ∧ (t :: (as ++ dd)).length = n then (run (t :: (as ++ dd)) μ).bind (rtP ρ) else none
theorem rtK_ok (n : Nat) (dd : List D) (run : RX) (k : FA) (t : D) (ρ μ : List D) : rtK n dd run k (.ok t ρ μ) = (k ρ μ).bind (rtG n dd run t ρ μ) := rfl
theorem rtK_ex (n : Nat) (dd : List D) (run : RX) (k : FA) (c : Str) (fs : List (Str × D)) (ρ μ : List D) : rtK n dd run k (.ex c fs ρ μ) = some (.ex c fs ρ μ) := rfl
theorem rtG_k {n : Nat} {dd : List D} {run : RX} {t : D} {ρ μ as : List D} (h : dataL as = true) : rtG n dd run t ρ μ as = if as.length + dd.length + 1 = n then (run (t :: (as ++ dd)) μ).bind (rtP ρ) else none := by
  have h1 : flL as = true := by
    induction as with
    | nil => rfl
    | cons d ds ih =>
      obtain ⟨qa, qb⟩ := Bool.and_eq_true_iff.mp (show (data d && dataL ds) = true from h)
      show (fl d && flL ds) = true
      rw [ih qb, Bool.and_true]
      cases d <;> first
        | exact qa
        | cases qa
  have e : (t :: (as ++ dd)).length = as.length + dd.length + 1 := by rw [List.length_cons, List.length_append]
  unfold rtG
  rw [e]
  by_cases z : as.length + dd.length + 1 = n
  · rw [if_pos ⟨h1, z⟩, if_pos z]
  · rw [if_neg fun q => z q.2, if_neg z]
theorem rtP_ok (ρ : List D) (d y : D) (ys μ : List D) : rtP ρ (.ok d (y :: ys) μ) = some (.ok d ρ μ) := rfl
theorem rtP_ex (ρ : List D) (c : Str) (fs : List (Str × D)) (y : D) (ys μ : List D) : rtP ρ (.ex c fs (y :: ys) μ) = some (.ex c fs ρ μ) := rfl
def kset21 := And.intro @xRunT_k <| And.intro @rtK_ok <| And.intro @rtK_ex <| And.intro @rtG_k <| And.intro @rtP_ok @rtP_ex
end Fw
/-! # suites that hold an exception: expressions, tests, statements -/
namespace Fw
open PySem PySem.Spec PyProof.Rows L2
open Evl (Ex)
abbrev FJA := Str → List (Str × D) → FA
abbrev FJB := Str → List (Str × D) → FB
abbrev FJS := Str → List (Str × D) → FS
/-- what a suite knows of the exception in slot i -/
structure Hs (K : PySem.W.Frag) (i : Nat) (a : Addr) (d : Option Addr) (fs : List (Str × D)) (σ : L2.St) (W : Wd) : Prop where
  ex : ExAt K W fs d
  at_ : σ[i]? = some (some (.ref a))
theorem ExAt.ext {K : PySem.W.Frag} {W W' : Wd} {fs : List (Str × D)} {d : Option Addr} (e : Ext W W') (h : ExAt K W fs d) : ExAt K W' fs d := by
  rcases h with h | ⟨x, dd, a, v, h1, h2, h3, h4⟩
  · exact .inl h
  · exact .inr ⟨x, dd, a, v, h1, h2, e.ex _ _ h3, R_ext e dd h4⟩
def PAJ (X : Cx) (i : Nat) (es : List Expr) (q : FJA) : Prop :=
  ∃ te : Addr → Value → Option Addr → TA, (∀ (a : Addr) (oe : Obj) (cls : Value) (d : Option Addr) (pn : List (Addr × Obj)), L2N.Zn cls d oe → (∃ vs, oe.data = .fields vs) → PA (X.suite a ((a, oe) :: pn)) es (te a cls d)) ∧
    ∀ (a : Addr) (d : Option Addr) (c : Str) (fs : List (Str × D)) (σ : L2.St) (W : Wd) (ρ μ : List D) (F : List Addr), ExAt X.K W fs d → σ[i]? = some (some (.ref a)) → Sta X.K W σ ρ μ F → ∀ r, q c fs ρ μ = some r → ∀ Q : List V → Hp → Prop, (∀ vs W' G, Ext W W' → RL X.K W' r vs G → Q vs W'.H) → te a (.ref (He.ga X.K c)) d σ W.H Q
def PTJ (X : Cx) (i : Nat) (e : Expr) (q : FJB) : Prop :=
  ∃ te : Addr → Value → Option Addr → TT, (∀ (a : Addr) (oe : Obj) (cls : Value) (d : Option Addr) (pn : List (Addr × Obj)), L2N.Zn cls d oe → (∃ vs, oe.data = .fields vs) → PT (X.suite a ((a, oe) :: pn)) e (te a cls d)) ∧
    ∀ (a : Addr) (d : Option Addr) (c : Str) (fs : List (Str × D)) (σ : L2.St) (W : Wd) (ρ μ : List D) (F : List Addr), ExAt X.K W fs d → σ[i]? = some (some (.ref a)) → Sta X.K W σ ρ μ F → ∀ r, q c fs ρ μ = some r → ∀ Q : Bool → Hp → Prop, (∀ W', Ext W W' → Q r W'.H) → te a (.ref (He.ga X.K c)) d σ W.H Q
def PWJ (X : Cx) (i : Nat) (e : Expr) (q : FJB) : Prop :=
  ∃ te : Addr → Value → Option Addr → TT, (∀ (a : Addr) (oe : Obj) (cls : Value) (d : Option Addr) (pn : List (Addr × Obj)), L2N.Zn cls d oe → (∃ vs, oe.data = .fields vs) → PW (X.suite a ((a, oe) :: pn)) e (te a cls d)) ∧
    ∀ (a : Addr) (d : Option Addr) (c : Str) (fs : List (Str × D)) (σ : L2.St) (W : Wd) (ρ μ : List D) (F : List Addr), ExAt X.K W fs d → σ[i]? = some (some (.ref a)) → Sta X.K W σ ρ μ F → ∀ r, q c fs ρ μ = some r → ∀ Q : Bool → Hp → Prop, (∀ W', Ext W W' → Q r W'.H) → te a (.ref (He.ga X.K c)) d σ W.H Q
def PNJ (X : Cx) (i : Nat) (e : Expr) (q : FJA) : Prop :=
  ∃ te : Addr → Value → Option Addr → TE, (∀ (a : Addr) (oe : Obj) (cls : Value) (d : Option Addr) (pn : List (Addr × Obj)), L2N.Zn cls d oe → (∃ vs, oe.data = .fields vs) → PE (X.suite a ((a, oe) :: pn)) e (te a cls d)) ∧
    ∀ (a : Addr) (d : Option Addr) (c : Str) (fs : List (Str × D)) (σ : L2.St) (W : Wd) (ρ μ : List D) (F : List Addr), ExAt X.K W fs d → σ[i]? = some (some (.ref a)) → Sta X.K W σ ρ μ F → ∀ r, q c fs ρ μ = some r → ∀ Q : VK, (∀ p W', NewL X.K W W' r p → Q (.ref p) W'.H) → te a (.ref (He.ga X.K c)) d σ W.H Q
def PSU1 (X : Cx) (ob : List Nat) (i : Nat) (st : Stmt) (s : FJS) : Prop :=
  ∃ ts : Addr → Value → Option Addr → TS, (∀ (a : Addr) (oe : Obj) (cls : Value) (d : Option Addr) (pn : List (Addr × Obj)), L2N.Zn cls d oe → (∃ vs, oe.data = .fields vs) → PS (X.suite a ((a, oe) :: pn)) st (ts a cls d)) ∧
    ∀ (a : Addr) (d : Option Addr) (c : Str) (fs : List (Str × D)) (E : Ends) (σ : L2.St) (W : Wd) (ρ μ : List D) (F : List Addr), ExAt X.K W fs d → σ[i]? = some (some (.ref a)) → Sta X.K W σ ρ μ F → ∀ o, s c fs ρ μ = some o → notEx o = true → Goes X.K ob (fun _ _ _ _ => False) E σ W F o → ts a (.ref (He.ga X.K c)) d E σ W.H
/-- a path's own form -/
def tPth (K : PySem.W.Frag) (i : Nat) (q : List Str) : TE := fun σ H Q => ∃ u v : V, σ[i]? = some (some u) ∧ rdp K H u q v ∧ Q v H
theorem PPath.can {X : Cx} {e : Expr} {i : Nat} {p : List Str} (h : PPath X e i p) : PE X e (tPth X.K i p) := by
  obtain ⟨te, pe, k⟩ := h
  refine ⟨fun pins s σ H Q I hh => ?_⟩
  obtain ⟨u, v, h1, h2, h3⟩ := hh
  exact pe.run pins s σ H Q I (k σ H Q u v h1 h2 h3)
theorem Goes.more {K : PySem.W.Frag} {ob : List Nat} {i : Nat} {Wx : WX} {E : Ends} {σ : L2.St} {W : Wd} {F : List Addr} {o : SO} (h : Goes K ob Wx E σ W F o) : Goes K (i :: ob) Wx E σ W F o := by
  have kp : ∀ {σ' : L2.St}, Kept (i :: ob) σ σ' → Kept ob σ σ' := fun q j hj => q j (List.mem_cons_of_mem _ hj)
  cases o with
  | nx ρ μ => exact fun σ' W' F' S m k => h σ' W' F' S m (kp k)
  | ct ρ μ => exact fun σ' W' F' S m k => h σ' W' F' S m (kp k)
  | bk ρ μ => exact fun σ' W' F' S m k => h σ' W' F' S m (kp k)
  | rt d ρ μ => exact fun v σ' W' G F' r S nd own m k => h v σ' W' G F' r S nd own m (kp k)
  | ex c fs ρ μ => exact fun dx σ' W' F' r S m k => h dx σ' W' F' r S m (kp k)
theorem ExAt.mv {K : PySem.W.Frag} {W W' : Wd} {fs : List (Str × D)} {d : Option Addr} {σ : L2.St} {ρ μ : List D} {F F' : List Addr} (S : Sta K W σ ρ μ F) (m : Mv W W' F F') (h : ExAt K W fs d) : ExAt K W' fs d := by
  rcases h with h | ⟨x, dd, a, v, h1, h2, h3, h4⟩
  · exact .inl h
  · refine .inr ⟨x, dd, a, v, h1, h2, m.keep a _ h3 fun z => ?_, R_lt (m.lt S.own) dd h4⟩
    obtain ⟨_, ⟨xs, w⟩ | ⟨C, dx, gs, w⟩⟩ := S.own a z <;> rw [h3] at w <;> cases w
section
variable {X : Cx} {ob : List Nat} {i j : Nat} {e e2 : Expr} {es : List Expr} {f : FQ} {q : FJ} {k : FJA} {t u : FJB} {n x fld : Str} {pos pos' : Pos} {st : Stmt} {ss ss' rest : List Stmt} {s s2 : FJS}
theorem paj_nil : PAJ X i [] (fun _ _ => aNil) := ⟨fun _ _ _ => tNil, fun a oe _ _ pn _ _ => pa_nil, fun a d c fs σ W ρ μ F _ _ S r hr Q q => by
  cases hr
  exact q [] W [] (Ext.refl S.ok) ⟨rfl, rfl⟩⟩
theorem paj_cons (ha : PJ X i e q) (hr : PAJ X i es k) (hs : starEach (e :: es) X.env = (false, eval e X.env) :: starEach es X.env := by rfl) : PAJ X i (e :: es) (fun c fs => aCons (q c fs) (k c fs)) := by
  obtain ⟨t1, p1, k1⟩ := ha
  obtain ⟨t2, p2, k2⟩ := hr
  refine ⟨fun a cls d => tCons (t1 a cls d) (t2 a cls d), fun a oe cls d pn hz hf => pa_cons (X := X.suite a ((a, oe) :: pn)) (p1 a oe cls d pn hz hf) (p2 a oe cls d pn hz hf) hs, fun a d c fs σ W ρ μ F hx hg S ds hd Q qq => ?_⟩
  obtain ⟨d1, e1, hd⟩ := bind_some hd
  cases e2 : k c fs ρ μ with
  | none => rw [e2] at hd; cases hd
  | some dr =>
    rw [e2] at hd
    cases hd
    refine k1 a d c fs σ W ρ μ F hx hg S d1 e1 _ fun v W1 G1 x1 r1 => ?_
    refine k2 a d c fs σ W1 ρ μ F (hx.ext x1) hg (S.ext x1) dr e2 _ fun vs W2 G2 x2 r2 => ?_
    exact qq _ W2 _ (x1.trans x2) ⟨v, vs, G1, G2, rfl, R_ext x2 d1 r1, r2, rfl⟩
theorem pj_tup {x1} (h : PAJ X i es k) : PJ X i (.Tuple es x1 pos) (fun c fs => qTup (k c fs)) := by
  obtain ⟨t1, p1, k1⟩ := h
  refine ⟨fun a cls d => _, fun a oe cls d pn hz hf => pe_tup (p1 a oe cls d pn hz hf), fun a d c fs σ W ρ μ F hx hg S r hr Q q => ?_⟩
  obtain ⟨ds, e1, hd⟩ := bind_some hr
  by_cases hl : ds.length ≤ 100
  · rw [if_pos hl] at hd
    cases hd
    refine k1 a d c fs σ W ρ μ F hx hg S ds e1 _ fun vs W1 G1 x1 r1 => ⟨by rw [RL_len r1]; exact lim_ok (Nat.le_trans hl (by decide)), fun p hp => ?_⟩
    exact q _ (W1.put p (.tup vs)) G1 (x1.trans (Ext.put x1.ok hp)) (R_newT x1.ok hp r1)
  · rw [if_neg hl] at hd
    cases hd
theorem pnj_lst (h : PAJ X i es k) : PNJ X i (.List es pos) (fun c fs => aData (k c fs)) := by
  obtain ⟨t1, p1, k1⟩ := h
  refine ⟨fun a cls d => _, fun a oe cls d pn hz hf => pe_lst (p1 a oe cls d pn hz hf), fun a d c fs σ W ρ μ F hx hg S r hr Q q => ?_⟩
  obtain ⟨ds, e1, hd⟩ := bind_some hr
  by_cases hl : dataL ds = true ∧ ds.length ≤ 100
  · rw [if_pos hl] at hd
    cases hd
    refine k1 a d c fs σ W ρ μ F hx hg S _ e1 _ fun vs W1 G1 x1 r1 => ⟨by rw [RL_len r1]; exact lim_ok (Nat.le_trans hl.2 (by decide)), fun p hp => ?_⟩
    have z := RL_data _ hl.1 r1
    subst z
    exact q p (W1.put p (.lst vs)) ⟨x1.trans (Ext.put x1.ok hp), Evl.fresh_back x1.ex hp, fun z => x1.ok p z hp, vs, upd_same, RL_ext (Ext.put x1.ok hp) _ r1⟩
  · rw [if_neg hl] at hd
    cases hd
/-! tests -/
theorem ptj_val (h : PJ X i e q) (he : ∀ whole, isTrue e X.env whole = (do let v ← whole; standAt e.pos; holding [v] (truthy v)) := by intro _; rfl) : PTJ X i e (fun c fs => qB (q c fs)) := by
  obtain ⟨ta, pa, h1⟩ := h
  refine ⟨fun a cls d => _, fun a oe cls d pn hz hf => pt_val (X := X.suite a ((a, oe) :: pn)) (pa a oe cls d pn hz hf) he, fun a d c fs σ W ρ μ F hx hg S b hb Q q => ?_⟩
  refine h1 a d c fs σ W ρ μ F hx hg S _ (qB_some hb) _ fun u W1 G1 x1 r1 => ?_
  exact ⟨b, r1.1, q W1 x1⟩
theorem ptj_q {f : FB} (h : ∀ (a : Addr) (oe : Obj) (pn : List (Addr × Obj)), PB (X.suite a ((a, oe) :: pn)) e f) : PTJ X i e (fun _ _ => f) :=
  ⟨fun _ _ _ => tBv X.K f, fun a oe _ _ pn _ _ => (h a oe pn).can, fun a d c fs σ W ρ μ F _ _ S b hb Q k => ⟨W, ρ, μ, F, b, rfl, S, hb, k⟩⟩
theorem PWJ.pt (h : PWJ X i e t) : PTJ X i e t := by
  obtain ⟨tt, p, k⟩ := h
  exact ⟨tt, fun a oe cls d pn hz hf => (p a oe cls d pn hz hf).pt, k⟩
theorem pwj1_and (h : PTJ X i e t) : PWJ X i (.BoolOp .And [e] pos) t := by
  obtain ⟨tt, p, k⟩ := h
  exact ⟨tt, fun a oe cls d pn hz hf => pw_and1 (p a oe cls d pn hz hf), k⟩
theorem pwj1_or (h : PTJ X i e t) : PWJ X i (.BoolOp .Or [e] pos) t := by
  obtain ⟨tt, p, k⟩ := h
  exact ⟨tt, fun a oe cls d pn hz hf => pw_or1 (p a oe cls d pn hz hf), k⟩
theorem pwj_and (ha : PTJ X i e t) (hb : PWJ X i (.BoolOp .And (e2 :: es) pos) u) : PWJ X i (.BoolOp .And (e :: e2 :: es) pos) (fun c fs => bAnd (t c fs) (u c fs)) := by
  obtain ⟨t1, p1, k1⟩ := ha
  obtain ⟨t2, p2, k2⟩ := hb
  refine ⟨fun a cls d => _, fun a oe cls d pn hz hf => pw_and (p1 a oe cls d pn hz hf) (p2 a oe cls d pn hz hf), fun a d c fs σ W ρ μ F hx hg S b hb Q q => ?_⟩
  obtain ⟨x, e1, hb⟩ := bind_some hb
  refine k1 a d c fs σ W ρ μ F hx hg S x e1 _ fun W1 x1 => ?_
  cases x with
  | true =>
    rw [if_pos rfl] at hb ⊢
    exact k2 a d c fs σ W1 ρ μ F (hx.ext x1) hg (S.ext x1) b hb Q fun W2 x2 => q W2 (x1.trans x2)
  | false =>
    rw [if_neg Bool.false_ne_true] at hb ⊢
    cases hb
    exact q W1 x1
theorem pwj_or (ha : PTJ X i e t) (hb : PWJ X i (.BoolOp .Or (e2 :: es) pos) u) : PWJ X i (.BoolOp .Or (e :: e2 :: es) pos) (fun c fs => bOr (t c fs) (u c fs)) := by
  obtain ⟨t1, p1, k1⟩ := ha
  obtain ⟨t2, p2, k2⟩ := hb
  refine ⟨fun a cls d => _, fun a oe cls d pn hz hf => pw_or (p1 a oe cls d pn hz hf) (p2 a oe cls d pn hz hf), fun a d c fs σ W ρ μ F hx hg S b hb Q q => ?_⟩
  obtain ⟨x, e1, hb⟩ := bind_some hb
  refine k1 a d c fs σ W ρ μ F hx hg S x e1 _ fun W1 x1 => ?_
  cases x with
  | true =>
    rw [if_pos rfl] at hb ⊢
    cases hb
    exact q W1 x1
  | false =>
    rw [if_neg Bool.false_ne_true] at hb ⊢
    exact k2 a d c fs σ W1 ρ μ F (hx.ext x1) hg (S.ext x1) b hb Q fun W2 x2 => q W2 (x1.trans x2)
theorem ptj_not (ha : PTJ X i e t) : PTJ X i (.UnaryOp .Not e pos) (fun c fs => bNot (t c fs)) := by
  obtain ⟨t1, p1, k1⟩ := ha
  refine ⟨fun a cls d => _, fun a oe cls d pn hz hf => pt_not (p1 a oe cls d pn hz hf), fun a d c fs σ W ρ μ F hx hg S b hb Q q => ?_⟩
  change bNot (t c fs) ρ μ = some b at hb
  unfold bNot at hb
  cases e : t c fs ρ μ with
  | none => rw [e] at hb; cases hb
  | some x =>
    rw [e] at hb
    have z : (!x) = b := Option.some.inj hb
    subst z
    exact k1 a d c fs σ W ρ μ F hx hg S x e _ fun W1 x1 => q W1 x1
/-! statements -/
theorem psu1_q {f : FS} (h : ∀ (a : Addr) (oe : Obj) (pn : List (Addr × Obj)), PS1 (X.suite a ((a, oe) :: pn)) ob (fun _ _ _ _ => False) st f) : PSU1 X ob i st (fun _ _ => f) := by
  refine ⟨fun _ _ _ => canon X.K ob (fun _ _ _ _ => False) f, fun a oe _ _ pn _ _ => ⟨fun pins s σ H E I hh => ?_⟩, fun a d c fs E σ W ρ μ F _ _ S o ho _ g => ⟨W, ρ, μ, F, o, rfl, S, ho, g⟩⟩
  obtain ⟨W, ρ, μ, F, o, rfl, S, ho, g⟩ := hh
  obtain ⟨ts, p, k⟩ := h a oe pn
  exact p.run pins s σ W.H E I (k E σ W ρ μ F S o ho g)
theorem psu1_set (hN : X.N.Nodup) (hi : X.N[j]? = some x) (hx : Loc X.env.scope x) (he : PJ X i e q) (hs : swapsWith e (some (.Name x pos')) pos.line X.env = pure false := by rfl) (hf : X.fn x = true ∨ X.env.scope.names.lookup x = some .local := by first | exact .inl rfl | exact .inr rfl) (ho : j ∉ ob := by decide) :
    PSU1 X ob i (.Assign [.Name x pos'] e pos) (fun c fs => fSet j (q c fs)) := by
  obtain ⟨te, p, k⟩ := he
  refine ⟨fun a cls d => tAsg (te a cls d) (gName j), fun a oe cls d pn hz hfl => ps_set (X := X.suite a ((a, oe) :: pn)) hN hi hx (p a oe cls d pn hz hfl) hs hf, fun a d c fs E σ W ρ μ F hxx hg S o hh hn h => ?_⟩
  obtain ⟨r, e1, hh⟩ := bind_some hh
  by_cases hd : data r = true
  case neg => rw [if_neg hd] at hh; cases hh
  rw [if_pos hd] at hh
  cases hh
  refine k a d c fs σ W ρ μ F hxx hg S r e1 _ fun v W1 G x1 r1 => ?_
  have z := R_data r hd r1
  subst z
  obtain ⟨F', S', sub⟩ := (S.ext x1).set (i := j) (R1_of r1)
  exact h _ W1 F' S' (x1.mv sub) (Kept.set ho)
theorem psu1_setN (hN : X.N.Nodup) (hi : X.N[j]? = some x) (hx : Loc X.env.scope x) (he : PNJ X i e k) (hs : swapsWith e (some (.Name x pos')) pos.line X.env = pure false := by rfl) (hf : X.fn x = true ∨ X.env.scope.names.lookup x = some .local := by first | exact .inl rfl | exact .inr rfl) (ho : j ∉ ob := by decide) :
    PSU1 X ob i (.Assign [.Name x pos'] e pos) (fun c fs => fSetN j (k c fs)) := by
  obtain ⟨te, p, k1⟩ := he
  refine ⟨fun a cls d => tAsg (te a cls d) (gName j), fun a oe cls d pn hz hfl => ps_set (X := X.suite a ((a, oe) :: pn)) hN hi hx (p a oe cls d pn hz hfl) hs hf, fun a d c fs E σ W ρ μ F hxx hg S o hh hn h => ?_⟩
  obtain ⟨ds, e1, z⟩ := map_some hh
  subst z
  refine k1 a d c fs σ W ρ μ F hxx hg S ds e1 _ fun p W1 n => ?_
  obtain ⟨F', S', m⟩ := S.setN (i := j) n
  exact h _ W1 F' S' m (Kept.set ho)
theorem psu1_ret (he : PJ X i e q) : PSU1 X ob i (.Return (some e) pos) (fun c fs => fRet (q c fs)) := by
  obtain ⟨te, p, k⟩ := he
  refine ⟨fun a cls d => _, fun a oe cls d pn hz hfl => ps_ret (p a oe cls d pn hz hfl), fun a d c fs E σ W ρ μ F hxx hg S o ho hn h => ?_⟩
  obtain ⟨r, e1, ho⟩ := bind_some ho
  by_cases hd : data r = true
  case neg => rw [if_neg hd] at ho; cases ho
  rw [if_pos hd] at ho
  cases ho
  refine k a d c fs σ W ρ μ F hxx hg S r e1 _ fun v W1 G x1 r1 => ?_
  have z := R_data r hd r1
  subst z
  exact h v σ W1 [] F r1 (S.ext x1) S.nd (fun _ hb => nomatch hb) x1.mvr Kept.refl
theorem psu1_if (hc : PTJ X i e t) (ha : PSU X ob i ss s) (hb : PSU X ob i ss' s2) : PSU1 X ob i (.If e ss ss' pos) (fun c fs => fIf (t c fs) (s c fs) (s2 c fs)) := by
  obtain ⟨t0, p0, k0⟩ := hc
  obtain ⟨t1, p1, k1⟩ := ha
  obtain ⟨t2, p2, k2⟩ := hb
  refine ⟨fun a cls d => _, fun a oe cls d pn hz hfl => ps_if (p0 a oe cls d pn hz hfl) (p1 a oe cls d pn hz hfl) (p2 a oe cls d pn hz hfl), fun a d c fs E σ W ρ μ F hxx hg S o ho hn h => ?_⟩
  obtain ⟨b, e1, ho⟩ := bind_some ho
  refine k0 a d c fs σ W ρ μ F hxx hg S b e1 _ fun W1 x1 => ?_
  cases b with
  | true =>
    rw [if_pos rfl] at ho ⊢
    exact k1 a d c fs E σ W1 ρ μ F (hxx.ext x1) hg (S.ext x1) o ho hn (h.after x1.mvr Kept.refl)
  | false =>
    rw [if_neg Bool.false_ne_true] at ho ⊢
    exact k2 a d c fs E σ W1 ρ μ F (hxx.ext x1) hg (S.ext x1) o ho hn (h.after x1.mvr Kept.refl)
theorem psu1_fld {ok : OkT} {ep : Expr} {m : Nat} {pth : List Str} (T : CE X.K ok) (hp : ∀ (a : Addr) (oe : Obj) (pn : List (Addr × Obj)), PPath (X.suite a ((a, oe) :: pn)) ep m pth) (he : PJ X i e q) (hs : swapsWith e (some (.Attribute ep x pos')) pos.line X.env = pure false := by rfl) :
    PSU1 X ob i (.Assign [.Attribute ep x pos'] e pos) (fun c fs => fFldX ok m pth x (xQ (q c fs))) := by
  obtain ⟨te, p, k⟩ := he
  refine ⟨fun a cls d => sFld X.K (tPth X.K m pth) (te a cls d) x, fun a oe cls d pn hz hfl => ps_fld (X := X.suite a ((a, oe) :: pn)) (hp a oe pn).can (p a oe cls d pn hz hfl) hs, fun a d c fs E σ W ρ μ F hxx hg S o ho hn h => ?_⟩
  obtain ⟨o1, e1, ho⟩ := bind_some ho
  obtain ⟨r, e2, e1⟩ := bind_some e1
  by_cases hd : fl r = true
  case neg => rw [if_neg hd] at e1; cases e1
  rw [if_pos hd] at e1
  cases e1
  refine k a d c fs σ W ρ μ F hxx hg S r e2 _ fun v W1 G x1 r1 => ?_
  have z := R_fl hd r1
  subst z
  exact fld_run (te := tPth X.K m pth) T (fun Q u v h1 h2 h3 => ⟨u, v, h1, h2, h3⟩) r1 (S.ext x1) S.nd (fun _ hb => nomatch hb) x1.mvr h ho
/-! lists of statements -/
theorem psu_nil : PSU X ob i [] (fun _ _ => fNext) := ⟨fun _ _ _ => _, fun a oe cls d pn _ _ => pss_nil, fun a d c fs E σ W ρ μ F _ _ S o ho _ h => by
  cases ho
  exact h σ W F S (Ext.refl S.ok).mvr Kept.refl⟩
theorem psu_one (h : PSU1 X ob i st s) : PSU X ob i [st] s := by
  obtain ⟨ts, p, k⟩ := h
  exact ⟨ts, fun a oe cls d pn hz hf => pss_one (p a oe cls d pn hz hf), k⟩
theorem psu_cons (h1 : PSU1 X (i :: ob) i st s) (h2 : PSU X (i :: ob) i rest s2) : PSU X (i :: ob) i (st :: rest) (fun c fs => fSeq (s c fs) (s2 c fs)) := by
  obtain ⟨t1, p1, k1⟩ := h1
  obtain ⟨t2, p2, k2⟩ := h2
  refine ⟨fun a cls d => tSeq (t1 a cls d) (t2 a cls d), fun a oe cls d pn hz hf => pss_cons (p1 a oe cls d pn hz hf) (p2 a oe cls d pn hz hf), fun a d c fs E σ W ρ μ F hxx hg S o ho hn h => ?_⟩
  obtain ⟨o1, e1, ho⟩ := bind_some ho
  refine k1 a d c fs { E with nx := t2 a (.ref (He.ga X.K c)) d E } σ W ρ μ F hxx hg S o1 e1 ?_ ?_
  · cases o1 with
    | ex c fs ρ1 μ1 => cases ho; exact hn
    | _ => rfl
  · cases o1 with
    | nx ρ1 μ1 =>
      exact fun σ1 W1 F1 S1 m1 kp => k2 a d c fs E σ1 W1 ρ1 μ1 F1 (hxx.mv S m1) ((kp i (List.mem_cons_self ..)).trans hg) S1 o ho hn (h.after m1 kp)
    | _ =>
      cases ho
      exact h
theorem psu_less (h : PSU X (i :: ob) i ss s) : PSU X ob i ss s := by
  obtain ⟨ts, p, k⟩ := h
  exact ⟨ts, p, fun a d c fs E σ W ρ μ F hxx hg S o ho hn g => k a d c fs E σ W ρ μ F hxx hg S o ho hn g.more⟩
end
/-! ### reckoning -/
def tryAsK (tab : Str → Option Bool) (i : Nat) (s : FJS) : SO → Option SO
  | .ex c fs ρ1 μ1 => (tab c).bind fun z => if z = true then (if i < ρ1.length then (s c fs (ρ1.set i .un) μ1).bind (unAt i) else none) else some (.ex c fs ρ1 μ1)
  | o => some o
section
variable {tab : Str → Option Bool} {b : FS} {s : FJS} {i : Nat} {x0 d : D} {ρ μ : List D} {c : Str} {fs : List (Str × D)}
theorem fTryAs_k : fTryAs tab i b s (x0 :: ρ) μ = (b (x0 :: ρ) μ).bind (tryAsK tab i s) := rfl
theorem tryAsK_nx : tryAsK tab i s (.nx ρ μ) = some (.nx ρ μ) := rfl
theorem tryAsK_rt : tryAsK tab i s (.rt d ρ μ) = some (.rt d ρ μ) := rfl
theorem tryAsK_ex : tryAsK tab i s (.ex c fs ρ μ) = (tab c).bind fun z => if z = true then (if i < ρ.length then (s c fs (ρ.set i .un) μ).bind (unAt i) else none) else some (.ex c fs ρ μ) := rfl
theorem unAt_nx : unAt i (.nx ρ μ) = some (.nx (ρ.set i .un) μ) := rfl
theorem unAt_rt : unAt i (.rt d ρ μ) = some (.rt d ρ μ) := rfl
theorem jAt_k {ok : Str → Bool} {g fld : Str} (h : ok c = true) (hg : g = fld) : jAt ok fld c [(g, d)] (x0 :: ρ) μ = some d := by
  unfold jAt
  rw [if_pos h]
  exact if_pos hg
theorem jIsi_k : jIsi tab c fs (x0 :: ρ) μ = (tab c).map D.bl := rfl
theorem fRaiseF_k {x : Str} {q : FQ} : fRaiseF c x q (x0 :: ρ) μ = (q (x0 :: ρ) μ).bind fun d => if data d = true then some (.ex c [(x, d)] (x0 :: ρ) μ) else none := rfl
theorem fRaise_k : fRaise c (x0 :: ρ) μ = some (.ex c [] (x0 :: ρ) μ) := rfl
def kset22 := And.intro @fTryAs_k <| And.intro @tryAsK_nx <| And.intro @tryAsK_rt <| And.intro @tryAsK_ex <| And.intro @unAt_nx <| And.intro @unAt_rt <| And.intro @jAt_k <| And.intro @jIsi_k <| And.intro @fRaiseF_k @fRaise_k
end
end Fw
/-! # facts of own exceptions, as truths -/
namespace Fw
open PySem PySem.Spec PyProof.Rows L2
def oxfB (K : PySem.W.Frag) (c x : Str) : Bool := decide (PySem.W.findIn K (.ref (He.ga K c)) "__init__" = some (some (.ref (He.ma K (He.ga K c) "__init__")))) && (decide (PySem.W.typeIn K (.ref (He.ma K (He.ga K c) "__init__")) = some (.type "function")) && (oexB K c && decide (PySem.W.findIn K (.ref (He.ga K c)) x = some none)))
theorem oxfB_ok {K : PySem.W.Frag} {c x : Str} (h : oxfB K c x = true) : PySem.W.findIn K (.ref (He.ga K c)) "__init__" = some (some (.ref (He.ma K (He.ga K c) "__init__"))) ∧ PySem.W.typeIn K (.ref (He.ma K (He.ga K c) "__init__")) = some (.type "function") ∧ OexC K (He.ga K c) ∧ PySem.W.findIn K (.ref (He.ga K c)) x = some none := by
  obtain ⟨b1, h⟩ := Bool.and_eq_true_iff.mp h
  obtain ⟨b2, h⟩ := Bool.and_eq_true_iff.mp h
  obtain ⟨b3, b4⟩ := Bool.and_eq_true_iff.mp h
  exact ⟨of_decide_eq_true b1, of_decide_eq_true b2, oexB_ok b3, of_decide_eq_true b4⟩
def okIn (l : List Str) : Str → Bool := fun c => l.contains c
def atTab (K : PySem.W.Frag) (fld : Str) (l : List Str) : Bool := l.all fun c => xfB K (He.ga K c) && decide (PySem.W.findIn K (.ref (He.ga K c)) fld = some none)
theorem atTab_ok {K : PySem.W.Frag} {fld : Str} {l : List Str} (h : atTab K fld l = true) : ∀ c, okIn l c = true → XfC K (He.ga K c) ∧ PySem.W.findIn K (.ref (He.ga K c)) fld = some none := by
  intro c hc
  have hm : c ∈ l := by
    unfold okIn at hc
    simpa using hc
  have := List.all_eq_true.mp h c hm
  obtain ⟨b1, b2⟩ := Bool.and_eq_true_iff.mp this
  exact ⟨xfB_ok b1, of_decide_eq_true b2⟩
def excTab (K : PySem.W.Frag) (l : List (Str × Bool)) : Bool := allTab (excCB K) l
theorem isTab_ok {K : PySem.W.Frag} {cv : Value} {l : List (Str × Bool)} (h1 : kitTab K cv l = true) (h2 : allTab (excCB K) l = true) : ∀ z b, tabB l z = some b → ExcC K (He.ga K z) ∧ PySem.W.kitOne K (.ref (He.ga K z)) cv = some b :=
  fun z b e => ⟨excCB_ok (allTab_ok h2 z b e), kitTab_ok h1 z b e⟩
/-! ### reckoning: tables by their classes -/
theorem tabB_cons {c c' : Str} {b : Bool} {l : List (Str × Bool)} : tabB ((c', b) :: l) c = if c = c' then some b else tabB l c := by
  unfold tabB
  rw [List.lookup_cons]
  by_cases q : c = c'
  · subst q
    rw [beq_self_eq_true, if_pos rfl]
  · have z : (c == c') = false := by simpa using q
    rw [z, if_neg q]
end Fw
/-! # a law that changes something; an own list that several know from here; a known list compared -/
namespace Fw
open PySem PySem.Spec PyProof.Rows L2
open Evl (Ex)
theorem law_spX {K : PySem.W.Frag} {run : RX} {H : Hp} {a : Addr} {ns : List Int} {E : XK} (hS : SqL K H a (ns.map V.int)) (hr : ∃ ds μ, run [.lst (ns.map D.int)] [] = some (.ok (.bl true) ds μ)) : spX K 1 run [.ref a] H (fun v _ => v = .bl true) E := by
  have rl : ∀ (W : Wd) (l : List Int), RL K W (l.map D.int) (l.map V.int) [] := fun W l => by
    induction l with
    | nil => exact ⟨rfl, rfl⟩
    | cons i l ih => exact rl_int ih
  obtain ⟨ds, μ, hr⟩ := hr
  refine ⟨⟨H, fun b => H b ≠ none, []⟩, [.lst (ns.map D.int)], [], [], _, rfl, ⟨⟨[], [], ?_, ⟨rfl, rfl⟩, rfl⟩, List.nodup_nil, (fun _ h => nomatch h), fun b h => h⟩, rfl, hr, fun v W' G F' r _ _ _ _ => r.1⟩
  refine ⟨some (.ref a), [], [], [], rfl, ⟨.ref a, rfl, a, _, rfl, ?_, rl _ ns, rfl⟩, ⟨rfl, rfl⟩, rfl⟩
  rcases hS with h | h
  · refine .inl ⟨h, ?_⟩
    rcases h with h | ⟨o, h⟩
    · show H a ≠ none
      rw [h]
      exact fun z => nomatch z
    · show H a ≠ none
      rw [h]
      exact fun z => nomatch z
  · exact .inr (.inr h)
/-! ### a slot's own list, known to several from here -/
theorem sta_sh {K : PySem.W.Frag} {W : Wd} {σ : L2.St} {ρ μ : List D} {F : List Addr} {i : Nat} {ds : List D} (S : Sta K W σ ρ μ F) (hi : ρ[i]? = some (.ml ds)) : ∃ W' F', W'.H = W.H ∧ Sta K W' σ (ρ.set i (.ref μ.length)) (μ ++ [.ml ds]) F' ∧ Mv W W' F F' := by
  obtain ⟨v, F1, hv, S1, pm⟩ := sta_out S hi (fun z => nomatch z)
  have ownS := S.own
  obtain ⟨⟨FA, F2, h1, h2, rfl⟩, nd, own, ok⟩ := S1
  obtain ⟨o', σ', G, F3, e1, r, h3, rfl⟩ := h1
  injection e1 with e1 e2
  subst e1
  subst e2
  have rr : ∃ a vs F', v = .ref a ∧ W.H a = some (.lst vs) ∧ RL K W ds vs F' ∧ G = a :: F' := by
    obtain ⟨w, q1, q2⟩ := r
    cases q1
    exact q2
  obtain ⟨a, vs, F0, rfl, hH, hR, rfl⟩ := rr
  have lt : Lt W ⟨W.H, W.Fr, W.m ++ [a]⟩ := ⟨fun _ _ z => z, fun _ _ z => z, fun _ _ _ _ z z' => ⟨z, z'⟩, fun k b z => by
    show (W.m ++ [a])[k]? = some b
    rw [List.getElem?_append_left (List.getElem?_eq_some_iff.mp z).1]
    exact z⟩
  have lm : μ.length = W.m.length := by
    have := RL_len h2
    rw [List.length_map] at this
    exact this.symm
  have r2 : RL K ⟨W.H, W.Fr, W.m ++ [a]⟩ (μ ++ [.ml ds]) ((W.m ++ [a]).map V.ref) (F2 ++ (a :: F0)) := by
    rw [List.map_append]
    exact RL_app (RL_same lt rfl μ h2) ⟨.ref a, [], a :: F0, [], rfl, ⟨a, vs, F0, rfl, hH, RL_same lt rfl ds hR, rfl⟩, ⟨rfl, rfl⟩, by rw [List.append_nil]⟩
  have pm2 : (F3 ++ (F2 ++ (a :: F0))).Perm ((a :: F0) ++ F3 ++ F2) := by
    refine (List.perm_append_comm_assoc F3 F2 (a :: F0)).trans ?_
    refine (List.Perm.append_left F2 List.perm_append_comm).trans ?_
    exact List.perm_append_comm
  have ndN := nodup_of_perm pm2 nd
  have S2 : Sta K ⟨W.H, W.Fr, W.m ++ [a]⟩ σ (ρ.set i .un) (μ ++ [.ml ds]) (F3 ++ (F2 ++ (a :: F0))) :=
    ⟨⟨F3, F2 ++ (a :: F0), RS_same lt rfl h3, r2, rfl⟩, ndN, fun b hb => own b (pm2.mem_iff.mp hb), ok⟩
  have hg : (W.m ++ [a])[μ.length]? = some a := by
    rw [lm, List.getElem?_append_right (Nat.le_refl _), Nat.sub_self]
    rfl
  obtain ⟨F5, S5, sub5⟩ := S2.set (i := i) (d := .ref μ.length) (o := some (.ref a)) ⟨.ref a, rfl, a, rfl, hg, rfl⟩
  rw [List.set_set, set_self hv] at S5
  refine ⟨⟨W.H, W.Fr, W.m ++ [a]⟩, F5, rfl, S5, fun b o hb _ => hb, fun _ h => h, fun _ h => .inl h, fun b hb => .inl ?_, ⟨[a], rfl⟩⟩
  exact pm.mem_iff.mp (pm2.mem_iff.mp (sub5 b hb))
def shO (i : Nat) : SO → Option SO
  | .nx ρ μ => match ρ[i]? with
    | some (.ml ds) => some (.nx (ρ.set i (.ref μ.length)) (μ ++ [.ml ds]))
    | _ => none
  | o => some o
def fSh (i : Nat) (f : FS) : FS := fun ρ μ => (f ρ μ).bind (shO i)
theorem Goes.sh {i : Nat} {K : PySem.W.Frag} {ob : List Nat} {Wx : WX} {E : Ends} {σ : L2.St} {W : Wd} {F : List Addr} {o o' : SO} (e : shO i o = some o') (h : Goes K ob Wx E σ W F o') : Goes K ob Wx E σ W F o := by
  cases o with
  | nx ρ μ =>
    have e : (match ρ[i]? with
      | some (.ml ds) => some (SO.nx (ρ.set i (.ref μ.length)) (μ ++ [.ml ds]))
      | _ => none) = some o' := e
    obtain ⟨ds, hi⟩ : ∃ ds, ρ[i]? = some (.ml ds) := by
      cases q : ρ[i]? with
      | none => rw [q] at e; cases e
      | some d =>
        rw [q] at e
        cases d with
        | ml ds => exact ⟨ds, rfl⟩
        | _ => cases e
    rw [hi] at e
    cases e
    intro σ' W' F' S m k
    obtain ⟨W2, F2, e, S2, m2⟩ := sta_sh S hi
    have := h σ' W2 F2 S2 (m.trans m2) k
    rw [e] at this
    exact this
  | _ => cases e; exact h
theorem ps1_sh {X : Cx} {ob : List Nat} {Wx : WX} {st : Stmt} {f : FS} (i : Nat) (h : PS1 X ob Wx st f) : PS1 X ob Wx st (fSh i f) := by
  obtain ⟨ts, q, k⟩ := h
  refine ⟨ts, q, fun E σ W ρ μ F S o ho hg => ?_⟩
  obtain ⟨o', e, e2⟩ := bind_some ho
  exact k E σ W ρ μ F S o' e (hg.sh e2)
/-! ### xs == e, xs a list that several know -/
def drM (μ : List D) (x : D) : D := match x with
  | .ref k => (match μ[k]? with
    | some (.ml ds) => .ml ds
    | _ => x)
  | x => x
def qOpM (o : D → D → Option D) (f g : FQ) : FQ := fun ρ μ => (f ρ μ).bind fun x => (g ρ μ).bind fun y => o (drM μ x) y
theorem R_drM {K : PySem.W.Frag} {W : Wd} {σ : L2.St} {ρ μ : List D} {F G : List Addr} {x : D} {u : V} (S : Sta K W σ ρ μ F) (r : R K W x u G) : ∃ G', R K W (drM μ x) u G' := by
  unfold drM
  split
  case h_2 => exact ⟨G, r⟩
  rename_i k
  split
  case h_2 => exact ⟨G, r⟩
  rename_i ds hk
  obtain ⟨F1, F2, _, h6, _⟩ := S.ex
  obtain ⟨a', G', h7, h8, _⟩ := RL_map_get h6 hk
  obtain ⟨a0, rfl, h5, _⟩ := r
  rw [h5] at h7
  cases h7
  exact ⟨G', h8⟩
theorem pb_cmpM {X : Cx} {a b : Expr} {f g : FQ} {pos : Pos} {op : CmpOp} {o : D → D → Option D} (h : OpD X (compareOp op) o) (ha : PQ X a f) (hb : PQ X b g) (hm : behindInMarks op b = false) : PB X (.Compare a [op] [b] pos) (qB (qOpM o f g)) := by
  obtain ⟨r, hr, h3⟩ := h
  obtain ⟨ta, pa, h1⟩ := ha
  obtain ⟨tb, pb, h2⟩ := hb
  refine ⟨_, pt_cmpR hr pa pb hm, fun σ W ρ μ F S bb hb Q q => ?_⟩
  obtain ⟨x, e1, hd⟩ := bind_some (qB_some hb)
  obtain ⟨y, e2, hd⟩ := bind_some hd
  refine h1 σ W ρ μ F S x e1 _ fun u W1 G1 x1 r1 => ?_
  refine h2 σ W1 ρ μ F (S.ext x1) y e2 _ fun v W2 G2 x2 r2 => ?_
  have S2 := (S.ext x1).ext x2
  obtain ⟨G', r'⟩ := R_drM S2 (R_ext x2 x r1)
  refine h3 W2 _ y u v G' G2 S2.ok r' r2 _ hd _ fun w W3 G3 x3 r3 => ?_
  exact ⟨bb, r3.1, q W3 (x1.trans (x2.trans x3))⟩
/-! ### reckoning -/
section
variable {f g : FQ} {ff : FS} {o : D → D → Option D} {i : Nat} {x0 d : D} {ρ μ ds : List D} {k : Nat} {c : Str} {fs : List (Str × D)}
def drK (μ : List D) (o : D → D → Option D) (g : FQ) (ρ : List D) (x : D) : Option D := (g ρ μ).bind fun y => o (drM μ x) y
theorem qOpM_k : qOpM o f g (x0 :: ρ) μ = (f (x0 :: ρ) μ).bind (drK μ o g (x0 :: ρ)) := rfl
theorem drK_ref (h : μ[k]? = some (.ml ds)) : drK μ o g ρ (.ref k) = (g ρ μ).bind fun y => o (.ml ds) y := by
  have e : drM μ (.ref k) = .ml ds := by
    unfold drM
    simp only [h]
  unfold drK
  rw [e]
def shK' (i : Nat) (μ : List D) : List D → Option D → Option SO
  | ρ, some (.ml ds) => some (.nx (ρ.set i (.ref μ.length)) (μ ++ [.ml ds]))
  | _, _ => none
theorem fSh_k : fSh i ff (x0 :: ρ) μ = (ff (x0 :: ρ) μ).bind (shO i) := rfl
theorem shO_nx : shO i (.nx ρ μ) = shK' i μ ρ ρ[i]? := by
  show (match ρ[i]? with
      | some (D.ml ds) => some (SO.nx (ρ.set i (.ref μ.length)) (μ ++ [D.ml ds]))
      | _ => none) = _
  cases ρ[i]? with
  | none => rfl
  | some d => cases d <;> rfl
theorem shK_ml : shK' i μ ρ (some (.ml ds)) = some (.nx (ρ.set i (.ref μ.length)) (μ ++ [.ml ds])) := rfl
theorem shO_rt : shO i (.rt d ρ μ) = some (.rt d ρ μ) := rfl
def kset23 := And.intro @qOpM_k <| And.intro @drK_ref <| And.intro @fSh_k <| And.intro @shO_nx <| And.intro @shK_ml @shO_rt
end
end Fw
/-! # max of a list of whole numbers -/
namespace Fw
open PySem PySem.Spec PyProof.Rows L2
def mxF : Int → List Int → Int
  | m, [] => m
  | m, x :: xs => mxF (if m < x then x else m) xs
theorem mxF_spec : ∀ (xs : List Int) (m : Int), (mxF m xs = m ∨ mxF m xs ∈ xs) ∧ m ≤ mxF m xs ∧ ∀ y ∈ xs, y ≤ mxF m xs
  | [], m => ⟨.inl rfl, Int.le_refl m, fun _ h => nomatch h⟩
  | x :: xs, m => by
    obtain ⟨h1, h2, h3⟩ := mxF_spec xs (if m < x then x else m)
    unfold mxF
    refine ⟨?_, ?_, ?_⟩
    · rcases h1 with h1 | h1
      · rw [h1]
        split
        · exact .inr (List.mem_cons_self ..)
        · exact .inl rfl
      · exact .inr (List.mem_cons_of_mem _ h1)
    · split at h2 <;> split <;> omega
    · intro y hy
      rcases List.mem_cons.mp hy with rfl | hy
      · split at h2 <;> split <;> omega
      · exact h3 y hy
def mxI : List Int → Option Int
  | [] => none
  | x :: xs => some (mxF x xs)
theorem mxI_spec {ns : List Int} {m : Int} (h : mxI ns = some m) : m ∈ ns ∧ ∀ y ∈ ns, y ≤ m := by
  cases ns with
  | nil => cases h
  | cons x xs =>
    cases h
    obtain ⟨h1, h2, h3⟩ := mxF_spec xs x
    refine ⟨?_, fun y hy => ?_⟩
    · rcases h1 with h1 | h1
      · rw [h1]; exact List.mem_cons_self ..
      · exact List.mem_cons_of_mem _ h1
    · rcases List.mem_cons.mp hy with rfl | hy
      · exact h2
      · exact h3 y hy
def dMaxL (x : D) : Option D := (asL x).bind fun ds => (intsD ds).bind fun bs => (mxI bs).map .int
theorem cd_maxL {X : Cx} (hc : X.calm = true) : CallD X (.builtin "max") (o1 dMaxL) := by
  refine ⟨_, cr_max hc, fun W ds vs G ok r d hd Q q => ?_⟩
  match ds, hd with
  | [x], hd =>
    obtain ⟨v, rfl, r1⟩ := RL_one r
    obtain ⟨es, e1, hd⟩ := bind_some (show (asL x).bind (fun ds => (intsD ds).bind fun bs => (mxI bs).map D.int) = some d from hd)
    obtain ⟨bs, e2, hd⟩ := bind_some hd
    obtain ⟨m, e3, z⟩ := map_some hd
    obtain ⟨a, ws, rfl, h2, h3⟩ := R_asL e1 r1
    rw [R_ints e2 h3] at h2
    subst z
    obtain ⟨k1, k2⟩ := mxI_spec e3
    refine ⟨a, bs, rfl, h2, List.length_pos_of_mem k1, fun m' hm hy => ?_⟩
    have e : m' = m := Int.le_antisymm (k2 m' hm) (hy m k1)
    subst e
    exact q _ W [] (Ext.refl ok) ⟨rfl, rfl⟩
end Fw
/-! # the head's run, told piece by piece -/
namespace Fw
open PySem PySem.Spec PyProof.Rows L2
theorem run_of {σ A B C D : Type _} {E : Option σ} {l : σ → A} {q : σ → B} {x : σ → C} {o : σ → D} {a : A} {b : B} {z : C} {c : D} (h1 : E.map (fun s => (l s, q s, x s)) = some (a, b, z)) (h2 : E.map o = some c) : E.map (fun s => (l s, q s, o s)) = some (a, b, c) := by
  cases E with
  | none => cases h1
  | some s =>
    have e1 : (l s, q s, x s) = (a, b, z) := Option.some.inj h1
    have e2 : o s = c := Option.some.inj h2
    show some (l s, q s, o s) = _
    rw [e2, (Prod.mk.inj e1).1, (Prod.mk.inj (Prod.mk.inj e1).2).1]
theorem run_x {σ A B C : Type _} {E : Option σ} {l : σ → A} {q : σ → B} {x : σ → C} {a : A} {b : B} {z : C} (h1 : E.map (fun s => (l s, q s, x s)) = some (a, b, z)) : E.map x = some z := by
  cases E with
  | none => cases h1
  | some s =>
    have e1 : (l s, q s, x s) = (a, b, z) := Option.some.inj h1
    show some (x s) = _
    rw [(Prod.mk.inj (Prod.mk.inj e1).2).2]
theorem run_and {σ : Type _} {E : Option σ} {f g : σ → Bool} (h1 : E.map f = some true) (h2 : E.map g = some true) : E.map (fun s => f s && g s) = some true := by
  cases E with
  | none => cases h1
  | some s =>
    have e1 : f s = true := Option.some.inj h1
    have e2 : g s = true := Option.some.inj h2
    show some (f s && g s) = _
    rw [e1, e2]
    rfl
theorem obs_of {σ : Type _} {E : Option σ} {K : σ → PySem.W.Frag} {fa : List He.Fa} {fn : List He.DefD} {ex : PySem.W.Frag → Bool} (ha : E.map (fun s => fa.all fun f => f.ok (K s)) = some true) (hf : E.map (fun s => fn.all fun d => d.ok (K s)) = some true)
    (hm : E.map (fun s => fn.map fun d => He.fnW (K s) d.at_) = some (fn.map He.DefD.val)) (hx : E.map (fun s => ex (K s)) = some true) : E.map (fun s => ((He.obsD fa fn (K s), ex (K s)) : AlY)) = some (He.valD fn, true) := by
  cases E with
  | none => cases ha
  | some s =>
    have e1 : (fa.all fun f => f.ok (K s)) = true := Option.some.inj ha
    have e2 : (fn.all fun d => d.ok (K s)) = true := Option.some.inj hf
    have e3 : (fn.map fun d => He.fnW (K s) d.at_) = fn.map He.DefD.val := Option.some.inj hm
    have e4 : ex (K s) = true := Option.some.inj hx
    show some ((((fa.all fun f => f.ok (K s)) && fn.all fun d => d.ok (K s), fn.map fun d => He.fnW (K s) d.at_), ex (K s)) : AlY) = _
    rw [e1, e2, e3, e4]
    rfl
end Fw
/-! # what the top has left, its addresses found by a set of bits -/
namespace Fw
open PySem PySem.Spec PyProof.Rows L2
def bit1 (s a : Nat) : Bool := Nat.beq (Nat.land 1 (Nat.shiftRight s a)) 1
/-- those not seen yet, and what is seen then -/
def freshZ : Nat → List Addr → List Addr → Nat × List Addr
  | s, acc, [] => (s, acc)
  | s, acc, a :: as => match bit1 s a with
    | true => freshZ s acc as
    | false => freshZ (Nat.lor s (Nat.shiftLeft 1 a)) (a :: acc) as
def refsZ (g : Addr → Option Obj) (a : Addr) : List Addr := match g a with
  | some o => He.refsD o
  | none => []
def bfsZ (g : Addr → Option Obj) : Nat → Nat → List Addr → List Addr
  | 0, _, _ => []
  | n + 1, s, front => match freshZ s [] (front.flatMap (refsZ g)) with
    | (s', new) => new ++ bfsZ g n s' new
def asZ (g : Addr → Option Obj) (n : Nat) : List Addr := mainGlobals :: (bfsZ g n (Nat.shiftLeft 1 mainGlobals) [mainGlobals] ++ [cStatics])
def obsZ (n : Nat) (fa : List He.Fa) (fn : List He.DefD) (ex : PySem.W.Frag → Bool) (g : Addr → Option Obj) : AlY := (He.obsD fa fn (He.frT g (asZ g n)), ex (He.frT g (asZ g n)))
def hookZ (n : Nat) (fa : List He.Fa) (fn : List He.DefD) (ex : PySem.W.Frag → Bool) : PySem.W.Hook where
  α := AlY
  obs := fun s => obsZ n fa fn ex s.heap.get?
  val := fun _ => (He.valD fn, true)
  says := fun _ h => ∃ K : PySem.W.Frag, K.In h ∧ SaysY fa fn ex K
  of := fun _ _ e => ⟨_, He.frT_in, ⟨congrArg (fun z : AlY => z.1) e, congrArg (fun z : AlY => z.2) e⟩⟩
  keeps := fun _ _ _ ⟨K, hK, c⟩ k => ⟨K, PySem.W.Frag.In.keeps hK k, c⟩
theorem obsZ_eq {n : Nat} {fa : List He.Fa} {fn : List He.DefD} {ex : PySem.W.Frag → Bool} {g : Addr → Option Obj} {s : Shared} (h : ∀ a, g a = s.heap.get? a) : obsZ n fa fn ex g = (hookZ n fa fn ex).obs s := by
  have e : g = s.heap.get? := funext h
  rw [e] <;> rfl
theorem run_two {σ A B : Type _} {E : Option σ} {l : σ → A} {q : σ → B} {a : A} {b : B} {K : σ → PySem.W.Frag} {fa : List He.Fa} {fn : List He.DefD} {ex : PySem.W.Frag → Bool} (h : E.map (fun s => (l s, q s, (fn.map fun d => He.fnW (K s) d.at_), ex (K s) && fa.all fun f => f.ok (K s))) = some (a, b, fn.map He.DefD.val, true))
    (hf : E.map (fun s => fn.all fun d => d.ok (K s)) = some true) : E.map (fun s => (l s, q s, ((He.obsD fa fn (K s), ex (K s)) : AlY))) = some (a, b, (He.valD fn, true)) := by
  cases E with
  | none => cases hf
  | some s =>
    have e1 : (l s, q s, (fn.map fun d => He.fnW (K s) d.at_), ex (K s) && fa.all fun f => f.ok (K s)) = (a, b, fn.map He.DefD.val, true) := Option.some.inj h
    have e2 : (fn.all fun d => d.ok (K s)) = true := Option.some.inj hf
    obtain ⟨h1, h2⟩ := Prod.mk.inj e1
    obtain ⟨h3, h4⟩ := Prod.mk.inj h2
    obtain ⟨h5, h6⟩ := Prod.mk.inj h4
    obtain ⟨h7, h8⟩ := Bool.and_eq_true_iff.mp h6
    show some (l s, q s, ((((fa.all fun f => f.ok (K s)) && fn.all fun d => d.ok (K s), fn.map fun d => He.fnW (K s) d.at_), ex (K s)) : AlY)) = _
    rw [h1, h3, h8, e2, h5, h7]
    rfl
end Fw
/-! # a new list that a method which only looks hands back; append to such a one -/
namespace Fw
open PySem PySem.Spec PyProof.Rows L2
open Evl (Ex)
theorem look_new {K : PySem.W.Frag} {n : Nat} {run : RF} {W : Wd} {σ : L2.St} {ρ μ ds es : List D} {F : List Addr} {vs : List V} {Q : VK} {E : XK} (S : Sta K W σ ρ μ F) (r : RL K W.all ds vs []) (hn : ds.length = n) (hr : run ds (fzL μ) = some (.ml es)) (hl : noLL es = true)
    (q : ∀ p W', NewL K W W' es p → Q (.ref p) W'.H) : spF K n run vs W.H Q E := by
  obtain ⟨F1, F2, _, h2, _⟩ := S.ex
  refine ⟨W.all, ds, fzL μ, .ml es, rfl, Wd.all_ok, r, RL_fz S.ok μ h2, hn, hr, fun v W2 G rv ok2 _ own mv => ?_⟩
  obtain ⟨a, ws, F', h1, h3, h4, h5⟩ := rv
  have ha : a ∈ G := by
    rw [h5]
    exact List.mem_cons_self ..
  have h0 : W.H a = none := (mv.own a ha).elim (fun z => nomatch z) id
  have hx : Ext W ⟨W2.H, W.Fr, W.m⟩ := by
    refine ⟨fun a o e => mv.keep a o e (fun z => nomatch z), fun a h => h, fun a h => .inl h, rfl, fun a h => ?_⟩
    intro z
    cases e : W.H a with
    | none => exact S.ok a h e
    | some o =>
      have := mv.keep a o e (fun z => nomatch z)
      rw [show W2.H a = none from z] at this
      cases this
  have hH : (⟨W2.H, W.Fr, W.m⟩ : Wd).H = W2.H := rfl
  subst h1
  exact q a ⟨W2.H, W.Fr, W.m⟩ ⟨hx, h0, fun z => S.ok a z h0, ⟨ws, h3, RL_noL hH es hl h4⟩⟩
section
variable {X : Cx} {Wx : WX} {e o : Expr} {es : List Expr} {p apos cpos pos : Pos} {kq : FA} {m : Str} {k n : Nat} {dd : List D} {f q : FQ} {ob : List Nat}
def newK : D → Option (List D)
  | .ml es => if noLL es = true then some es else none
  | _ => none
def qMethL (m : Str) (n : Nat) (dd : List D) (runs : MTF) (f : FQ) (k : FA) : FA := fun ρ μ => (f ρ μ).bind fun t => (clsOf μ t).bind fun z => if fidx m z.2 = none then (runs z.1).bind fun run => (k ρ μ).bind fun as => if (fz t :: (fzL as ++ dd)).length = n then (run (fz t :: (fzL as ++ dd)) (fzL μ)).bind newK else none else none
theorem pn_methL0 {pl : Sem Bool} {runs : MTF} (OM : OkMTF X m k n dd runs) (hp : PQ X o f) (hr : Room k X.A)
    (ht : eval (.Call (.Attribute o m apos) [] [] pos) X.env = (do
      let ov ← eval o X.env
      standAt apos.atName
      let (f, first) ← holding [ov] (getMethod ov m pl)
      callWith pos f first (backTo pos (starEach [] X.env)) (backToKw pos (keywordEach [] X.env))) := by rfl) :
    PN X (.Call (.Attribute o m apos) [] [] pos) (qMethL m n dd runs f aNil) := by
  obtain ⟨te, pe, h0⟩ := hp
  refine ⟨_, pe_mx0 pe hr takesN0 ht, fun σ W ρ μ F S ls hd Q q => ?_⟩
  obtain ⟨t0, e0, hd⟩ := bind_some hd
  obtain ⟨z, e1, hd⟩ := bind_some hd
  by_cases hf : fidx m z.2 = none
  case neg => rw [if_neg hf] at hd; cases hd
  rw [if_pos hf] at hd
  obtain ⟨run, e2, hd⟩ := bind_some hd
  obtain ⟨as, e3, hd⟩ := bind_some hd
  cases e3
  by_cases hl : (fz t0 :: (fzL [] ++ dd)).length = n
  case neg => rw [if_neg hl] at hd; cases hd
  rw [if_pos hl] at hd
  obtain ⟨d', e4, hd⟩ := bind_some hd
  obtain ⟨g, fd, ps, dvs, us, hF, hb, hv, hdd, hc, hm⟩ := OM z.1 run e2
  cases d' with
  | ml es =>
    have hd2 : (if noLL es = true then some es else none) = some ls := hd
    by_cases hn : noLL es = true
    case neg => rw [if_neg hn] at hd2; cases hd2
    rw [if_pos hn] at hd2
    cases hd2
    refine h0 σ W ρ μ F S t0 e0 _ fun v W1 G1 x1 r1 => ?_
    have S1 := S.ext x1
    have hv2 : ∃ a dx vs, v = .ref a ∧ W1.H a = some (.ins (He.ga X.K z.1) dx (z.2.zip vs)) := by
      cases t0 with
      | ref j =>
        obtain ⟨t2, e5, e6⟩ := bind_some (show (μ[j]?).bind clsO = some z from e1)
        obtain ⟨a, rfl, h3, _⟩ := r1
        obtain ⟨F1, F2, _, h4, _⟩ := S1.ex
        obtain ⟨a', G', h5, h6, _⟩ := RL_map_get h4 e5
        rw [h3] at h5
        cases h5
        exact R_cls h6 e6
      | _ => exact R_cls r1 e1
    obtain ⟨a, dx, vs0, rfl, hH⟩ := hv2
    refine ⟨a, _, dx, _, g, fd, ps, _, dvs, us, rfl, hH, hc, hm, fidx_none hf, hF, hb, hv, ?_⟩
    refine look_new (E := fun _ _ _ => False) (ds := fz t0 :: (fzL [] ++ dd)) (vs := .ref a :: ([] ++ dvs)) S1 ⟨.ref a, [] ++ dvs, [], [], rfl, R_fz S1.ok t0 r1, RL_app (show RL X.K W1.all (fzL []) [] [] from ⟨rfl, rfl⟩) (hdd _), rfl⟩ hl e4 hn fun p W3 nl => ?_
    have hnew : W.H p = none := by
      cases e : W.H p with
      | none => rfl
      | some o =>
        have := x1.ex p o e
        rw [nl.new] at this
        cases this
    exact q p W3 ⟨x1.trans nl.ext, hnew, nl.nofr, nl.at_⟩
  | _ => cases hd
/-- x.m().append(e): nobody sees it -/
def fAppT (k : FA) (q : FQ) : FS := fun ρ μ => (k ρ μ).bind fun es => (q ρ μ).bind fun d => if data d = true ∧ es.length ≤ LIM then some (.nx ρ μ) else none
theorem ps1_appT (hp : PN X o kq) (he : PQ X e q) (hcall : ∀ to te : TE, PE X o to → PE X e te → PE X (.Call (.Attribute o "append" apos) [e] [] cpos) (tBM X.K "list" rAppend to (tCons te tNil)))
    (hsw : swapsWith (.Call (.Attribute o "append" apos) [e] [] cpos) none pos.line X.env = pure false := by rfl) : PS1 X ob Wx (.Expr (.Call (.Attribute o "append" apos) [e] [] cpos) pos) (fAppT kq q) := by
  obtain ⟨to, po, k0⟩ := hp
  obtain ⟨te, pe, k1⟩ := he
  refine ⟨_, ps_expr (hcall to te po pe) hsw, fun E σ W ρ μ F S so ho h => ?_⟩
  obtain ⟨ls, e0, ho⟩ := bind_some ho
  obtain ⟨d, e1, ho⟩ := bind_some ho
  by_cases hd : data d = true ∧ ls.length ≤ LIM
  case neg => rw [if_neg hd] at ho; cases ho
  rw [if_pos hd] at ho
  cases ho
  refine k0 σ W ρ μ F S ls e0 _ fun a W1 nl => ?_
  obtain ⟨vs, h2, h3⟩ := nl.at_
  refine ⟨.inl ⟨rfl, vs, Evl.sq_of h2⟩, ?_⟩
  have S1 := S.ext nl.ext
  refine k1 σ W1 ρ μ F S1 d e1 _ fun v W2 G x2 r2 => ?_
  have h4 : W2.H a = some (.lst vs) := x2.ex a _ h2
  have hl := RL_len h3
  have hx : Ext W ⟨upd W2.H a (.lst (vs ++ [v])), W2.Fr, W2.m⟩ := by
    have x3 := nl.ext.trans x2
    refine ⟨fun b o hb => ?_, x3.fr, x3.nf, x3.m, fun b hb => ?_⟩
    · have hne : b ≠ a := fun z => by
        subst z
        rw [nl.new] at hb
        cases hb
      show upd W2.H a _ b = some o
      unfold upd
      rw [if_neg hne]
      exact x3.ex b o hb
    · show upd W2.H a _ b ≠ none
      unfold upd
      by_cases hb2 : b = a
      · rw [if_pos hb2]
        exact fun z => nomatch z
      · rw [if_neg hb2]
        exact x3.ok b hb
  exact ⟨a, vs, v, rfl, rfl, h4, by rw [hl]; exact lim_lt hd.2, h σ _ F (S.ext hx) hx.mvr Kept.refl⟩
end
/-! ### reckoning -/
section
variable {x0 d : D} {ρ μ ds es : List D} {k : FA} {q : FQ} {f : FQ} {m : Str} {n : Nat} {dd : List D} {runs : MTF}
theorem fAppT_k : fAppT k q (x0 :: ρ) μ = (k (x0 :: ρ) μ).bind fun es => (q (x0 :: ρ) μ).bind fun d => if data d = true ∧ es.length ≤ LIM then some (.nx (x0 :: ρ) μ) else none := rfl
theorem newK_ml (h : noLL es = true) : newK (.ml es) = some es := if_pos h
theorem qMethL_eq : qMethL m n dd runs f k (x0 :: ρ) μ = (f (x0 :: ρ) μ).bind fun t => (clsOf μ t).bind fun z => if fidx m z.2 = none then (runs z.1).bind fun run => (k (x0 :: ρ) μ).bind fun as => if (fz t :: (fzL as ++ dd)).length = n then (run (fz t :: (fzL as ++ dd)) (fzL μ)).bind newK else none else none := rfl
def kset24 := And.intro @fAppT_k <| And.intro @qMethL_eq @newK_ml
end
end Fw
/-! # a quiet def that is handed an own list -/
namespace Fw
open PySem PySem.Spec PyProof.Rows L2
open Evl (Ex)
def rQF (run : List D → Option D) : RF := fun ds _ => if dataL ds = true then (run ds).bind fun d => if data d = true then some d else none else none
theorem rQF_k (run : List D → Option D) (ds μ : List D) : rQF run ds μ = if dataL ds = true then (run ds).bind fun d => if data d = true then some d else none else none := rfl
theorem spF_spQ {K : PySem.W.Frag} {n : Nat} {run : List D → Option D} {vs : List V} {H : Hp} {Q : V → Hp → Prop} {E : XK} (h : spF K n (rQF run) vs H Q E) : spQ K n run vs H Q E := by
  obtain ⟨W, ds, μ, d, hH, ok, r, rm, hn, hr, q⟩ := h
  unfold rQF at hr
  by_cases hd : dataL ds = true
  case neg => rw [if_neg hd] at hr; cases hr
  rw [if_pos hd] at hr
  obtain ⟨d', e2, hr⟩ := bind_some hr
  by_cases hdd : data d' = true
  case neg => rw [if_neg hdd] at hr; cases hr
  rw [if_pos hdd] at hr
  cases hr
  refine ⟨⟨W.H, W.Fr, []⟩, ds, d, hH, rfl, ok, RL_m ds hd r, hd, hn, e2, hdd, fun v W' x rv => ?_⟩
  have xe : Ext W ⟨W'.H, W'.Fr, W.m⟩ := ⟨x.ex, x.fr, x.nf, rfl, x.ok⟩
  exact q v ⟨W'.H, W'.Fr, W.m⟩ [] (R_m d hdd rv) x.ok List.nodup_nil (fun _ h => nomatch h) (xe.mv fun _ h => nomatch h)
theorem OkQ.toF {P : Program} {w : World} {K : PySem.W.Frag} {mg : Str → Option Value} {base : Heap} {x : Str} {k n : Nat} {dd : List D} {run : List D → Option D} (h : OkQ P w K mg base x k n dd run) : OkF P w K mg base x k n dd (rQF run) := by
  obtain ⟨f, fd, ps, dvs, us, F, a1, a2, a3, a4, a5, a6⟩ := h
  exact ⟨f, fd, ps, dvs, us, ⟨fun vs H Q E q => F.len vs H Q E (spF_spQ q), fun A outer s H args us vs Q E hr e0 hb hv hs => F.run A outer s H args us vs Q E hr e0 hb hv (spF_spQ hs)⟩, a1, a2, a3, a5, a6⟩
def kset25 := @rQF_k
end Fw
/-! # a maker that is handed an own list, which it only looks at -/
namespace Fw
open PySem PySem.Spec PyProof.Rows L2
open Evl (Ex)
def xMakeZ (c : Str) (n : Nat) (dd : List D) (run : RX) (k : FA) : FX := fun ρ μ => (k ρ μ).bind fun as => if (D.obj c [] [] :: (fzL as ++ dd)).length = n then (run (D.obj c [] [] :: (fzL as ++ dd)) (fzL μ)).bind fun o => match o with
  | .ok d (t :: _) _ => (match d with
    | .non => if isUn t = false ∧ noO μ.length t = true then some (.ok t ρ μ) else none
    | _ => none)
  | _ => none
  else none
section
variable {X : Cx} {Wx : WX} {e : Expr} {es : List Expr} {p pos : Pos} {kq : FA} {n k : Nat} {dd : List D} {run : RX}
theorem makeZ_run {c : Str} {t : TA} {dvs : List V} (hdd : ∀ W : Wd, RL X.K W dd dvs [])
    (k1 : ∀ (σ : L2.St) (W : Wd) (ρ μ : List D) (F : List Addr), Sta X.K W σ ρ μ F → ∀ ds, kq ρ μ = some ds → ∀ Q : List V → Hp → Prop, (∀ vs W' G, Ext W W' → RL X.K W' ds vs G → Q vs W'.H) → t σ W.H Q) :
    PXr X Wx (tMk (He.ga X.K c) (spX X.K n run) dvs Wx t) (xMakeZ c n dd run kq) := by
  intro σ W ρ μ F S o ho Q hQ
  obtain ⟨as, e1, ho⟩ := bind_some ho
  by_cases hl : (D.obj c [] [] :: (fzL as ++ dd)).length = n
  case neg => rw [if_neg hl] at ho; cases ho
  rw [if_pos hl] at ho
  obtain ⟨o2, e4, ho⟩ := bind_some ho
  refine k1 σ W ρ μ F S as e1 _ fun vs W1 G1 x1 r1 x dx hx hdx ne => ?_
  have S1 := S.ext x1
  obtain ⟨F1, F2, _, h2, _⟩ := S1.ex
  have hf : ∀ a o, W1.H a = some o → upd (upd W1.H dx (.own x)) x (.ins (He.ga X.K c) dx []) a = some o := fun a o h => by
    rw [upd_ne (ne_of_none h hx), upd_ne (ne_of_none h hdx)]
    exact h
  have hb : ∀ a, upd (upd W1.H dx (.own x)) x (.ins (He.ga X.K c) dx []) a = none → W1.H a = none := fun a h => by
    cases e : W1.H a with
    | none => rfl
    | some o => rw [hf a o e] at h; cases h
  let Wf : Wd := ⟨upd (upd W1.H dx (.own x)) x (.ins (He.ga X.K c) dx []), fun a => a ≠ x ∧ upd (upd W1.H dx (.own x)) x (.ins (He.ga X.K c) dx []) a ≠ none, W1.m⟩
  have okf : WOk Wf := fun a h => h.2
  have xa : Ext W1.all Wf := by
    refine ⟨fun a o h => hf a o h, fun a h => ⟨?_, ?_⟩, fun a _ => ?_, rfl, okf⟩
    · intro z
      rw [z] at h
      exact h hx
    · intro z
      exact h (hb a z)
    · cases e : W1.H a with
      | none => exact .inr rfl
      | some o => exact .inl (show W1.H a ≠ none by rw [e]; exact fun z => nomatch z)
  have rt : R X.K Wf (.obj c [] []) (.ref x) [x] := ⟨x, dx, [], [], rfl, upd_same, rfl, ⟨rfl, rfl⟩, rfl⟩
  have ra : RL X.K Wf (fzL as ++ dd) (vs ++ dvs) [] := RL_app (RL_ext xa _ (RL_fz x1.ok as r1)) (hdd _)
  have rs := RS_start 0 ra
  simp only [List.replicate_zero, List.append_nil] at rs
  have Sb : Sta X.K Wf ((vs ++ dvs).map some) (fzL as ++ dd) (fzL μ) [] := ⟨⟨[], [], rs, RL_ext xa _ (RL_fz S1.ok μ h2), rfl⟩, List.nodup_nil, (fun _ h => nomatch h), okf⟩
  have Sf := sta_cons (o := some (.ref x)) (R1_of rt) Sb (by simp) fun b hb => by
    obtain rfl := List.mem_singleton.mp hb
    exact ⟨fun z => z.1 rfl, .inr ⟨_, dx, _, upd_same⟩⟩
  refine ⟨Wf, _, fzL μ, _, o2, rfl, Sf, hl, e4, ?_⟩
  cases o2 with
  | ex cx fs ys μ' => cases ho
  | ok d ys μ' =>
    cases ys with
    | nil => cases ho
    | cons t' ys =>
      cases d with
      | non =>
        have ho3 : (if isUn t' = false ∧ noO μ.length t' = true then some (EO.ok t' ρ μ) else none) = some o := ho
        by_cases hu : isUn t' = false ∧ noO μ.length t' = true
        case neg => rw [if_neg hu] at ho3; cases ho3
        rw [if_pos hu] at ho3
        cases ho3
        obtain ⟨hu, hz⟩ := hu
        intro v W' G F' r S' nd own mv
        obtain ⟨rfl, rfl⟩ := r
        obtain ⟨G1, F2', r1', S2, ef⟩ := sta_tail S'
        subst ef
        rw [R1_iff] at r1'
        rcases r1' with ⟨z, _⟩ | ⟨v1, ev, r1'⟩
        · rw [z] at hu
          cases hu
        injection ev with ev
        subst ev
        refine ⟨rfl, ?_⟩
        have new : ∀ a ∈ G1, W1.H a = none := fun a ha => by
          rcases mv.own a (List.mem_append_right _ (List.mem_append_left _ ha)) with h | h
          · rw [List.mem_singleton.mp h]; exact hx
          · exact hb a h
        have keep : ∀ a o, W1.H a = some o → W'.H a = some o := fun a o e => mv.keep a o (hf a o e) fun z => by
          rw [List.mem_singleton.mp z, hx] at e
          cases e
        have hx1 : Ext W1 ⟨W'.H, W1.Fr, W1.m⟩ := ⟨keep, fun _ h => h, fun _ h => .inl h, rfl, fun a h => by
          intro z
          cases e : W1.H a with
          | none => exact S1.ok a h e
          | some o =>
            have := keep a o e
            rw [show W'.H a = none from z] at this
            cases this⟩
        have ownG : ∀ a ∈ G1, Own ⟨W'.H, W1.Fr, W1.m⟩ a := fun a ha => ⟨fun z => S1.ok a z (new a ha), (S'.own a (List.mem_append_left _ ha)).2⟩
        have xw := x1.trans hx1
        have nw : ∀ a ∈ G1, W.H a = none := fun a ha => Evl.fresh_back x1.ex (new a ha)
        have nd1 : G1.Nodup := (S'.nd.sublist (List.sublist_append_left G1 F2'))
        have rr : R X.K ⟨W'.H, W1.Fr, W1.m⟩ t' (.ref x) G1 := by
          refine R_noO (W := W') (W' := ⟨W'.H, W1.Fr, W1.m⟩) rfl (fun k a hk e => ?_) t' hz r1'
          obtain ⟨l, hl⟩ := mv.m
          have hl2 : W'.m = W1.m ++ l := hl
          have len : W1.m.length = μ.length := by
            have := RL_len h2
            rwa [List.length_map] at this
          rw [hl2, List.getElem?_append_left (by omega)] at e
          exact e
        exact hQ (.ref x) ⟨W'.H, W1.Fr, W1.m⟩ G1 F rr (S.ext xw) (fresh_nd S nd1 fun a ha => ⟨ownG a ha, nw a ha⟩) ownG (xw.mvG nw)
      | _ => cases ho
theorem px_makeZ {c : Str} (O : OkK X.prog X.w X.K X.mg X.base c k n dd run) (hr : Room (k + 1) X.A) (tk : L2N.Takes X Wx) (ha : PAQ X (e :: es) kq) (hg : Gl X c := by rfl) (hdb : (c == ("__debug__" : Str)) = false := by decide)
    (he : starEach (e :: es) X.env = (false, eval e X.env) :: starEach es X.env := by rfl) (hpl : (backTo pos (starEach es X.env)).any (·.1) = false := by rfl) : PX X Wx (.Call (.Name c p) (e :: es) [] pos) (xMakeZ c n dd run kq) := by
  obtain ⟨f, fd, ps, dvs, us, hF, hb, hv, hdd, M, hm⟩ := O
  obtain ⟨t, pt, k1⟩ := ha
  refine ⟨tMk (He.ga X.K c) (spX X.K n run) dvs Wx t, ⟨fun pins s σ H Q I h => ?_⟩, makeZ_run hdd k1⟩
  refine wpAny_Call_Name_kw (ld_glob I hg hm ?_ hdb)
  refine PySem.W.callWith_K (h₀ := X.base) I.ok.mod.kin M.kp (thn (pt.run pos pins s σ H _ I h) fun us s1 ⟨vs, H1, I1, r, q⟩ => ⟨I1.kIn, ?_⟩) he hpl
  exact runM M hF hr hb hv tk I1 r q
end
theorem xMakeZ_k (c : Str) (n : Nat) (dd : List D) (run : RX) (k : FA) (ρ μ : List D) : xMakeZ c n dd run k ρ μ = (k ρ μ).bind fun as => if (D.obj c [] [] :: (fzL as ++ dd)).length = n then (run (D.obj c [] [] :: (fzL as ++ dd)) (fzL μ)).bind fun o => match o with
  | .ok d (t :: _) _ => (match d with
    | .non => if isUn t = false ∧ noO μ.length t = true then some (.ok t ρ μ) else none
    | _ => none)
  | _ => none
  else none := rfl
def kset26 := @xMakeZ_k
end Fw
/-! # list(e) of a text -/
namespace PySem
section
variable {prog : Program} {w : World} {A : Around} {E : Value → Shared → Prop} {s : Shared}
theorem fw_list_init_str {R : Result → Shared → Prop} (hh : A.handled = none) (x : Str) (t : Tok) (S : Addr) (hS : s.heap.get? S = some { cls := .type "list", data := .seq #[] })
    (hR : ∀ s' acc' c', (∀ b o, b ≠ S → s.heap.get? b = some o → s'.heap.get? b = some o) → s'.gens = s.gens → s'.drawn = s.drawn → s'.os = s.os → s'.heap.get? S = some { cls := .type "list", dict := none, data := .seq acc' c', slots := #[] } → ItemsOf (SignAt x) acc' x.cps.size → R (.ok (.ret .none)) s') (hn : x.cps.size ≤ sizeLine) :
    wpAny (model prog w) A.in1 (Builtin.«list.__init__» ⟨[.ref S, .str x t], []⟩)
      (fun fin s' => match fin with | .done f => R (.ok f) s' | .again c' => c'.quiet = true ∧ codeAny (model prog w) A c' R s') (fun e s' => R (.error e) s') s := by
  show wpAny _ A.in1 (do let old ← Builtin.List.listItems (.ref S); Builtin.List.listUpdate (.ref S) (fun _ => #[]); letGo old.toList.reverse; Builtin.List.listExtendWith (.ref S) (.str x t) .none) _ _ s
  refine wpAny_bind ?_
  unfold Builtin.List.listItems
  refine wpAny_bind (wpAny_seqItems hS rfl (wpAny_pure ?_))
  show wpAny _ A.in1 (updateSeq S (fun _ => #[]) >>= fun _ => letGo (#[] : Array Value).toList.reverse >>= fun _ => Builtin.List.listExtendWith (.ref S) (.str x t) .none) _ _ s
  refine wpAny_bind (wpAny_updateSeq hS rfl ?_)
  have hS₂ := Heap.get?_update_self (Obj.mapSeq (fun _ => (#[] : Array Value))) hS rfl
  have oth : ∀ b o, b ≠ S → s.heap.get? b = some o → (s.heap.update S (Obj.mapSeq (fun _ => (#[] : Array Value)))).get? b = some o :=
    fun b o hb e => (Heap.get?_update_other _ _ (Ne.symm hb)).trans e
  have lt : S < (s.heap.update S (Obj.mapSeq (fun _ => (#[] : Array Value)))).objs.size := Heap.lt_size hS₂
  refine wpAny_bind (wpAny_letGo ?_)
  unfold Builtin.List.listExtendWith
  refine wpAny_bind (wpAny_typeOf (T := "str") (v := .str x t) rfl ?_)
  have h1 : Builtin.List.listSameRef (.ref S) (.str x t) = false := rfl
  have h2 : (Value.type "str" == Value.type "list") = false := by decide
  have h3 : (Value.type "str" == Value.type "tuple") = false := by decide
  simp only [h1, h2, h3, Bool.or_false, Bool.false_eq_true, if_false]
  refine wpAny_bind (wpAny_pyIter_str fun o St W hst => ?_)
  refine wpAny_bind (wpAny_holding ?_)
  unfold Builtin.List.listLengthHint
  refine wpAny_bind (wpAny_specialOf (T := "str") (v := .str x t) rfl F.str_len ?_)
  wp_delta
  refine wpAny_bind (wpAny_isInstance (T := "str") (v := .str x t) (b := true) rfl (by rw [isSubtype_type]; kernel_rfl) ?_)
  show wpAny _ A.in1 (typeOf (Value.str x t) >>= _) _ _ _
  refine wpAny_bind (wpAny_typeOf (T := "str") (v := .str x t) rfl ?_)
  refine wpAny_pure ?_
  rw [if_neg (by decide)]
  generalize s.heap.update S (Obj.mapSeq (fun _ => (#[] : Array Value))) = H at W hst hS₂ oth lt ⊢
  have hSf : S ∉ [H.objs.size] := fun hm => by rw [List.mem_singleton.mp hm] at lt; exact absurd lt (Nat.lt_irrefl _)
  have hS3 := Heap.get?_push_of_some o hS₂
  refine wpAny_pure ⟨plainId_quiet F.plain_extend_loop _, codeAny_extend_loopS (W A.in1 hh).toS hn _ hSf _ x.cps.size 0 _ _ _ rfl (Nat.zero_le _) hst hS3 (ItemsOf.nil _) fun s' acc' c' hm hS' hacc => ?_⟩
  refine hR s' acc' c' (fun b ob hb e => hm.heap b ob (fun hb2 => ?_) (Heap.get?_push_of_some _ (oth b ob hb e))) hm.gens hm.drawn hm.os hS' hacc
  rcases List.mem_cons.mp hb2 with h | h
  · exact hb h
  · have := Heap.lt_size (oth b ob hb e)
    rw [List.mem_singleton.mp h] at this
    exact absurd this (Nat.lt_irrefl _)
theorem fw_call_list_str {Q : Value → Shared → Prop} (hh : A.handled = none) (x : Str) (t : Tok)
    (hQ : ∀ s' acc' c', (∀ b o, s.heap.get? b = some o → s'.heap.get? b = some o) → s'.gens = s.gens → s'.drawn = s.drawn → s'.os = s.os → s'.heap.get? s.heap.objs.size = some { cls := .type "list", dict := none, data := .seq acc' c', slots := #[] } → ItemsOf (SignAt x) acc' x.cps.size → Q (.ref s.heap.objs.size) s') (hn : x.cps.size ≤ sizeLine) :
    wpAny (model prog w) A (call (.type "list") [.str x t]) Q E s := by
  refine callType_codes (Q₁ := fun obj s₁ => obj = .ref s.heap.objs.size ∧ s₁ = { s with heap := s.heap.push { cls := .type "list", data := .seq #[] } }) F.called_list (F.typeCall_list_1 _) F.entry_list_init
    (code_list_new _ ⟨rfl, rfl⟩) fun obj s₁ h₁ => ?_
  obtain ⟨rfl, rfl⟩ := h₁
  have hS : (s.heap.push { cls := .type "list", data := .seq #[] }).get? s.heap.objs.size = some { cls := .type "list", data := .seq #[] } := Heap.get?_push_size _ rfl
  refine ⟨⟨_, hS, rfl⟩, F.args_list_init_2 _ _, fw_list_init_str (A := A.in1) hh x t _ hS (fun s' acc' c' kp hg hd ho hS' hacc => ?_) hn⟩
  refine ⟨rfl, hQ s' acc' c' (fun b o e => kp b o (fun z => ?_) (Heap.get?_push_of_some _ e)) hg hd ho hS' hacc⟩
  have := Heap.lt_size e
  rw [z] at this
  exact absurd this (Nat.lt_irrefl _)
end
end PySem
namespace Fw
open PySem PySem.Spec PyProof.Rows L2
open Evl (Ex)
theorem call_list_str {X : Cx} (hc : X.calm = true) : CallR X (.type "list") (fun xs H Q => ∃ z : List Nat, xs = [.str (tr z)] ∧ z.length ≤ sizeLine ∧ ∀ l, H l = none → Q (.ref l) (upd H l (.lst (z.map fun c => V.str (tr [c]))))) := by
  intro pins s σ H xs us Q I r h
  obtain ⟨z, rfl, hz, q⟩ := h
  obtain ⟨u, rfl, t, rfl⟩ := vals1 r
  have hs : (tr z).cps.size = z.length := by simp [tr]
  refine fw_call_list_str (I.ok.hd hc) (tr z) t (fun s' acc c' kp hg hd ho hS' hacc => ?_) (by rw [hs]; exact hz)
  have es : s' = { s with heap := s'.heap, toks := s'.toks } := by
    obtain ⟨h', g', d', tk', os'⟩ := s'
    have e1 : g' = s.gens := hg
    have e2 : d' = s.drawn := hd
    have e3 : os' = s.os := ho
    subst e1 e2 e3
    rfl
  have hl : acc.size = z.length := by rw [hacc.1, hs]
  have vl : Vals (z.map fun c => V.str (tr [c])) acc.toList := by
    have key : ∀ (z : List Nat) (as : List Value), as.length = z.length → (∀ (j : Nat) (v : Value), as[j]? = some v → ∃ c u, z[j]? = some c ∧ v = .str ⟨#[c]⟩ u) → Vals (z.map fun c => V.str (tr [c])) as := by
      intro z
      induction z with
      | nil => intro as h _; cases as with
        | nil => exact .nil
        | cons a as => cases h
      | cons c z ih =>
        intro as h k
        cases as with
        | nil => cases h
        | cons a as =>
          obtain ⟨c', u, e1, e2⟩ := k 0 a rfl
          cases e1
          exact .cons ⟨u, e2⟩ (ih as (Nat.succ.inj h) fun j v e => k (j + 1) v e)
    refine key z acc.toList (by simpa using hl) fun j v e => ?_
    obtain ⟨c, u, e1, e2⟩ := hacc.2 j v (by simpa using e)
    exact ⟨c, u, by simpa [tr] using e1, e2⟩
  rw [es]
  exact ⟨.ref s.heap.objs.size, _, I.laid (t' := s'.toks) kp (Nat.le_refl _) (show ObjOk X.prog X.w _ s'.heap _ (.lst (z.map fun c => V.str (tr [c]))) from ⟨by rw [List.length_map]; exact hz, acc.toList, c', vl, by simpa using hS'⟩), rfl, q _ (I.hok.fresh (Nat.le_refl _))⟩
def lsK (d : D) : Option (List D) := match d with
  | .str s => if s.length ≤ LIM then some (s.map fun c => D.str [c]) else none
  | _ => none
def qListS (f : FQ) : FA := fun ρ μ => (f ρ μ).bind lsK
theorem RL_signs {K : PySem.W.Frag} {W : Wd} : ∀ s : List Nat, RL K W (s.map fun c => D.str [c]) (s.map fun c => V.str (tr [c])) []
  | [] => ⟨rfl, rfl⟩
  | c :: s => ⟨V.str (tr [c]), _, [], [], rfl, ⟨rfl, rfl⟩, RL_signs s, rfl⟩
theorem pn_listS {X : Cx} {e : Expr} {qq : FQ} {px pos : Pos} (he : PQ X e qq) (hc : X.calm = true) (hm : X.mg "list" = none) (hg : Gl X "list" := by rfl) (hv : bootBuiltins "list" = some (.type "list") := by decide +kernel) (hs : starEach [e] X.env = (false, eval e X.env) :: starEach [] X.env := by rfl) (hpl : (backTo pos (starEach [] X.env)).any (·.1) = false := by rfl) :
    PN X (.Call (.Name "list" px) [e] [] pos) (qListS qq) := by
  obtain ⟨te, pe, kv⟩ := he
  refine ⟨_, pe_callTy (call_list_str hc) hg hm hv (pa_cons pe pa_nil hs) (by decide) (by decide) hs hpl, fun σ W ρ μ F S ds hd Q q => ?_⟩
  obtain ⟨d, e1, hd⟩ := bind_some hd
  cases d with
  | str s =>
    have hd2 : (if s.length ≤ LIM then some (s.map fun c => D.str [c]) else none) = some ds := hd
    by_cases hl : s.length ≤ LIM
    case neg => rw [if_neg hl] at hd2; cases hd2
    rw [if_pos hl] at hd2
    cases hd2
    refine kv σ W ρ μ F S _ e1 _ fun y W1 G x1 r1 => ?_
    obtain ⟨rfl, rfl⟩ := r1
    refine ⟨s, rfl, Nat.le_of_lt (lim_lt hl), fun l hl2 => ?_⟩
    have x2 : Ext W1 (W1.put l (.lst (s.map fun c => V.str (tr [c])))) := Ext.put x1.ok hl2
    exact q l (W1.put l (.lst (s.map fun c => V.str (tr [c])))) ⟨x1.trans x2, Evl.fresh_back x1.ex hl2, fun z => x1.ok l z hl2, _, upd_same, RL_signs s⟩
  | _ => cases hd
theorem qListS_k (f : FQ) (x0 : D) (ρ μ : List D) : qListS f (x0 :: ρ) μ = (f (x0 :: ρ) μ).bind lsK := rfl
theorem lsK_str (s : List Nat) : lsK (.str s) = if s.length ≤ LIM then some (s.map fun c => D.str [c]) else none := rfl
def kset27 := And.intro @qListS_k @lsK_str
end Fw
/-! # a slice of a list as a new list -/
namespace Fw
open PySem PySem.Spec PyProof.Rows L2
open Evl (Ex)
def slK (x : D) (l h : Option Int) : Option (List D) := (asL x).map fun ds => cut ds l h
def aSl (f : FQ) (lo hi : FO) : FA := fun ρ μ => (f ρ μ).bind fun x => (lo ρ μ).bind fun l => (hi ρ μ).bind fun h => slK x l h
theorem pn_sl {X : Cx} {e : Expr} {lo hi : Option Expr} {f : FQ} {l h : FO} {pos p2 : Pos} (he : PQ X e f) (hl : POQ X lo l) (hh : POQ X hi h) : PN X (.Subscript e (.Slice lo hi none p2) pos) (aSl f l h) := by
  obtain ⟨t1, p1, k1⟩ := he
  obtain ⟨t2, p2', k2⟩ := hl
  obtain ⟨t3, p3, k3⟩ := hh
  refine ⟨_, pe_slice sl_list p1 p2' p3, fun σ W ρ μ F S out hd Q q => ?_⟩
  obtain ⟨x, e1, hd⟩ := bind_some hd
  obtain ⟨li, e2, hd⟩ := bind_some hd
  obtain ⟨hi', e3, hd⟩ := bind_some hd
  refine k1 σ W ρ μ F S x e1 _ fun v W1 G1 x1 r1 => ?_
  refine k2 σ W1 ρ μ F (S.ext x1) li e2 _ fun W2 x2 => ?_
  refine k3 σ W2 ρ μ F ((S.ext x1).ext x2) hi' e3 _ fun W3 x3 => ?_
  have r3 := R_ext (x2.trans x3) x r1
  have x13 := (x1.trans x2).trans x3
  obtain ⟨ds, e4, z⟩ := map_some hd
  subst z
  obtain ⟨a, vs, rfl, h2, h3⟩ := R_asL e4 r3
  refine ⟨a, vs, rfl, h2, fun p hp => ?_⟩
  have x4 : Ext W3 (W3.put p (.lst (cutV vs li hi'))) := Ext.put x3.ok hp
  exact q p _ ⟨x13.trans x4, Evl.fresh_back x13.ex hp, fun z => x3.ok p z hp, _, upd_same, RL_ext x4 _ (RL_cut h3)⟩
theorem aSl_eq (f : FQ) (lo hi : FO) (x0 : D) (ρ μ : List D) : aSl f lo hi (x0 :: ρ) μ = (f (x0 :: ρ) μ).bind fun x => (lo (x0 :: ρ) μ).bind fun l => (hi (x0 :: ρ) μ).bind fun h => slK x l h := rfl
theorem slK_lst (ds : List D) (l h : Option Int) : slK (.lst ds) l h = some (cut ds l h) := rfl
def kset28 := And.intro @aSl_eq @slK_lst
end Fw
/-! # a tuple some times over -/
namespace Fw
open PySem PySem.Spec PyProof.Rows L2
theorem tuple_mulA (l : Addr) (items : Array Value) (n : Nat) (dd : Option Addr) (sl : Array (Option Value)) (x : Int) (u : Tok) (c0 : (decide (x < -(2 ^ 63)) || decide (x ≥ 2 ^ 63)) = false) (c1 : (items.isEmpty || x == 1) = true) :
    Meets (Builtin.«tuple.__mul__» ⟨[.ref l, .int x u], []⟩) (fun _ R s => s.heap.get? l = some { cls := .type "tuple", dict := dd, data := .seq items n, slots := sl } ∧ R (.ok (.ret (Value.ref l))) s) :=
  .of_wp fun prog w A R s h => by
    obtain ⟨hp, g, d, tk, os⟩ := s
    obtain ⟨hl, h⟩ := h
    have f1 := AutoSeq1.idx_int
    wp_walk using wpAny_loadPart' hl
    repeat (first
      | (refine wpAny_ite_false (decide_eq_false (by rw [c0]; exact Bool.false_ne_true)) ?_; wp_walk using wpAny_loadPart' hl)
      | (refine wpAny_ite_true (decide_eq_true c1) ?_; wp_walk using wpAny_loadPart' hl))
    exact ⟨_, rfl, h⟩
theorem tuple_mulB (l : Addr) (items : Array Value) (n : Nat) (dd : Option Addr) (sl : Array (Option Value)) (x : Int) (u : Tok) (c0 : (decide (x < -(2 ^ 63)) || decide (x ≥ 2 ^ 63)) = false) (c1 : (items.isEmpty || x == 1) = false) (c2 : (decide (x ≤ 0) || items.isEmpty) = true) :
    Meets (Builtin.«tuple.__mul__» ⟨[.ref l, .int x u], []⟩) (fun _ R s => s.heap.get? l = some { cls := .type "tuple", dict := dd, data := .seq items n, slots := sl } ∧
      R (.ok (.ret (Value.ref s.heap.objs.size))) { s with heap := s.heap.push { cls := Value.type "tuple", data := Data.seq #[] }, toks := s.toks }) :=
  .of_wp fun prog w A R s h => by
    obtain ⟨hp, g, d, tk, os⟩ := s
    obtain ⟨hl, h⟩ := h
    have f1 := AutoSeq1.idx_int
    wp_walk using wpAny_loadPart' hl
    repeat (first
      | (refine wpAny_ite_false (decide_eq_false (by rw [c0]; exact Bool.false_ne_true)) ?_; wp_walk using wpAny_loadPart' hl)
      | (refine wpAny_ite_false (decide_eq_false (by rw [c1]; exact Bool.false_ne_true)) ?_; wp_walk using wpAny_loadPart' hl)
      | (refine wpAny_ite_true (decide_eq_true c2) ?_; wp_walk using wpAny_loadPart' hl))
    exact ⟨_, rfl, h⟩
def repD (ds : List D) (k : Nat) : List D := (List.replicate k ds).flatten
def rMulT (K : PySem.W.Frag) : R2 := fun x y H Q => ∃ l k xs, x = .ref l ∧ y = .int k ∧ SqT K H l xs ∧ -1000000 ≤ k ∧ k ≤ 1000 ∧ xs.length ≤ 1000 ∧
  ((xs = [] ∨ k = 1) → Q (.ref l) H) ∧ (¬ (xs = [] ∨ k = 1) → ∀ p, H p = none → Q (.ref p) (upd H p (.tup (List.replicate k.toNat xs).flatten)))
theorem op_mulT {X : Cx} : OpR X (binaryOp .Mult) (rMulT X.K) := by
  intro pins s σ H x y v u Q I rx ry h
  obtain ⟨l, k, xs, rfl, rfl, hT, h0, h2, hz, q1, q2⟩ := h
  by_cases hb : xs ≠ [] ∧ 2 ≤ k
  · exact op_repT pins s σ H _ _ v u Q I rx ry ⟨l, k, xs, rfl, rfl, hT, hb.1, hb.2, h2, hz, q2 (fun z => z.elim hb.1 (fun z => by omega))⟩
  cases rx
  obtain ⟨t, rfl⟩ := ry
  obtain ⟨its, r, ⟨⟨cls, dd, data, sl⟩, ho, hc, n, hd⟩, hs⟩ := I.tuple hT
  simp only at hc hd
  subst hc hd
  have hle : its.length = xs.length := r.length.symm
  have c0 : (decide (k < -(2 ^ 63)) || decide (k ≥ 2 ^ 63)) = false := by
    rw [decide_eq_false (by omega), decide_eq_false (by omega)] <;> rfl
  have hem : its.toArray.isEmpty = true ↔ xs = [] := by
    rw [← List.length_eq_zero_iff, ← hle, List.length_eq_zero_iff]
    cases its <;> simp
  by_cases hA : xs = [] ∨ k = 1
  · have c1 : (its.toArray.isEmpty || k == 1) = true := by
      rw [Bool.or_eq_true]
      exact hA.imp hem.mpr (fun z => by rw [z]; rfl)
    refine wpAny_binaryOp_repeat_ref (T := "tuple") (U := "int") (by decide) ⟨_, ho, rfl⟩ (fun s' => typeIs_int s' k t) noFill_tuple_mul F.fills_int_mul F.slot_int_rmul repeat_tuple F.slot_int_index.lookup
      (call_meets F.slot_int_rmul (typeIs_int s k t) F.entry_int_rmul (F.args_int_rmul_2 _ _) (int_rmul_tuple k t l its.toArray n dd sl)
        ⟨ho, rfl, ⟨_, ho, rfl⟩, call_meets F.slot_tuple_mul ⟨_, ho, rfl⟩ F.entry_tuple_mul (F.args_tuple_mul_2 _ _) (tuple_mulA l its.toArray n dd sl k t c0 c1) ⟨ho, ?_⟩⟩)
    exact ⟨.ref l, H, I, rfl, q1 hA⟩
  · have hk : k ≤ 0 := by
      have a1 : ¬ xs = [] := fun z => hA (.inl z)
      have a2 : ¬ k = 1 := fun z => hA (.inr z)
      have a3 : ¬ 2 ≤ k := fun z => hb ⟨a1, z⟩
      omega
    have c1 : (its.toArray.isEmpty || k == 1) = false := by
      rw [Bool.or_eq_false_iff]
      refine ⟨Bool.eq_false_iff.mpr fun z => hA (.inl (hem.mp z)), beq_eq_false_iff_ne.mpr fun z => hA (.inr z)⟩
    have c2 : (decide (k ≤ 0) || its.toArray.isEmpty) = true := by
      rw [decide_eq_true hk]
      rfl
    refine wpAny_binaryOp_repeat_ref (T := "tuple") (U := "int") (by decide) ⟨_, ho, rfl⟩ (fun s' => typeIs_int s' k t) noFill_tuple_mul F.fills_int_mul F.slot_int_rmul repeat_tuple F.slot_int_index.lookup
      (call_meets F.slot_int_rmul (typeIs_int s k t) F.entry_int_rmul (F.args_int_rmul_2 _ _) (int_rmul_tuple k t l its.toArray n dd sl)
        ⟨ho, rfl, ⟨_, ho, rfl⟩, call_meets F.slot_tuple_mul ⟨_, ho, rfl⟩ F.entry_tuple_mul (F.args_tuple_mul_2 _ _) (tuple_mulB l its.toArray n dd sl k t c0 c1 c2) ⟨ho, ?_⟩⟩)
    have e : (List.replicate k.toNat xs).flatten = [] := by
      rw [show k.toNat = 0 by omega]
      rfl
    refine ⟨.ref s.heap.objs.size, _, I.laid (t' := s.toks) (o := .tup (List.replicate k.toNat xs).flatten) (fun b ob q => Heap.get?_push_of_some _ q) (Nat.le_refl _) ?_, rfl, q2 hA _ (I.hok.fresh (Nat.le_refl _))⟩
    rw [e]
    exact ⟨Nat.zero_le _, [], .nil, IsTup.new _ _⟩
def dMulT (x y : D) : Option D := match x, y with
  | .tup ds, .int k => if ds.length ≤ 1000 ∧ -1000000 ≤ k ∧ k ≤ 1000 ∧ dataL ds = true then some (.tup (repD ds k.toNat)) else none
  | _, _ => none
theorem RL_rep {K : PySem.W.Frag} {W : Wd} {ds : List D} {vs : List V} (h : RL K W ds vs []) : ∀ n : Nat, RL K W (List.replicate n ds).flatten (List.replicate n vs).flatten []
  | 0 => ⟨rfl, rfl⟩
  | n + 1 => by
    rw [List.replicate_succ, List.replicate_succ, List.flatten_cons, List.flatten_cons]
    exact RL_app (F := []) (G := []) h (RL_rep h n)
theorem opd_mulT {X : Cx} : OpD X (binaryOp .Mult) dMulT := by
  refine ⟨_, op_mulT, fun W x y u v G1 G2 ok r1 r2 d hd Q q => ?_⟩
  unfold dMulT at hd
  split at hd
  case h_2 => cases hd
  rename_i ds k
  obtain ⟨a, vs, rfl, hS, hR⟩ := r1
  obtain ⟨rfl, _⟩ := r2
  by_cases h : ds.length ≤ 1000 ∧ -1000000 ≤ k ∧ k ≤ 1000 ∧ dataL ds = true
  case neg => rw [if_neg h] at hd; cases hd
  rw [if_pos h] at hd
  cases hd
  obtain ⟨h1, h2, h3, h4⟩ := h
  have z := RL_data ds h4 hR
  subst z
  have hl := RL_len hR
  refine ⟨a, k, vs, rfl, rfl, hS, h2, h3, by omega, fun hA => ?_, fun hA p hp => ?_⟩
  · refine q _ W [] (Ext.refl ok) ⟨a, vs, rfl, hS, ?_⟩
    rcases hA with z | z
    · have : ds = [] := List.length_eq_zero_iff.mp (by rw [← hl, z]; rfl)
      subst this
      have e : repD [] k.toNat = [] := by
        unfold repD
        induction k.toNat with
        | zero => rfl
        | succ n ih => rw [List.replicate_succ, List.flatten_cons, ih]; rfl
      rw [e]
      exact hR
    · subst z
      have e : repD ds (1 : Int).toNat = ds := by
        show (List.replicate 1 ds).flatten = ds
        simp
      rw [e]
      exact hR
  · exact q _ _ [] (Ext.put ok hp) (R_newT (F := []) ok hp (RL_rep hR k.toNat))
theorem dMulT_k {ds : List D} {k : Int} (h1 : ds.length ≤ 1000) (h2 : -1000000 ≤ k) (h3 : k ≤ 1000) (h4 : dataL ds = true) : dMulT (.tup ds) (.int k) = some (.tup (repD ds k.toNat)) := if_pos ⟨h1, h2, h3, h4⟩
theorem repD_one (d : D) (k : Nat) : repD [d] k = List.replicate k d := by
  unfold repD
  induction k with
  | zero => rfl
  | succ k ih => rw [List.replicate_succ, List.flatten_cons, ih, List.replicate_succ]; rfl
def kset29 := @dMulT_k
end Fw
/-! # any(..) and all(..) of a list where an exception is handled -/
namespace Fw
open PySem PySem.Spec PyProof.Rows L2
open HotX (HotAt)
theorem hot_list_end {prog : Program} {w : World} {A : Around} {E : Value → Shared → Prop} {s : Shared} {it l y : Addr} {i : Nat} {xs : Array Value} {Q : Option Value → Shared → Prop} (hot : HotAt A y s.heap)
    (hi : s.heap.IsListIter it l i) (hl : s.heap.IsList l xs) (hx : xs[i]? = none) (ny : y ≠ it) (q : ∀ h', Heap.ExtBut it s.heap h' → Q none { s with heap := h' }) : wpAny (model prog w) A (pyNext (.ref it)) Q E s := by
  obtain ⟨o, ho, hc, hd⟩ := id hi
  obtain ⟨ol, hol, _, nl, hdl⟩ := hl
  obtain ⟨hh, oy, vy, gy, dy, cy⟩ := hot
  unfold pyNext
  refine wpAny_bind (wpAny_attempt (wpAny_callSpecial?_slot (name := Str.ofString "__next__") hi.typeIs slot_listiter_next (wpAny_call_entry slot_listiter_next hi.typeIs entry_listiter_next ?_ (args_listiter_next _))))
  show wpAny (model prog w) A.in1 (field (.ref it) 0 >>= _) _ _ s
  refine wpAny_bind (wpAny_field ho hd (x := Value.ref l) rfl ?_)
  show wpAny (model prog w) A.in1 (if (Value.ref l == Value.none) = true then _ else _) _ _ s
  rw [if_neg (fun z : (Value.ref l == Value.none) = true => Bool.false_ne_true z)]
  show wpAny (model prog w) A.in1 (field (.ref it) 1 >>= _) _ _ s
  refine wpAny_bind (wpAny_field ho hd (x := Value.int i 0) rfl ?_)
  show wpAny (model prog w) A.in1 (seqItems? (.ref l) >>= _) _ _ s
  refine wpAny_bind (wpAny_seqItems hol hdl ?_); simp only [Int.toNat_natCast, hx]
  refine wpAny_bind (wpAny_rule (wpAny_bind (wpAny_setField ho hd (by simp) ?_))); show wpAny _ _ (newExc (.type "StopIteration") [] >>= _) _ _ _
  refine wpAny_bind ?_; simp only [newExc, newTuple]
  refine wpAny_bind (wpAny_newObj_type ?_ (by size_fits)); refine wpAny_bind (m := firstArgMember _ _) (wpAny_of_eq (a := Value.none) (by first | rfl | (simp only [firstArgMember]; rfl)) ?_)
  refine wpAny_newObj_type (A := A.in1) ?_ (by size_fits)
  refine HotX.raiseNew_hot (A := A.in1) (x1 := y) ⟨hh, oy, vy, Heap.get?_push_of_some _ (Heap.get?_push_of_some _ ((Heap.get?_update_other _ _ ny.symm).trans gy)), dy, cy⟩ (Nat.ne_of_lt (Heap.lt_size (Heap.get?_push_of_some _ ((Heap.get?_update_other _ _ ny.symm).trans gy)))) (Heap.get?_push_size _ rfl) rfl (by first | (simp; done) | (simp; omega) | (simp only [Array.size_append]; simp; omega)) ?_
  refine wpAny_bind (wpAny_isInstance (T := "StopIteration") (b := true) ⟨_, Heap.get?_update_self _ (Heap.get?_push_size _ rfl) rfl, rfl⟩ isSubtype_stop (wpAny_pure (q _ fun b o hb e => ?_)))
  have e1 := fun f : Obj → Obj => (Heap.SameBut.update s.heap it f).extBut b o hb e
  rw [Heap.get?_update_other _ _ (Nat.ne_of_gt (Heap.lt_size (Heap.get?_push_of_some _ (e1 _))))]
  exact Heap.get?_push_of_some _ (Heap.get?_push_of_some _ (e1 _))
/-- the walk over a list, an exception y handled -/
theorem walks_hot {prog : Program} {w : World} {A : Around} (y I ax : Addr) (hh : A.handled = some (.ref y)) (h1 : ax ≠ I) (h2 : y ≠ I) (xs : Array Value) :
    Walks prog w A I [I, ax, y] [I] xs.size (fun i v => xs[i]? = some v) (fun i h => h.IsListIter I ax i ∧ h.IsList ax xs ∧ HotAt A y h) where
  sub := fun b hb => by simp at hb; simp [hb]
  frame := fun _ _ _ st hk => ⟨st.1.at fun o e => hk I (by simp) o e, st.2.1.at fun o e => hk ax (by simp) o e, hh, by
    obtain ⟨_, o, vs, g, d, c⟩ := st.2.2
    exact ⟨o, vs, hk y (by simp) o g, d, c⟩⟩
  item := fun i s Q E hi st hQ => wpAny_pyNext_list_item st.1 st.2.1 (x := xs[i]) (by simp [hi]) fun h' hit' sb =>
    hQ _ h' s.toks (by simp [hi]) ⟨hit', st.2.1.extBut sb.extBut h1, hh, by
      obtain ⟨_, o, vs, g, d, c⟩ := st.2.2
      exact ⟨o, vs, sb.extBut y o h2 g, d, c⟩⟩ fun b o hb e => sb.extBut b o (fun z => hb (by simp [z])) e
  done := fun s Q E st hQ => hot_list_end st.2.2 st.1 st.2.1 (by simp) h2 fun h' he' => hQ h' s.toks fun b o hb e => he' b o (fun z => hb (by simp [z])) e
  self := fun _ _ _ _ st hQ => wpAny_pyIter_listiter st.1 hQ
section
variable {X : Cx}
theorem cr_anyH (hc : L2H.HotC X) : CallR X (.builtin "any") (rAny X.K) := by
  intro pins s σ H vs us Q I r h
  obtain ⟨a, bs, rfl, hs, q⟩ := h
  obtain ⟨its, rv, hl, _⟩ := I.list hs
  obtain ⟨y, hot⟩ := hc.at I
  have hb := rv.bls
  rw [Vals.ref1 r]
  refine call_any_walk (iter_any hl.isList fun s2 e2 st hne => ?_)
  subst e2
  have hy : y ≠ s.heap.objs.size := by
    obtain ⟨_, o, _, g, _, _⟩ := hot
    exact Nat.ne_of_lt (Heap.lt_size g)
  refine ⟨_, _, _, _, _, _, _, rfl, walks_hot (A := X.A.in1) y _ a hot.1 hne hy its.toArray, ⟨st.1, st.2, hot.1, ?_⟩, truth_bools hb, fun h' tk hk => ?_⟩
  · obtain ⟨_, o, vs, g, d, c⟩ := hot
    exact ⟨o, vs, Heap.get?_push_of_some _ g, d, c⟩
  · refine ⟨.bl _, H, I.kept fun b o eo => hk b o (fun z => ?_) (Heap.get?_push_of_some _ eo), ?_, q⟩
    · rcases List.mem_cons.mp z with z | z
      · exact absurd (z ▸ Heap.lt_size eo) (Nat.lt_irrefl _)
      · cases z
    · show Value.bool _ = Value.bool _
      rw [← L2.any_range, hb, List.size_toArray, List.length_map]
end
/-- a suite's context bears what it handles -/
theorem hot_suite {X : Cx} {a : Addr} {oe : Obj} {cls : Value} {d : Option Addr} {pn : List (Addr × Obj)} (hz : L2N.Zn cls d oe) (hf : ∃ vs, oe.data = .fields vs) : L2H.HotC (X.suite a ((a, oe) :: pn)) := by
  obtain ⟨vs, e⟩ := hf
  exact ⟨(a, oe), ⟨rfl, vs, e, hz.2.2 vs e⟩, List.mem_cons_self ..⟩
theorem cd_anyH {X : Cx} (hc : L2H.HotC X) : CallD X (.builtin "any") (o1 fun x => (asL x).bind fun ds => (boolsD ds).map fun bs => .bl (bs.any id)) := by
  refine ⟨_, cr_anyH hc, fun W ds vs G ok r d hd Q q => ?_⟩
  match ds, hd with
  | [x], hd =>
    obtain ⟨v, rfl, r1⟩ := RL_one r
    obtain ⟨es, e1, hd⟩ := bind_some (show (asL x).bind (fun ds => (boolsD ds).map fun bs => D.bl (bs.any id)) = some d from hd)
    obtain ⟨bs, e2, z⟩ := map_some hd
    obtain ⟨a, ws, rfl, h2, h3⟩ := R_asL e1 r1
    rw [R_bools e2 h3] at h2
    subst z
    exact ⟨a, bs, rfl, h2, q _ W [] (Ext.refl ok) ⟨rfl, rfl⟩⟩
/-! ### in a suite, where its context may be asked -/
section
variable {X : Cx} {ob : List Nat} {i : Nat} {e : Expr} {f : FQ} {t : FB} {st : Stmt} {g : FS}
theorem pj_qz (h : ∀ (a : Addr) (oe : Obj) (cls : Value) (d : Option Addr) (pn : List (Addr × Obj)), L2N.Zn cls d oe → (∃ vs, oe.data = .fields vs) → PQ (X.suite a ((a, oe) :: pn)) e f) : PJ X i e (fun _ _ => f) :=
  ⟨fun _ _ _ => canonE X.K f, fun a oe cls d pn hz hf => pq_canon (h a oe cls d pn hz hf), fun a d c fs σ W ρ μ F _ _ S r hr Q k => ⟨W, ρ, μ, F, r, rfl, S, hr, k⟩⟩
theorem ptj_qz (h : ∀ (a : Addr) (oe : Obj) (cls : Value) (d : Option Addr) (pn : List (Addr × Obj)), L2N.Zn cls d oe → (∃ vs, oe.data = .fields vs) → PB (X.suite a ((a, oe) :: pn)) e t) : PTJ X i e (fun _ _ => t) :=
  ⟨fun _ _ _ => tBv X.K t, fun a oe cls d pn hz hf => (h a oe cls d pn hz hf).can, fun a d c fs σ W ρ μ F _ _ S b hb Q k => ⟨W, ρ, μ, F, b, rfl, S, hb, k⟩⟩
end
theorem asL_ml {ds : List D} (h : dataL ds = true) : asL (.ml ds) = some ds := if_pos h
def kset30 := @asL_ml
end Fw
/-! # a list put behind a list, as a new list -/
namespace Fw
open PySem PySem.Spec PyProof.Rows L2
open Evl (Ex)
def addLK (x y : D) : Option (List D) := (asL x).bind fun a => (asL y).bind fun b => if a.length + b.length ≤ LIM then some (a ++ b) else none
def aAddL (f g : FQ) : FA := fun ρ μ => (f ρ μ).bind fun x => (g ρ μ).bind fun y => addLK x y
theorem pn_addL {X : Cx} {a b : Expr} {f g : FQ} {pos : Pos} (ha : PQ X a f) (hb : PQ X b g) : PN X (.BinOp a .Add b pos) (aAddL f g) := by
  obtain ⟨t1, p1, k1⟩ := ha
  obtain ⟨t2, p2, k2⟩ := hb
  refine ⟨_, pe_op op_catR p1 p2, fun σ W ρ μ F S out hd Q q => ?_⟩
  obtain ⟨x, e1, hd⟩ := bind_some hd
  obtain ⟨y, e2, hd⟩ := bind_some hd
  obtain ⟨ds, e3, hd⟩ := bind_some hd
  obtain ⟨es, e4, hd⟩ := bind_some hd
  by_cases hl : ds.length + es.length ≤ LIM
  case neg => rw [if_neg hl] at hd; cases hd
  rw [if_pos hl] at hd
  cases hd
  refine k1 σ W ρ μ F S x e1 _ fun v W1 G1 x1 r1 => ?_
  refine k2 σ W1 ρ μ F (S.ext x1) y e2 _ fun u W2 G2 x2 r2 => ?_
  obtain ⟨p, vs, rfl, h2, h3⟩ := R_asL e3 (R_ext x2 x r1)
  obtain ⟨p', vs', rfl, h2', h3'⟩ := R_asL e4 r2
  have x12 := x1.trans x2
  refine ⟨p, p', vs, vs', rfl, rfl, h2, h2', by rw [RL_len h3, RL_len h3']; exact lim_ok hl, fun z hz => ?_⟩
  have x3 : Ext W2 (W2.put z (.lst (vs ++ vs'))) := Ext.put x12.ok hz
  exact q z _ ⟨x12.trans x3, Evl.fresh_back x12.ex hz, fun w => x12.ok z w hz, _, upd_same, RL_ext x3 _ (RL_app (F := []) (G := []) h3 h3')⟩
theorem aAddL_eq (f g : FQ) (x0 : D) (ρ μ : List D) : aAddL f g (x0 :: ρ) μ = (f (x0 :: ρ) μ).bind fun x => (g (x0 :: ρ) μ).bind fun y => addLK x y := rfl
theorem addLK_ll {a b : List D} (h : a.length + b.length ≤ 1000000) : addLK (.lst a) (.lst b) = some (a ++ b) := if_pos (lk h)
theorem addLK_ml {a b : List D} (d : dataL a = true) (h : a.length + b.length ≤ 1000000) : addLK (.ml a) (.lst b) = some (a ++ b) := by
  unfold addLK
  rw [asL_ml d]
  exact if_pos (lk h)
theorem addLK_lm {a b : List D} (d : dataL b = true) (h : a.length + b.length ≤ 1000000) : addLK (.lst a) (.ml b) = some (a ++ b) := by
  unfold addLK
  rw [asL_ml d]
  exact if_pos (lk h)
def kset31 := And.intro @aAddL_eq <| And.intro @addLK_ll <| And.intro @addLK_ml @addLK_lm
end Fw
/-! # a comprehension whose element may raise -/
namespace Fw
open PySem PySem.Spec PyProof.Rows L2
open Evl (Ex)
/-! ### what is raised in the block passes to the def -/
theorem ff_but {h h' B : Heap} {C : Addr} (k : ∀ b o, b ≠ C → h.get? b = some o → h'.get? b = some o) : ∀ {l : List Env}, h.FunFrames B l → (∀ L ∈ frs l, L ≠ C) → h'.FunFrames B l
  | [], _, _ => trivial
  | env :: l, hl, hn => by
    obtain ⟨a1, ⟨L, o, hf, b1, c1, d1⟩, r⟩ := hl
    exact ⟨a1, ⟨L, o, hf, b1, k L o (hn L (List.mem_filterMap.mpr ⟨env, List.mem_cons_self, hf⟩)) c1, d1⟩, ff_but k r fun b hb => hn b (by
      obtain ⟨e, he, q⟩ := List.mem_filterMap.mp hb
      exact List.mem_filterMap.mpr ⟨e, List.mem_cons_of_mem _ he, q⟩)⟩
theorem note_same {scope : Scope} {cl : List (Str × Addr)} {C : Addr} {env : Env} (x : Value) : noteFrame x (compEnvC scope cl C env) = noteFrame x env := rfl
abbrev blkR (X : Cx) (s : Shared) (H : Hp) (scope : Scope) (ce : Env) (fp : List Addr) (xe : Value → Shared → Prop) : Cx := { X.blk s H scope ce fp with xe := xe }
theorem Inv.reX {X : Cx} {pins : List (Addr × Obj)} {σ : L2.St} {H : Hp} {s : Shared} {xe : Value → Shared → Prop} (I : Inv X pins σ H s) : Inv { X with xe := xe } pins σ H s :=
  ⟨⟨I.ok.mod, I.ok.kind, I.ok.glob, I.ok.blt, I.ok.above, I.ok.inj, I.ok.has, I.ok.cab, I.ok.hd, I.ok.frames, I.ok.stk, I.ok.exf, I.ok.bs, I.ok.bsz, I.ok.noex, I.ok.exfs, I.ok.funs, I.ok.frf⟩, I.os, I.bare, I.base, I.loc, I.cell, I.free, I.freeC, I.pin, I.hok, I.len⟩
theorem blk_raise {X : Cx} {Wx : WX} {pins : List (Addr × Obj)} {σ : L2.St} {H3 : Hp} {s3 : Shared} {scope : Scope} {cl : List (Str × Addr)} {fp : List Addr} {xe : Value → Shared → Prop} {D : Value} {Qf : Value → Shared → Prop}
    (hst : X.stack = X.env :: X.outer) (hfr : X.env.frame = some X.env.locals) (tk : L2N.Takes X Wx) (I3 : Inv X pins σ H3 s3) (hfp : ∀ b ∈ fp, (b ∈ X.ex ∨ X.s_0.heap.objs.size ≤ b) ∧ b ≠ X.env.locals ∧ (∀ x c, X.env.cells.lookup x = some c → c ≠ b) ∧ ∀ p ∈ X.pn ++ pins, p.1 ≠ b)
    (hxe : xe = notedBy (model X.prog X.w) X.A (compEnvC scope cl s3.heap.objs.size X.env) fun e s' => compEnds (model X.prog X.w) X.A X.xe none Qf D (compEnvC scope cl s3.heap.objs.size X.env) (.error e) s') (τ : L2.St) :
    PassesAt (L2N.CX X.prog X.w) (blkR X s3 H3 scope (compEnvC scope cl s3.heap.objs.size X.env) fp xe) τ (WE (fun cls d _ H' => Wx cls d σ H') τ) := by
  intro ps H s e s' I c
  obtain ⟨a, B, H', cls, d, rfl, fl, hok, ub, na, os, ag, hE⟩ := c
  have fl : HandSPX.FlyingZ B X.stack a (L2N.Zn cls d) s'.heap := fl
  -- the state without the exception
  obtain ⟨G, g1, g2⟩ := restrict s'.heap fun b => (B.get? b).isSome || decide (b ∈ frs X.stack)
  have st : B.StaysIn s'.heap := fl.1
  have gB : ∀ b o, B.get? b = some o → G.get? b = some o := fun b o e => (g1 b (by simp [e])).trans (st b o e)
  have gF : ∀ b, b ∈ frs X.stack → G.get? b = s'.heap.get? b := fun b hb => g1 b (by simp [hb])
  have og : ∀ b o, G.get? b = some o → s'.heap.get? b = some o ∧ ((B.get? b).isSome = true ∨ b ∈ frs X.stack) := fun b o e => by
    by_cases q : ((B.get? b).isSome || decide (b ∈ frs X.stack)) = true
    · rw [g1 b q] at e
      exact ⟨e, by simpa [Bool.or_eq_true] using q⟩
    · rw [g2 b (Bool.eq_false_iff.mpr q)] at e
      cases e
  have J : Inv (blkR X s3 H3 scope (compEnvC scope cl s3.heap.objs.size X.env) fp xe) ps τ H' { s with heap := G, gens := s'.gens, drawn := s'.drawn, toks := s'.toks } := by
    refine I.call (ch := []) ⟨fun b o e n hb _ => gB b o (ub.keep b o e n hb), fun b o e n hb _ => ?_, fun b o e n _ => ub.free b o e n, fun b o e _ => ?_, ub.tups, ub.frzs, ub.tbls⟩ (hok.kept gB) ag (fun _ z => nomatch z)
    · obtain ⟨sl, q⟩ := ub.slot b o e hb
      exact ⟨sl, (gF b hb).trans q⟩
    · by_cases hb : b ∈ frs X.stack
      · obtain ⟨sl, q⟩ := ub.slot b o e hb
        exact ⟨_, (gF b hb).trans q⟩
      · obtain ⟨o', q⟩ := ub.there b o e hb
        exact ⟨o', gB b o' q⟩
  have nb : ∀ b o, G.get? b = some o → b ∉ frs X.stack → B.get? b = some o := fun b o e hb => by
    obtain ⟨e', h⟩ := og b o e
    rcases h with h | h
    · obtain ⟨o', q⟩ := Option.isSome_iff_exists.mp h
      have z := st b o' q
      rw [e'] at z
      cases z
      exact q
    · exact absurd h hb
  have up : G.UpToSlots s'.heap := Heap.UpToSlots.of_keeps fun b o e => (og b o e).1
  -- the block's frame is the def's
  have hA : X.A.frames = some (X.env :: X.outer) := by rw [← hst]; exact I3.ok.frames
  show xe (.ref a) s'
  rw [hxe]
  show wpAny _ X.A (noteFrame (.ref a) (compEnvC scope cl s3.heap.objs.size X.env)) _ _ s'
  rw [note_same]
  rw [hst] at fl
  refine PXN.looks_onZ L2N.Zn.steady hA hfr fl fun h1 held up1 => ?_
  have J1 : Inv (blkR X s3 H3 scope (compEnvC scope cl s3.heap.objs.size X.env) fp xe) ps τ H' { s' with heap := h1 } := J.landed (B := B) nb held.1 (up.trans up1) os ag
  obtain ⟨m, hn, _⟩ := J1.loc
  refine ⟨m, hn, fun h2 m2 _ sb => ?_⟩
  obtain ⟨k1, k2, k3, oe, vs, T, oT, ts, he, hz, hd, hv1, nT, Ta, hT, hdT, hv3⟩ := held
  obtain ⟨oC, es, ep, gC, dC, _⟩ := hn
  have aC : a ≠ s3.heap.objs.size := fun z => by
    rw [z] at he
    rw [show h1.get? s3.heap.objs.size = some oC from gC] at he
    cases he
    rw [dC] at hd
    cases hd
  have TC : T ≠ s3.heap.objs.size := fun z => by
    rw [z] at hT
    rw [show h1.get? s3.heap.objs.size = some oC from gC] at hT
    cases hT
    rw [dC] at hdT
    cases hdT
  have sb' : ∀ b, b ≠ s3.heap.objs.size → h2.get? b = h1.get? b := sb.2
  have nC : H' s3.heap.objs.size = none := J.free
  have fC : FpOk X pins H' s3.heap.objs.size := I3.fpOk (Nat.le_refl _) nC
  obtain ⟨f0, f1, f2, f3, f4, f5⟩ := fC
  have frC : ∀ L ∈ frs (X.env :: X.outer), L ≠ s3.heap.objs.size := fun L hL z => by
    rw [← hst] at hL
    rcases List.mem_cons.mp (I3.stkSub L hL) with y | y
    · exact f1 (z ▸ y)
    · exact f2 (z ▸ y)
  -- the ground without the block's names
  obtain ⟨B', b1, b2⟩ := restrict B fun b => decide (b ≠ s3.heap.objs.size)
  have bs : ∀ b o, B'.get? b = some o → b ≠ s3.heap.objs.size ∧ B.get? b = some o := fun b o e => by
    by_cases q : b = s3.heap.objs.size
    · rw [b2 b (by simp [q])] at e
      cases e
    · exact ⟨q, (b1 b (by simp [q])).symm.trans e⟩
  have bn : ∀ b, B.get? b = none → B'.get? b = none := fun b e => by
    cases q : B'.get? b with
    | none => rfl
    | some o =>
      rw [(bs b o q).2] at e
      cases e
  have held2 : HandSPX.HeldZ B' (X.env :: X.outer) a (L2N.Zn cls d) X.env.locals h2 :=
    ⟨fun b o e => (sb' b (bs b o e).1).trans (k1 b o (bs b o e).2), bn a k2, funFrames_none (ff_but (fun b o hb e => (sb' b hb).trans e) k3 frC) fun L hL => bn L (k3.mem hL).1,
      oe, vs, T, oT, ts, (sb' a aC).trans he, hz, hd, hv1, bn T nT, Ta, (sb' T TC).trans hT, hdT, hv3⟩
  unfold PySem.passOn
  refine wpAny_bind (wpAny_field ((sb' a aC).trans he) hd hv1 ?_)
  rw [if_neg (fun z : (Value.ref T == Value.none) = true => by simp at z)]
  have fin : wpAny (model X.prog X.w) X.A (setFlight (.ref a) X.env.frame) (fun _ s4 => wpAny (model X.prog X.w) X.A (throw (.ref a) : Sem Value) (fun _ _ => False) X.xe s4) X.xe { s' with heap := h2 } := by
    rw [hfr]
    refine HandSPX.setFlight_onZ (s := { s' with heap := h2 }) held2 fun h4 held4 up4 => wpAny_throw (tk _ _ ?_)
    obtain ⟨GX, x1, x2⟩ := restrict G fun b => decide (b ≠ s3.heap.objs.size)
    have gx : ∀ b o, GX.get? b = some o → b ≠ s3.heap.objs.size ∧ G.get? b = some o := fun b o e => by
      by_cases q : b = s3.heap.objs.size
      · rw [x2 b (by simp [q])] at e
        cases e
      · exact ⟨q, (x1 b (by simp [q])).symm.trans e⟩
    have I7 : Inv X pins σ H' { s with heap := G, gens := s'.gens, drawn := s'.drawn, toks := s'.toks } := I3.call' (ch := fp) J.os J.base J.hok J.bare hfp
    have I8 : Inv X pins σ H' { s with heap := GX, gens := s'.gens, drawn := s'.drawn, toks := s'.toks } := I7.turned (t' := s'.toks) (fun b o hb e => (x1 b (by simp [hb])).trans e) f0 f1 f3 f4 f5
    refine ⟨a, B', { s with heap := GX, gens := s'.gens, drawn := s'.drawn, toks := s'.toks }, pins, σ, H', cls, d, rfl, I8, fun b o e hb => ?_, fun b o e hnf => ?_, .inr (.inr (by rw [hst]; exact held4)), na, os, ag, hE⟩
    · obtain ⟨q1, q2⟩ := gx b o e
      exact (b1 b (by simp [q1])).trans (nb b o q2 hb)
    · obtain ⟨q1, q2⟩ := gx b o e
      obtain ⟨sl, q3⟩ := (up.trans up1) b o q2 hnf
      obtain ⟨sl2, q4⟩ := up4 b { o with slots := sl } ((sb' b q1).trans q3) hnf
      exact ⟨sl2, q4⟩
  first
    | exact wpAny_bind (wpAny_pure (wpAny_bind fin))
    | exact wpAny_bind fin
end Fw
/-! # [e for x in xs], e may raise -/
namespace Fw
open PySem PySem.Spec PyProof.Rows L2
open Evl (Ex)
theorem pe_lcR {X : Cx} {Wx : WX} {elt tg iter : Expr} {ifs : List Expr} {scope : Scope} {own : List (Str × Nat)} {pos : Pos} {wi : TI} {g : TG} {tt : TT} {te : WX → TE}
    (hst : X.stack = X.env :: X.outer) (hfr : X.env.frame = some X.env.locals) (tk : L2N.Takes X Wx) (hc : X.calm = true) (hN : X.N.Nodup) (hi : PI X tg iter wi) (ok : BlkOk X.N X.env.scope scope own)
    (hg : ∀ (s : Shared) (H : Hp) (C : Addr) (cl : List (Str × Addr)) (fp : List Addr), PG (X.blk s H scope (compEnvC scope cl C X.env) fp) tg g)
    (ht : ∀ (s : Shared) (H : Hp) (C : Addr) (cl : List (Str × Addr)) (fp : List Addr), PTs (X.blk s H scope (compEnvC scope cl C X.env) fp) ifs tt)
    (he : ∀ (Wb : WX) (s : Shared) (H : Hp) (C : Addr) (cl : List (Str × Addr)) (fp : List Addr) (xe : Value → Shared → Prop), (∀ τ, PassesAt (L2N.CX X.prog X.w) (blkR X s H scope (compEnvC scope cl C X.env) fp xe) τ (WE Wb τ)) → PE (blkR X s H scope (compEnvC scope cl C X.env) fp xe) elt (te Wb))
    (hs : ∀ x, foldedSetIterable iter X.env x = pure x := by intro _; rfl) :
    PE X (.ListComp elt [⟨tg, iter, ifs, 0⟩] scope pos) (fun σ H Q => tLc wi g tt (te fun cls d _ H' => Wx cls d σ H') (own.map (·.2)) σ H Q) := by
  refine ⟨fun pz s σ H Q K h => ?_⟩
  rw [eval_ListComp]
  have capt : ∀ y ∈ scope.names, y.2 = .free → ∃ c, X.env.cells.lookup y.1 = some c := fun y hy e => (ok.free y hy e).elim (fun k => K.ok.has _ (.inl k)) (fun k => K.ok.has _ (.inr k))
  refine comprehension_at (use := none) rfl hs (closure_ok capt) ok.kind (fun y hy e => by rw [ok.uniq y hy, e]) (thn (hi.run pz s σ H _ K h) fun xv t1 hx => thn hx fun itv t2 h2 => ?_)
  obtain ⟨it, fp, tn, J, G2, e, K2, T, z2, u2, q⟩ := h2
  subst e
  refine wpAny_newObj_type (newEnv_comp ?_) (by show 0 ≤ sizeLine; decide)
  generalize eD : t2.heap.objs.size = D
  obtain ⟨Wn, ⟨m0, w0⟩, trn⟩ := q D (K2.hok.fresh (Nat.le_of_eq eD))
  generalize e3 : ({ t2 with heap := t2.heap.push { cls := .type "list", data := .seq ([] : List Value).toArray } } : Shared) = t3
  have K3 : Inv X pz σ (upd G2 D (.lst [])) t3 := by
    rw [← e3]
    refine K2.laid (t' := t2.toks) (fun b o e => Heap.get?_push_of_some _ e) (Nat.le_of_eq eD) ⟨Nat.zero_le _, [], 0, .nil, ?_⟩
    rw [← eD]
    exact Heap.get?_push_size _ rfl
  have h3 : t3.heap = t2.heap.push { cls := .type "list", data := .seq ([] : List Value).toArray } := by rw [← e3]
  have below : ∀ b ∈ fp, b < t2.heap.objs.size := fun b hb => by
    obtain ⟨o, e, _⟩ := T.obj _ _ z2 b hb
    exact Heap.lt_size e
  have u3 : ∀ b ∈ fp, FpOk X pz (upd G2 D (.lst [])) b ∧ b < t3.heap.objs.size := fun b hb => by
    have lt := below b hb
    refine ⟨⟨?_, (u2 b hb).2⟩, by rw [h3, Heap.size_push]; exact Nat.lt_succ_of_lt lt⟩
    rw [upd_ne (fun z => Nat.lt_irrefl D (by rw [← z] at eD; rw [← eD] at lt; exact absurd lt (Nat.lt_irrefl _)))]
    exact (u2 b hb).1
  have z3 : tn 0 t3.heap := T.keep _ _ _ z2 fun b _ o e => by
    rw [h3]
    exact Heap.get?_push_of_some _ e
  have K4 := block_start K3 ok hN u3
  have pgo := hg t3 (upd G2 D (.lst [])) t3.heap.objs.size (cellsFrom (t3.heap.objs.size + 1) scope.names (cloFrom X.env.cells scope.names [])) fp
  have pte := ht t3 (upd G2 D (.lst [])) t3.heap.objs.size (cellsFrom (t3.heap.objs.size + 1) scope.names (cloFrom X.env.cells scope.names [])) fp
  have pel := he (fun cls d _ H' => Wx cls d σ H') t3 (upd G2 D (.lst [])) t3.heap.objs.size (cellsFrom (t3.heap.objs.size + 1) scope.names (cloFrom X.env.cells scope.names [])) fp
  have br := fun (xe : Value → Shared → Prop) hxe τ => blk_raise (X := X) (Wx := Wx) (pins := pz) (σ := σ) (s3 := t3) (scope := scope) (cl := cellsFrom (t3.heap.objs.size + 1) scope.names (cloFrom X.env.cells scope.names [])) (fp := fp) (xe := xe) (D := Value.ref D) (Qf := EP X pz σ Q) hst hfr tk K3 (fun b hb => ⟨(u3 b hb).1.2.2.2.1, (u3 b hb).1.2.1, (u3 b hb).1.2.2.2.2.1, (u3 b hb).1.2.2.2.2.2⟩) hxe τ
  show codeAny _ _ (.compStart (.ListComp elt [⟨tg, iter, ifs, 0⟩] scope pos) 0 (.ref it) (.ref D) (compEnvC scope (cellsFrom (t3.heap.objs.size + 1) scope.names (cloFrom X.env.cells scope.names [])) t3.heap.objs.size X.env)) (compEnds (model X.prog X.w) X.A X.xe none (EP X pz σ Q) (.ref D) (compEnvC scope (cellsFrom (t3.heap.objs.size + 1) scope.names (cloFrom X.env.cells scope.names [])) t3.heap.objs.size X.env)) { t3 with heap := pushCells (t3.heap.push { cls := .type "dict", data := .dict #[] }) scope.names }
  have nof : ∀ b ∈ fp, (upd G2 D (.lst [])) b = none := fun b hb => (u3 b hb).1.1
  generalize hcl : cellsFrom (t3.heap.objs.size + 1) scope.names (cloFrom X.env.cells scope.names []) = cl at K4 pgo pte pel br ⊢
  have pel := pel _ (fun τ => br _ rfl τ)
  clear br
  have cL : (compEnvC scope cl t3.heap.objs.size X.env).locals = t3.heap.objs.size := rfl
  generalize eG : upd G2 D (.lst []) = G3 at K3 K4 pgo pte pel w0 nof u3
  generalize e4 : ({ t3 with heap := pushCells (t3.heap.push { cls := .type "dict", data := .dict #[] }) scope.names } : Shared) = t4 at K4 ⊢
  generalize hce : compEnvC scope cl t3.heap.objs.size X.env = ce at K4 pgo pte pel cL ⊢
  have z4 : tn 0 t4.heap := T.keep _ _ _ z3 fun b _ o e => by
    rw [← e4]
    exact pushCells_keeps _ _ _ _ (Heap.get?_push_of_some _ e)
  have stays : ∀ {σ' : L2.St} {H' : Hp} {s' : Shared}, Inv (X.blk t3 G3 scope ce fp) [] σ' H' s' → (∀ b ∈ fp, H' b = none) → ∀ b ∈ fp, FpOk (X.blk t3 G3 scope ce fp) [] H' b := fun {σ' H' s'} I' hn b hb =>
    ⟨hn b hb, (I'.ok.exf b hb).1, I'.ok.exfs b hb, .inl hb, fun x c e => (I'.ok.exf b hb).2 x c e, fun p hp => absurd (show p ∈ ([] : List (Addr × Obj)) ++ [] from hp) (by simp)⟩
  have loop : codeAny (model X.prog X.w) X.A (.compLoop (.ListComp elt [⟨tg, iter, ifs, 0⟩] scope pos) 0 (.ref it) (.ref D) ce) (compEnds (model X.prog X.w) X.A X.xe none (EP X pz σ Q) (.ref D) ce) t4 := by
    refine compLoop_any (fun n s' => ∃ i H', Inv (X.blk t3 G3 scope ce fp) [] (wipe σ (own.map (·.2))) H' s' ∧ tn i s'.heap ∧ (∀ b ∈ fp, H' b = none) ∧ Wn i n H') ?_ m0 ⟨0, G3, K4, z4, nof, w0⟩
    rintro n t5 ⟨i, G5, K5, z5, nn5, wn5⟩
    rcases trn i n G5 wn5 with ⟨ends, qq⟩ | ⟨goes, Nxt, eNx, stp⟩
    · have tdo := T.done (X.blk t3 G3 scope ce fp) rfl rfl rfl hc i [] t5 _ G5 (fun _ _ => False) K5 (stays K5 nn5) z5 ends
      refine thnF tdo fun r t6 ⟨hr, K6⟩ => ?_
      subst hr
      have K7 : Inv X pz σ G5 t6 := K3.call' (ch := fp) K6.os K6.base K6.hok K6.bare fun b hb => ⟨(u3 b hb).1.2.2.2.1, (u3 b hb).1.2.1, (u3 b hb).1.2.2.2.2.1, (u3 b hb).1.2.2.2.2.2⟩
      have nC : G5 t3.heap.objs.size = none := by
        have z : G5 ce.locals = none := K6.free
        rwa [cL] at z
      obtain ⟨m, hn, _⟩ := K6.loc
      have hn : t6.heap.Ns ce.locals m := hn
      refine ⟨m, hn, fun h'' sb => ?_⟩
      rw [cL] at sb
      obtain ⟨f0, f1, _, f4, f5, f6⟩ := K3.fpOk (Nat.le_refl _) nC
      exact ⟨.ref D, G5, K7.turned (t' := t6.toks) (fun b o hb e => (sb.2 b hb).trans e) f0 f1 f4 f5 f6, rfl, qq⟩
    · have tit := T.item (X.blk t3 G3 scope ce fp) rfl rfl rfl hc i [] t5 _ G5 (fun _ _ => False) K5 (stays K5 nn5) z5 goes
      refine thnF tit fun r t6 ⟨u, hr, h6⟩ => ?_
      subst hr
      refine thnF h6 fun _ t7 ⟨x, G7, K7, r7, y7, z7, n7⟩ => ?_
      have K7p := K7.pinned (stays K7 n7) (T.obj _ _ z7)
      refine thnF (pgo.run _ t7 _ G7 x u _ K7p r7 (stp x G7 y7)) fun _ t8 ⟨σ8, G8, K8, hw8, q8⟩ => ?_
      refine thnF (pte.run _ t8 σ8 G8 _ K8 q8) fun b t9 ⟨G9, K9, q9⟩ => ?_
      have back : ∀ {s' : Shared} {H' : Hp}, Inv (X.blk t3 G3 scope ce fp) ([] ++ pinsAt fp t7.heap) σ8 H' s' → Nxt H' → ∃ m, m < n ∧ ∃ i H', Inv (X.blk t3 G3 scope ce fp) [] (wipe σ (own.map (·.2))) H' s' ∧ tn i s'.heap ∧ (∀ b ∈ fp, H' b = none) ∧ Wn i m H' := fun {s' H'} I' nx => by
        obtain ⟨m', hm, w'⟩ := eNx H' nx
        have pin' : ∀ b ∈ fp, ∀ o, t7.heap.get? b = some o → s'.heap.get? b = some o ∧ H' b = none := fun b hb o e =>
          let z := I'.pin (b, o) (List.mem_append_right _ (List.mem_append_right _ (mem_pinsAt hb e)))
          ⟨z.1, z.2.1⟩
        have hl : (wipe σ (own.map (·.2))).length = σ8.length := by rw [← hw8, wipe_length]
        refine ⟨m', hm, i + 1, H', (I'.unpinned (pins := [])).weak hl (fun j v e => ?_), T.keep _ _ _ z7 fun b hb o e => (pin' b hb o e).1, fun b hb => ?_, w'⟩
        · rw [← hw8] at e
          exact (wipe_some e).1
        · obtain ⟨o, e, _⟩ := T.obj _ _ z7 b hb
          exact (pin' b hb o e).2
      cases b with
      | false =>
        simp only [Bool.false_eq_true, if_false] at q9 ⊢
        exact back K9 q9
      | true =>
        simp only [if_true] at q9 ⊢
        refine wpAny_mono (pel.run _ t9 σ8 G9 _ (Inv.reX K9) q9) (fun z t10 ⟨yv, G10, K10, r10, acc, hD10, hz10, nx⟩ => ?_) fun _ _ w => w
        exact app_ok (X := X.blk t3 G3 scope ce fp) (Inv.reX K10) hD10 hz10 r10 fun t11 K11 => back K11 nx
  exact codeAny_compStart_list loop (T.self X.A 0 _ _ _ z4 loop)
end Fw
/-! # its mirror, its rule; calls that raise within it -/
namespace Fw
open PySem PySem.Spec PyProof.Rows L2
open Evl (Ex)
def eoCons (y : D) : EO → Option EO
  | .ok (.lst l) ρ μ => some (.ok (.lst (y :: l)) ρ μ)
  | .ok _ _ _ => none
  | .ex c fs ρ μ => some (.ex c fs ρ μ)
def preE (xs : List D) : EO → Option EO
  | .ok (.lst l) ρ μ => some (.ok (.lst (xs ++ l)) ρ μ)
  | .ok _ _ _ => none
  | .ex c fs ρ μ => some (.ex c fs ρ μ)
def lcR (g : D → List D → Option (List D)) (t : FB) (f : FX) (vs : List Nat) : List D → List D → List D → Option EO
  | ρ, μ, [] => some (.ok (.lst []) ρ μ)
  | ρ, μ, d :: ds => (g d ρ).bind fun ρ1 => (t ρ1 μ).bind fun b => if b = true then (f ρ1 μ).bind fun o => match o with
      | .ok y ρ2 μ2 => if data y = true then (lcR g t f vs (wipeD ρ2 vs) μ2 ds).bind (eoCons y) else none
      | .ex c fs ρ2 μ2 => some (.ex c fs (wipeD ρ2 vs) μ2)
    else lcR g t f vs (wipeD ρ1 vs) μ ds
def xLcR (it : FA) (g : D → List D → Option (List D)) (vs : List Nat) (t : FB) (f : FX) : FX := fun ρ μ => (it ρ μ).bind fun ds => if ds.length ≤ LIM then lcR g t f vs (wipeD ρ vs) μ ds else none
theorem eoCons_pre {y : D} {xs : List D} {o o1 o2 : EO} (h : eoCons y o = some o1) (k : preE xs o1 = some o2) : preE (xs ++ [y]) o = some o2 := by
  cases o with
  | ex c fs ρ μ => cases h; exact k
  | ok d ρ μ =>
    cases d with
    | lst l =>
      cases h
      rw [← k]
      show some _ = some _
      rw [List.append_assoc]
      rfl
    | _ => cases h
theorem lcR_pre {g : D → List D → Option (List D)} {t : FB} {f : FX} {vs : List Nat} : ∀ {ds ρ μ : List D} {o : EO}, lcR g t f vs ρ μ ds = some o → preE [] o = some o
  | [], ρ, μ, o, h => by cases h; rfl
  | d :: ds, ρ, μ, o, h => by
    obtain ⟨ρ1, _, h⟩ := bind_some (show (g d ρ).bind _ = some o from h)
    obtain ⟨b, _, h⟩ := bind_some h
    cases b with
    | false =>
      rw [if_neg Bool.false_ne_true] at h
      exact lcR_pre h
    | true =>
      rw [if_pos rfl] at h
      obtain ⟨o1, _, h⟩ := bind_some h
      cases o1 with
      | ex c fs ρ2 μ2 => cases h; rfl
      | ok y ρ2 μ2 =>
        have h2 : (if data y = true then (lcR g t f vs (wipeD ρ2 vs) μ2 ds).bind (eoCons y) else none) = some o := h
        by_cases hd : data y = true
        case neg => rw [if_neg hd] at h2; cases h2
        rw [if_pos hd] at h2
        obtain ⟨o2, e2, h3⟩ := bind_some h2
        cases o2 with
        | ex c fs ρ3 μ3 => cases h3; rfl
        | ok d3 ρ3 μ3 =>
          cases d3 with
          | lst l => cases h3; rfl
          | _ => cases h3
section
variable {X : Cx} {Wx : WX} {elt tg iter : Expr} {ifs : List Expr} {scope : Scope} {own : List (Str × Nat)} {pos : Pos} {it : FA} {g : D → List D → Option (List D)} {t : FB} {f : FX}
theorem lcR_run {K : PySem.W.Frag} {wi : TI} {vs : List Nat} {it : FA}
    (k0 : ∀ (σ : L2.St) (W : Wd) (ρ μ : List D) (F : List Addr), Sta K W σ ρ μ F → ∀ ds, it ρ μ = some ds → ∀ Q : It → Hp → Prop, (∀ J W', Ext W W' → ItD K J W' ds Lt → Q J W'.H) → wi σ W.H Q)
    (σ : L2.St) (W : Wd) (ρ μ : List D) (F : List Addr) (S : Sta K W σ ρ μ F) (o : EO) (ho : xLcR it g vs t f ρ μ = some o) (Q : VK) (q : GoesE K Wx Q σ W F o) :
    tLc wi (gTv K vs g) (tBv K t) (tXv K (fun cls d _ H' => Wx cls d σ H') f) vs σ W.H Q := by
  obtain ⟨ds, e1, ho⟩ := bind_some ho
  by_cases hlim : ds.length ≤ LIM
  case neg => rw [if_neg hlim] at ho; cases ho
  rw [if_pos hlim] at ho
  have hd0 := lcR_pre ho
  refine k0 σ W ρ μ F S ds e1 _ fun J W1 x1 itd => ?_
  intro Dl hDl
  have S1 := S.ext x1
  obtain ⟨Fw, Sw, subw⟩ := Sta.wipeS vs S1
  have nDl : ∀ a ∈ Fw, a ≠ Dl := fun a ha z => own_some (Sw.own a ha) (by rw [z]; exact hDl)
  refine ⟨fun i m H => m = ds.length - i ∧ i ≤ ds.length ∧ ∃ (W2 : Wd) (acc : List V) (done ρ2 μ2 : List D) (o2 : EO) (F2 : List Addr), W2.H = H ∧ Sta K W2 (wipe σ vs) ρ2 μ2 F2 ∧ Mv W1 W2 Fw (Dl :: F2) ∧ ¬ W2.Fr Dl ∧ Dl ∉ F2 ∧ W2.H Dl = some (.lst acc) ∧ RL K W2 done acc [] ∧
    lcR g t f vs ρ2 μ2 (ds.drop i) = some o2 ∧ preE done o2 = some o ∧ done.length ≤ i ∧ dataL done = true ∧ (∀ j ∈ vs, j < ρ2.length → ρ2[j]? = some .un), ⟨_, rfl, Nat.zero_le _, ?_⟩, ?_⟩
  · have x := Ext.put (W := W1) (o := .lst []) Sw.ok hDl
    exact ⟨W1.put Dl (.lst []), [], [], wipeD ρ vs, μ, o, Fw, rfl, Sw.ext x, x.mvN (fun a ha => (List.mem_cons.mp ha).elim (fun z => .inr (by rw [z]; exact hDl)) .inl), fun z => S1.ok Dl z hDl, fun z => nDl Dl z rfl, upd_same, ⟨rfl, rfl⟩, ho, hd0, Nat.le_refl _, rfl,
      fun j hj hl => wipeD_un vs ρ j hj (by rw [wipeD_len] at hl; exact hl)⟩
  · rintro i m H ⟨rfl, hi, W2, acc, done, ρ2, μ2, o2, F2, rfl, S2, mv2, hf, nd2, hacc, hrl, hrest, hout, hdl, hdd, hun⟩
    have lt2 := mv2.lt Sw.own
    by_cases hlt : i < ds.length
    · refine .inr ⟨itd.go i W2 lt2 hlt, ?_⟩
      have ed : ds.drop i = ds[i] :: ds.drop (i + 1) := List.drop_eq_getElem_cons hlt
      rw [ed] at hrest
      obtain ⟨ρ', e2, hrest⟩ := bind_some (show (g ds[i] ρ2).bind _ = some o2 from hrest)
      obtain ⟨b, e3, hrest⟩ := bind_some hrest
      refine ⟨fun H' => i + 1 ≤ ds.length ∧ ∃ (W2 : Wd) (acc : List V) (done ρ2 μ2 : List D) (o2 : EO) (F2 : List Addr), W2.H = H' ∧ Sta K W2 (wipe σ vs) ρ2 μ2 F2 ∧ Mv W1 W2 Fw (Dl :: F2) ∧ ¬ W2.Fr Dl ∧ Dl ∉ F2 ∧ W2.H Dl = some (.lst acc) ∧ RL K W2 done acc [] ∧
          lcR g t f vs ρ2 μ2 (ds.drop (i + 1)) = some o2 ∧ preE done o2 = some o ∧ done.length ≤ i + 1 ∧ dataL done = true ∧ (∀ j ∈ vs, j < ρ2.length → ρ2[j]? = some .un),
        fun H' n => ⟨ds.length - (i + 1), by omega, rfl, n⟩, fun x H' hy => ?_⟩
      obtain ⟨W3, d, hW3, hd3, x3, r3⟩ := itd.yl i W2 x H' lt2 S2.ok hlt hy
      subst hW3
      rw [List.getElem?_eq_getElem hlt] at hd3
      cases hd3
      have S3 := S2.ext x3
      have own2 : Own W2 Dl := ⟨hf, .inl ⟨acc, hacc⟩⟩
      -- what is known of the list, behind a step
      have by_ : ∀ {W5 : Wd} {F5 : List Addr}, Mv W2 W5 F2 F5 → W5.H Dl = some (.lst acc) ∧ ¬ W5.Fr Dl ∧ Dl ∉ F5 := fun {W5 F5} mv => by
        refine ⟨mv.keep _ _ hacc nd2, fun z => ?_, fun z => ?_⟩
        · rcases mv.nf Dl z with w | w | w
          · exact hf w
          · exact own_some own2 w
          · exact nd2 w
        · rcases mv.own Dl z with w | w
          · exact nd2 w
          · exact own_some own2 w
      refine ⟨W3, ρ2, μ2, F2, ds[i], ρ', rfl, S3, r3, e2, fun σ' F' S' sub' hw => ⟨hw.trans (wipe_idem vs σ), ?_⟩⟩
      have mv3 : Mv W2 W3 F2 F' := x3.mv sub'
      refine ⟨W3, ρ', μ2, F', b, rfl, S', e3, fun W4 x4 => ?_⟩
      have mv4 : Mv W2 W4 F2 F' := mv3.trans x4.mvr
      have S4 := S'.ext x4
      have hw2 : wipe σ' vs = wipe σ vs := hw.trans (wipe_idem vs σ)
      cases b with
      | true =>
        rw [if_pos rfl] at hrest
        show (if true = true then _ else _)
        rw [if_pos rfl]
        obtain ⟨o4, e4, hrest⟩ := bind_some hrest
        cases o4 with
        | ex c fs ρ4 μ4 =>
          cases hrest
          cases hout
          refine ⟨W4, ρ', μ2, F', _, rfl, S4, e4, fun dx W5 F5 hx S5 mv5 => ?_⟩
          have mv25 : Mv W2 W5 F2 F5 := mv4.trans mv5
          obtain ⟨hacc5, hf5, nf5⟩ := by_ mv25
          obtain ⟨F6, S6, sub6⟩ := Sta.wipeS vs S5
          rw [hw2] at S6
          have m1 : Mv W1 W5 Fw (Dl :: F5) := mv2.trans (mv25.by [Dl])
          have Sf : Sta K W5 σ (wipeD ρ4 vs) μ4 F6 := by
            have hlen := S6.len
            obtain ⟨⟨A, B, h1, h2, h3⟩, n, w, ok⟩ := S6
            refine ⟨⟨A, B, RS_other h1 (wipe_length ..) (fun j => ?_), h2, h3⟩, n, w, ok⟩
            by_cases hj : j ∈ vs
            · by_cases hl : j < ρ4.length
              · exact .inl (wipeD_un vs ρ4 j hj hl)
              · refine .inr ?_
                rw [wipeD_len] at hlen
                have l1 : (wipe σ vs).length ≤ j := by omega
                have l2 : σ.length ≤ j := by rw [wipe_length] at l1; exact l1
                rw [List.getElem?_eq_none l1, List.getElem?_eq_none l2]
            · exact .inr (wipe_other hj)
          exact q dx W5 F6 hx Sf ((x1.mv subw).trans ⟨m1.keep, m1.fr, m1.nf, fun a ha => m1.own a (List.mem_cons_of_mem _ (sub6 a ha)), m1.m⟩)
        | ok y ρ4 μ4 =>
          have hrest2 : (if data y = true then (lcR g t f vs (wipeD ρ4 vs) μ4 (ds.drop (i + 1))).bind (eoCons y) else none) = some o2 := hrest
          by_cases hdy : data y = true
          case neg => rw [if_neg hdy] at hrest2; cases hrest2
          rw [if_pos hdy] at hrest2
          obtain ⟨o5, e5, z⟩ := bind_some hrest2
          refine ⟨W4, ρ', μ2, F', _, rfl, S4, e4, fun v W5 G F5 r5 S5 nd5 own5 mv5 => ?_⟩
          have zG := R_data y hdy r5
          subst zG
          have mv25 : Mv W2 W5 F2 F5 := mv4.trans mv5
          obtain ⟨hacc5, hf5, nf5⟩ := by_ mv25
          have la : acc.length = done.length := RL_len hrl
          have lt25 := mv25.lt S2.own
          have hrl5 : RL K W5 done acc [] := RL_lt lt25 done hrl
          have ltu : Lt W5 ⟨upd W5.H Dl (.lst (acc ++ [v])), W5.Fr, W5.m⟩ := Lt.upd_lst hacc5 hf5
          obtain ⟨F6, S6, sub6⟩ := Sta.wipeS vs S5
          rw [hw2] at S6
          have nd6 : Dl ∉ F6 := fun z => nf5 (sub6 Dl z)
          have off : ∀ a ∈ F6, upd W5.H Dl (.lst (acc ++ [v])) a = W5.H a := fun a ha => upd_ne fun z => nd6 (z ▸ ha)
          have S7 : Sta K ⟨upd W5.H Dl (.lst (acc ++ [v])), W5.Fr, W5.m⟩ (wipe σ vs) (wipeD ρ4 vs) μ4 F6 := by
            obtain ⟨⟨A, B, h1, h2, h3⟩, n, w, ok⟩ := S6
            subst h3
            refine ⟨⟨A, B, RS_keep ltu (fun b hb => off b (List.mem_append_left _ hb)) h1, RL_keep ltu _ (fun b hb => off b (List.mem_append_right _ hb)) h2, rfl⟩, n, fun a ha => ?_, fun a h => ?_⟩
            · obtain ⟨w1, w2⟩ := w a ha
              refine ⟨w1, ?_⟩
              show (∃ xs, upd W5.H Dl _ a = _) ∨ ∃ C dx fs, upd W5.H Dl _ a = _
              rw [off a ha]
              exact w2
            · show upd W5.H Dl _ a ≠ none
              by_cases ea : a = Dl
              · rw [ea, upd_same]
                exact fun z => nomatch z
              · rw [upd_ne ea]
                exact ok a h
          have mv7 : Mv W1 ⟨upd W5.H Dl (.lst (acc ++ [v])), W5.Fr, W5.m⟩ Fw (Dl :: F6) := by
            have m1 : Mv W1 W5 Fw (Dl :: F5) := mv2.trans (mv25.by [Dl])
            refine ⟨fun a o h n => ?_, m1.fr, m1.nf, fun a ha => ?_, m1.m⟩
            · show upd W5.H Dl _ a = _
              rw [upd_ne (ne_of_none h hDl)]
              exact m1.keep a o h n
            · rcases List.mem_cons.mp ha with z | z
              · exact .inr (by rw [z]; exact hDl)
              · exact m1.own a (List.mem_cons_of_mem _ (sub6 a z))
          refine ⟨acc, hacc5, lim_lt (by omega), by omega, ⟨upd W5.H Dl (.lst (acc ++ [v])), W5.Fr, W5.m⟩, acc ++ [v], done ++ [y], wipeD ρ4 vs, μ4, o5, F6, rfl, S7, mv7, hf5, nd6, upd_same, ?_, e5, ?_, ?_, ?_, fun j hj hl => wipeD_un vs ρ4 j hj (by rw [wipeD_len] at hl; exact hl)⟩
          · exact RL_app (G := []) (RL_lt ltu done hrl5) ⟨v, [], [], [], rfl, R_lt ltu y r5, ⟨rfl, rfl⟩, rfl⟩
          · exact eoCons_pre z hout
          · rw [List.length_append]
            show done.length + 1 ≤ i + 1
            omega
          · rw [dataL_all] at hdd ⊢
            rw [List.all_append, hdd]
            show (data y && true) = true
            rw [hdy]
            rfl
      | false =>
        rw [if_neg Bool.false_ne_true] at hrest
        show (if false = true then _ else _)
        rw [if_neg Bool.false_ne_true]
        obtain ⟨hacc4, hf4, nf4⟩ := by_ mv4
        obtain ⟨F6, S6, sub6⟩ := Sta.wipeS vs S4
        rw [hw2] at S6
        refine ⟨by omega, W4, acc, done, wipeD ρ' vs, μ2, o2, F6, rfl, S6, ?_, hf4, fun z => nf4 (sub6 Dl z), hacc4, RL_lt (mv4.lt S2.own) done hrl, hrest, hout, by omega, hdd, fun j hj hl => wipeD_un vs ρ' j hj (by rw [wipeD_len] at hl; exact hl)⟩
        exact (mv2.trans (mv4.by [Dl])).sub (fun _ h => h) fun a ha => by
          rcases List.mem_cons.mp ha with z | z
          · rw [z]; exact List.mem_append_left _ (List.mem_cons_self ..)
          · exact List.mem_append_right _ (sub6 a z)
    · refine .inl ⟨itd.st i W2 lt2 (by omega), ?_⟩
      have e : ds.drop i = [] := List.drop_eq_nil_of_le (by omega)
      rw [e] at hrest
      cases hrest
      have hout2 : some (EO.ok (.lst (done ++ [])) ρ2 μ2) = some o := hout
      rw [List.append_nil] at hout2
      cases hout2
      -- the list stands still from here
      have ltf : Lt W2 ⟨W2.H, fun a => W2.Fr a ∨ a = Dl, W2.m⟩ := ⟨fun _ _ h => h, fun _ _ h => ⟨h.1, .inl h.2⟩, fun _ _ _ _ h h' => ⟨h, .inl h'⟩, fun _ _ h => h⟩
      have Sf : Sta K ⟨W2.H, fun a => W2.Fr a ∨ a = Dl, W2.m⟩ σ ρ2 μ2 F2 := by
        have hlen := S2.len
        obtain ⟨⟨A, B, h1, h2, h3⟩, n, w, ok⟩ := S2
        subst h3
        refine ⟨⟨A, B, RS_other (RS_keep ltf (fun _ _ => rfl) h1) (wipe_length ..) (fun j => ?_), RL_keep ltf _ (fun _ _ => rfl) h2, rfl⟩, n, fun a ha => ⟨fun z => z.elim (w a ha).1 fun z => nd2 (z ▸ ha), (w a ha).2⟩, fun a h => ?_⟩
        · by_cases hj : j ∈ vs
          · by_cases hl : j < ρ2.length
            · exact .inl (hun j hj hl)
            · refine .inr ?_
              have l1 : (wipe σ vs).length ≤ j := by omega
              have l2 : σ.length ≤ j := by rw [wipe_length] at l1; exact l1
              rw [List.getElem?_eq_none l1, List.getElem?_eq_none l2]
          · exact .inr (wipe_other hj)
        · rcases h with h | h
          · exact ok a h
          · show W2.H a ≠ none
            rw [h, hacc]
            exact fun z => nomatch z
      have mvf : Mv W1 ⟨W2.H, fun a => W2.Fr a ∨ a = Dl, W2.m⟩ Fw F2 := by
        refine ⟨mv2.keep, fun a h => .inl (mv2.fr a h), fun a h => ?_, fun a ha => mv2.own a (List.mem_cons_of_mem _ ha), mv2.m⟩
        rcases h with h | h
        · exact mv2.nf a h
        · exact .inr (.inl (by rw [h]; exact hDl))
      exact q (.ref Dl) ⟨W2.H, fun a => W2.Fr a ∨ a = Dl, W2.m⟩ [] F2 ⟨Dl, acc, rfl, .inl ⟨.inl hacc, .inr rfl⟩, RL_lt ltf _ hrl, rfl⟩ Sf Sf.nd (fun _ h => nomatch h)
        ((x1.mv subw).trans mvf)
theorem px_lcR (hst : X.stack = X.env :: X.outer) (hfr : X.env.frame = some X.env.locals) (tk : L2N.Takes X Wx) (hc : X.calm = true) (hN : X.N.Nodup) (hi : PIF X tg iter it) (ok : BlkOk X.N X.env.scope scope own)
    (hg : ∀ (s : Shared) (H : Hp) (C : Addr) (cl : List (Str × Addr)) (fp : List Addr), PGD (X.blk s H scope (compEnvC scope cl C X.env) fp) tg (own.map (·.2)) g)
    (ht : ∀ (s : Shared) (H : Hp) (C : Addr) (cl : List (Str × Addr)) (fp : List Addr), PTsB (X.blk s H scope (compEnvC scope cl C X.env) fp) ifs t)
    (he : ∀ (Wb : WX) (s : Shared) (H : Hp) (C : Addr) (cl : List (Str × Addr)) (fp : List Addr) (xe : Value → Shared → Prop), (∀ τ, PassesAt (L2N.CX X.prog X.w) (blkR X s H scope (compEnvC scope cl C X.env) fp xe) τ (WE Wb τ)) → PX (blkR X s H scope (compEnvC scope cl C X.env) fp xe) Wb elt f)
    (hs : ∀ x, foldedSetIterable iter X.env x = pure x := by intro _; rfl) : PX X Wx (.ListComp elt [⟨tg, iter, ifs, 0⟩] scope pos) (xLcR it g (own.map (·.2)) t f) := by
  obtain ⟨wi, p0, k0⟩ := hi
  exact ⟨_, pe_lcR (g := gTv X.K (own.map (·.2)) g) (tt := tBv X.K t) (te := fun Wb => tXv X.K Wb f) hst hfr tk hc hN p0 ok (fun s H C cl fp => (hg s H C cl fp).can) (fun s H C cl fp => ht s H C cl fp) (fun Wb s H C cl fp xe pa => (he Wb s H C cl fp xe pa).can) hs, fun σ W ρ μ F S o ho Q hQ => lcR_run k0 σ W ρ μ F S o ho Q hQ⟩
end
/-! ### a call in the block, which may raise -/
section
variable {X : Cx} {Wx : WX} {e a b c o : Expr} {es : List Expr} {f g : FX} {p apos pos : Pos} {kf : FXA} {x m : Str} {k n : Nat} {dd : List D} {run : RX}
theorem px_callP (O : OkX X.prog X.w X.K X.mg X.base x k n dd run) (hr : Room k X.A) (tk : ∀ τ, PassesAt (L2N.CX X.prog X.w) X τ (WE Wx τ)) (ha : PAX X Wx (e :: es) kf) (hg : Gl X x := by rfl) (hdb : (x == ("__debug__" : Str)) = false := by decide)
    (he : starEach (e :: es) X.env = (false, eval e X.env) :: starEach es X.env := by rfl) (hpl : (backTo pos (starEach es X.env)).any (·.1) = false := by rfl) : PX X Wx (.Call (.Name x p) (e :: es) [] pos) (xRun n dd run kf) := by
  obtain ⟨f, fd, ps, dvs, us, hF, hb, hv, hdd, hm, hk⟩ := O
  obtain ⟨t, pt, k1⟩ := ha
  refine ⟨_, pe_callSD hF hr hg hm hk hb hv tk pt hdb he hpl, fun σ W ρ μ F S o ho Q hQ => ?_⟩
  obtain ⟨o1, e1, ho⟩ := bind_some ho
  refine k1 σ W ρ μ F S o1 e1 _ ?_
  cases o1 with
  | ok as ρ1 μ1 =>
    intro vs W1 F1 r S1 mv
    obtain ⟨z, e2, ho⟩ := bind_some (show (mo as ρ1).bind (fun z => if (z.1 ++ dd).length = n then (run (z.1 ++ dd) μ1).bind (xPut fun ys => mi as z.2 (ys.take z.1.length)) else none) = some o from ho)
    obtain ⟨ds, ρr⟩ := z
    by_cases hl : (ds ++ dd).length = n
    case neg => rw [if_neg hl] at ho; cases ho
    rw [if_pos hl] at ho
    obtain ⟨o2, e3, ho⟩ := bind_some ho
    have fo := (foc_args S1 r e2).trans fun Fc Sc => foc_vals Sc (hdd W1)
    rw [← List.map_append] at fo
    exact spX_of fo hl e3 ho (hQ.after mv)
  | ex c fs ρ1 μ1 =>
    cases ho
    exact hQ
end
/-! ### reckoning -/
section
variable {it : FA} {g : D → List D → Option (List D)} {vs : List Nat} {t : FB} {f : FX} {x0 : D} {ρ μ ds : List D} {d : D}
def lcRK (g : D → List D → Option (List D)) (t : FB) (f : FX) (vs : List Nat) (ρ μ : List D) (o : Option (List D)) : Option EO := o.bind fun ds => if ds.length ≤ LIM then lcR g t f vs ρ μ ds else none
theorem xLcR_k : xLcR it g vs t f (x0 :: ρ) μ = lcRK g t f vs (wipeD (x0 :: ρ) vs) μ (it (x0 :: ρ) μ) := rfl
theorem lcRK_s (h : ds.length ≤ 1000000) : lcRK g t f vs ρ μ (some ds) = lcR g t f vs ρ μ ds := if_pos (lk h)
def mtK (m : Str) (n : Nat) (dd : List D) (runs : MT) (k : FA) (o : Option EO) : Option EO := o.bind fun o => match o with
  | .ok t ρ1 μ1 => (match t with
    | .obj c ns _ => if fidx m ns = none then (runs c).bind fun run => (k ρ1 μ1).bind fun as => if flL as = true ∧ (t :: (as ++ dd)).length = n then (run (t :: (as ++ dd)) μ1).bind (xPut fun ys => (ys.head?).map fun _ => ρ1) else none else none
    | _ => none)
  | .ex c fs ρ1 μ1 => some (.ex c fs ρ1 μ1)
theorem xMethT_k (m : Str) (n : Nat) (dd : List D) (runs : MT) (g : FX) (k : FA) : xMethT m n dd runs g k (x0 :: ρ) μ = mtK m n dd runs k (g (x0 :: ρ) μ) := rfl
theorem mtK_ok (m : Str) (n : Nat) (dd : List D) (runs : MT) (k : FA) (c : Str) (ns : List Str) : mtK m n dd runs k (some (.ok (.obj c ns ds) ρ μ)) = if fidx m ns = none then (runs c).bind fun run => (k ρ μ).bind fun as => if flL as = true ∧ (D.obj c ns ds :: (as ++ dd)).length = n then (run (D.obj c ns ds :: (as ++ dd)) μ).bind (xPut fun ys => (ys.head?).map fun _ => ρ) else none else none := rfl
theorem head_D (a : D) (l : List D) : (a :: l).head? = some a := rfl
def kset32 := And.intro @xLcR_k <| And.intro @lcRK_s <| And.intro @xMethT_k <| And.intro @mtK_ok @head_D
end
end Fw
/-! # a text's method, its text or argument out of what changes or raises -/
namespace Fw
open PySem PySem.Spec PyProof.Rows L2
open Evl (Ex)
def m1XK (o : List Nat → List D → Option D) (g : FX) (x : D) : FX := match x with
  | .str s => xB g fun y ρ μ => (o s [y]).bind fun d => if data d = true then some (.ok d ρ μ) else none
  | _ => fun _ _ => none
def xM1 (o : List Nat → List D → Option D) (f g : FX) : FX := xB f (m1XK o g)
theorem px_m1X {X : Cx} {Wx : WX} {a e : Expr} {f g : FX} {apos pos : Pos} {name id : String} {o : List Nat → List D → Option D} (h : MtD X id o) (slot : Slot "str" name id) (ty : typeOf (.builtin id) = pure (.type "method_descriptor")) (ha : PX X Wx a f) (he : PX X Wx e g)
    (hs : starEach [e] X.env = [(false, eval e X.env)] := by rfl) (hbase : attributeBase a name X.env (eval a X.env) = eval a X.env := by rfl) (hline : (apos.endLine == pos.line) = true := by rfl) : PX X Wx (.Call (.Attribute a name apos) [e] [] pos) (xM1 o f g) := by
  obtain ⟨r, hr, k2⟩ := h
  obtain ⟨ta, pa, h1⟩ := ha
  obtain ⟨tb, pb, h2⟩ := he
  refine ⟨_, pe_m1 slot ty hr pa pb hs hbase hline, fun σ W ρ μ F S o1 ho Q hQ => ?_⟩
  refine run_bind h1 S ho (fun c fs ρ' μ' z => by subst z; exact hQ) fun x u W1 ρ1 μ1 F1 hx rx S1 m1 ho1 => ?_
  cases x with
  | str s =>
    obtain ⟨rfl, _⟩ := rx
    refine ⟨⟨_, rfl⟩, run_bind h2 S1 ho1 (fun c fs ρ' μ' z => by subst z; exact hQ.after m1) fun y v W2 ρ2 μ2 F2 hy ry S2 m2 ho2 => ?_⟩
    obtain ⟨d, e1, ho2⟩ := bind_some ho2
    by_cases hd : data d = true
    case neg => rw [if_neg hd] at ho2; cases ho2
    rw [if_pos hd] at ho2
    cases ho2
    refine k2 W2 s [y] [v] ([] ++ []) S2.ok ⟨v, [], [], [], rfl, ry, ⟨rfl, rfl⟩, rfl⟩ d e1 Q fun z W3 G3 x3 r3 => ?_
    have e := R_data d hd r3
    subst e
    exact hQ z W3 [] F2 r3 (S2.ext x3) S2.nd (fun _ hb => nomatch hb) ((m1.trans m2).trans x3.mvr)
  | _ => cases ho1
variable {x0 : D} {ρ μ : List D}
theorem xM1_k (o : List Nat → List D → Option D) (f g : FX) : xM1 o f g (x0 :: ρ) μ = eB (f (x0 :: ρ) μ) (m1XK o g) := xB_eq _ _
theorem m1XK_s (o : List Nat → List D → Option D) (g : FX) (s : List Nat) : m1XK o g (.str s) = xB g fun y ρ μ => (o s [y]).bind fun d => if data d = true then some (.ok d ρ μ) else none := rfl
def kset33 := And.intro (@xM1_k) (@m1XK_s)
end Fw
namespace G
open PySem PySem.Spec PyProof.Rows L2 Fw
def top (i : Nat) : Stmt := PySem.Challenge.pw_framepost_k14_one_behind_the_other.main.body.getD i (.Pass ⟨0, 0, 0, 0⟩)
def mstm (s : Stmt) (j : Nat) : Stmt := match s with
  | .ClassDef _ _ _ body _ _ _ _ _ _ _ => body.getD j (.Pass ⟨0, 0, 0, 0⟩)
  | s => s
theorem lit0 : ofS "" = [] := by decide +kernel
theorem lit1 : ofS "\n" = [10] := by decide +kernel
theorem lit2 : ofS " " = [32] := by decide +kernel
theorem lit3 : ofS "+" = [43] := by decide +kernel
theorem lit4 : ofS "-" = [45] := by decide +kernel
theorem lit5 : ofS "0" = [48] := by decide +kernel
theorem lit6 : ofS "0123456789abcdef" = [48, 49, 50, 51, 52, 53, 54, 55, 56, 57, 97, 98, 99, 100, 101, 102] := by decide +kernel
theorem lit7 : ofS ": " = [58, 32] := by decide +kernel
theorem lit8 : ofS ": yes" = [58, 32, 121, 101, 115] := by decide +kernel
theorem lit9 : ofS ";" = [59] := by decide +kernel
theorem lit10 : ofS ";\n" = [59, 10] := by decide +kernel
theorem lit11 : ofS "a" = [97] := by decide +kernel
theorem litn12 : (ofS "a letter that does not keep its book").length = 36 := by decide +kernel
theorem litn13 : (ofS "a letter that only the end of the road ends").length = 43 := by decide +kernel
theorem lit14 : ofS "a;\n;\nb: c" = [97, 59, 10, 59, 10, 98, 58, 32, 99] := by decide +kernel
theorem lit15 : ofS "another refusal" = [97, 110, 111, 116, 104, 101, 114, 32, 114, 101, 102, 117, 115, 97, 108] := by decide +kernel
theorem lit16 : ofS "ask" = [97, 115, 107] := by decide +kernel
theorem lit17 : ofS "b" = [98] := by decide +kernel
theorem lit18 : ofS "bob" = [98, 111, 98] := by decide +kernel
theorem lit19 : ofS "from" = [102, 114, 111, 109] := by decide +kernel
theorem lit20 : ofS "length" = [108, 101, 110, 103, 116, 104] := by decide +kernel
theorem lit21 : ofS "length: " = [108, 101, 110, 103, 116, 104, 58, 32] := by decide +kernel
theorem lit22 : ofS "none" = [110, 111, 110, 101] := by decide +kernel
theorem lit23 : ofS "parts" = [112, 97, 114, 116, 115] := by decide +kernel
theorem lit24 : ofS "pieces" = [112, 105, 101, 99, 101, 115] := by decide +kernel
theorem lit25 : ofS "rest" = [114, 101, 115, 116] := by decide +kernel
theorem lit26 : ofS "to" = [116, 111] := by decide +kernel
theorem lit27 : ofS "toolongaword" = [116, 111, 111, 108, 111, 110, 103, 97, 119, 111, 114, 100] := by decide +kernel
theorem lit28 : ofS "wordword" = [119, 111, 114, 100, 119, 111, 114, 100] := by decide +kernel
theorem lit29 : ofS "x y" = [120, 32, 121] := by decide +kernel
theorem lit30 : ofS "z" = [122] := by decide +kernel
theorem lit31 : ofS "~" = [126] := by decide +kernel
def g_END_NAMES : D := .tup [.str (ofS "length"), .str (ofS "pieces"), .str (ofS "parts"), .str (ofS "rest")]
theorem gv_END_NAMES : g_END_NAMES = .tup [.str (ofS "length"), .str (ofS "pieces"), .str (ofS "parts"), .str (ofS "rest")] := rfl
def g_FIGURES : D := .str (ofS "0123456789abcdef")
theorem gv_FIGURES : g_FIGURES = .str (ofS "0123456789abcdef") := rfl
def g_ROW_END : D := .str (ofS ";\n")
theorem gv_ROW_END : g_ROW_END = .str (ofS ";\n") := rfl
def g_USUAL : D := .tup [.int 8, .int 12, .int 40, .int 12, .int 400, .int 12, .int 6]
theorem gv_USUAL : g_USUAL = .tup [.int 8, .int 12, .int 40, .int 12, .int 400, .int 12, .int 6] := rfl
def okL : List (Str × Str) := []
def okF : OkT := okT okL
def tb0 : List (Str × Bool) := [("NoLetter", true)]
theorem tb0_NoLetter : tabB tb0 "NoLetter" = some true := by decide +kernel
def tb1 : List (Str × Bool) := [("NoLetter", false)]
theorem tb1_NoLetter : tabB tb1 "NoLetter" = some false := by decide +kernel
abbrev s__law_drawn : Stmt := top 32
abbrev s__law_letter : Stmt := top 33
abbrev s_book_of : Stmt := top 9
abbrev s_is_plain : Stmt := top 11
abbrev s_is_run : Stmt := top 18
abbrev s_is_small : Stmt := top 10
abbrev s_is_word : Stmt := top 14
abbrev s_is_label : Stmt := top 15
abbrev s_is_value : Stmt := top 16
abbrev s_are_fields : Stmt := top 17
abbrev s_is_part : Stmt := top 21
abbrev s_is_body : Stmt := top 20
abbrev s_parts_in : Stmt := top 19
abbrev s_keeps : Stmt := top 22
abbrev s_row_text : Stmt := top 24
abbrev s_rows_text : Stmt := top 25
abbrev s_figures_of : Stmt := top 12
abbrev s_end_text : Stmt := top 26
abbrev s_part_text : Stmt := top 28
abbrev s_body_text : Stmt := top 27
abbrev s_written : Stmt := top 29
abbrev s_written_all : Stmt := top 30
abbrev s__law_many : Stmt := top 34
abbrev s_written_n : Stmt := top 29
abbrev s_written_all_n : Stmt := top 30
abbrev s_law : Stmt := top 35
abbrev D__law_drawn : He.DefD := ⟨("_law_drawn", none), "_law_drawn", "_law_drawn", defArgs s__law_drawn, defBody s__law_drawn, defScope s__law_drawn, [], []⟩
abbrev D__law_letter : He.DefD := ⟨("_law_letter", none), "_law_letter", "_law_letter", defArgs s__law_letter, defBody s__law_letter, defScope s__law_letter, [], []⟩
abbrev D_book_of : He.DefD := ⟨("book_of", none), "book_of", "book_of", defArgs s_book_of, defBody s_book_of, defScope s_book_of, [], []⟩
abbrev D_is_plain : He.DefD := ⟨("is_plain", none), "is_plain", "is_plain", defArgs s_is_plain, defBody s_is_plain, defScope s_is_plain, [], []⟩
abbrev D_is_run : He.DefD := ⟨("is_run", none), "is_run", "is_run", defArgs s_is_run, defBody s_is_run, defScope s_is_run, [], []⟩
abbrev D_is_small : He.DefD := ⟨("is_small", none), "is_small", "is_small", defArgs s_is_small, defBody s_is_small, defScope s_is_small, [], []⟩
abbrev D_is_word : He.DefD := ⟨("is_word", none), "is_word", "is_word", defArgs s_is_word, defBody s_is_word, defScope s_is_word, [], []⟩
abbrev D_is_label : He.DefD := ⟨("is_label", none), "is_label", "is_label", defArgs s_is_label, defBody s_is_label, defScope s_is_label, [], []⟩
abbrev D_is_value : He.DefD := ⟨("is_value", none), "is_value", "is_value", defArgs s_is_value, defBody s_is_value, defScope s_is_value, [], []⟩
abbrev D_are_fields : He.DefD := ⟨("are_fields", none), "are_fields", "are_fields", defArgs s_are_fields, defBody s_are_fields, defScope s_are_fields, [], []⟩
abbrev D_is_part : He.DefD := ⟨("is_part", none), "is_part", "is_part", defArgs s_is_part, defBody s_is_part, defScope s_is_part, [], []⟩
abbrev D_is_body : He.DefD := ⟨("is_body", none), "is_body", "is_body", defArgs s_is_body, defBody s_is_body, defScope s_is_body, [], []⟩
abbrev D_parts_in : He.DefD := ⟨("parts_in", none), "parts_in", "parts_in", defArgs s_parts_in, defBody s_parts_in, defScope s_parts_in, [], []⟩
abbrev D_keeps : He.DefD := ⟨("keeps", none), "keeps", "keeps", defArgs s_keeps, defBody s_keeps, defScope s_keeps, [.non], []⟩
abbrev D_row_text : He.DefD := ⟨("row_text", none), "row_text", "row_text", defArgs s_row_text, defBody s_row_text, defScope s_row_text, [], []⟩
abbrev D_rows_text : He.DefD := ⟨("rows_text", none), "rows_text", "rows_text", defArgs s_rows_text, defBody s_rows_text, defScope s_rows_text, [], []⟩
abbrev D_figures_of : He.DefD := ⟨("figures_of", none), "figures_of", "figures_of", defArgs s_figures_of, defBody s_figures_of, defScope s_figures_of, [], []⟩
abbrev D_end_text : He.DefD := ⟨("end_text", none), "end_text", "end_text", defArgs s_end_text, defBody s_end_text, defScope s_end_text, [], []⟩
abbrev D_part_text : He.DefD := ⟨("part_text", none), "part_text", "part_text", defArgs s_part_text, defBody s_part_text, defScope s_part_text, [], []⟩
abbrev D_body_text : He.DefD := ⟨("body_text", none), "body_text", "body_text", defArgs s_body_text, defBody s_body_text, defScope s_body_text, [], []⟩
abbrev D_written : He.DefD := ⟨("written", none), "written", "written", defArgs s_written, defBody s_written, defScope s_written, [.non], []⟩
abbrev D_written_all : He.DefD := ⟨("written_all", none), "written_all", "written_all", defArgs s_written_all, defBody s_written_all, defScope s_written_all, [.non], []⟩
abbrev D__law_many : He.DefD := ⟨("_law_many", none), "_law_many", "_law_many", defArgs s__law_many, defBody s__law_many, defScope s__law_many, [], []⟩
abbrev D_law : He.DefD := ⟨("law", none), "law", "law", defArgs s_law, defBody s_law, defScope s_law, [], []⟩
def fn : List He.DefD := D__law_drawn :: D__law_letter :: D_book_of :: D_is_plain :: D_is_run :: D_is_small :: D_is_word :: D_is_label :: D_is_value :: D_are_fields :: D_is_part :: D_is_body :: D_parts_in :: D_keeps :: D_row_text :: D_rows_text :: D_figures_of :: D_end_text :: D_part_text :: D_body_text :: D_written :: D_written_all :: D__law_many :: D_law :: []
def fa : List He.Fa := (.free "ValueError" : He.Fa) :: (.free "all" : He.Fa) :: (.free "divmod" : He.Fa) :: (.free "isinstance" : He.Fa) :: (.free "len" : He.Fa) :: (.free "list" : He.Fa) :: (.free "str" : He.Fa) :: (.free "sum" : He.Fa) :: (.free "tuple" : He.Fa) :: (.glo "END_NAMES" : He.Fa) :: (.str "FIGURES" "0123456789abcdef" : He.Fa) :: (.str "ROW_END" ";\n" : He.Fa) :: (.glo "USUAL" : He.Fa) :: (.glo "_law_drawn" : He.Fa) :: (.glo "_law_letter" : He.Fa) :: (.glo "book_of" : He.Fa) :: (.glo "is_plain" : He.Fa) :: (.glo "is_run" : He.Fa) :: (.glo "is_small" : He.Fa) :: (.glo "is_word" : He.Fa) :: (.glo "is_label" : He.Fa) :: (.glo "is_value" : He.Fa) :: (.glo "are_fields" : He.Fa) :: (.glo "is_part" : He.Fa) :: (.glo "is_body" : He.Fa) :: (.glo "parts_in" : He.Fa) :: (.glo "keeps" : He.Fa) :: (.glo "row_text" : He.Fa) :: (.glo "rows_text" : He.Fa) :: (.glo "figures_of" : He.Fa) :: (.glo "end_text" : He.Fa) :: (.glo "part_text" : He.Fa) :: (.glo "body_text" : He.Fa) :: (.glo "written" : He.Fa) :: (.glo "written_all" : He.Fa) :: (.glo "_law_many" : He.Fa) :: (.glo "law" : He.Fa) :: (.glo "FrameError" : He.Fa) :: (.glo "NoLetter" : He.Fa) :: (.glo "NoRule" : He.Fa) :: []
def ex (K : PySem.W.Frag) : Bool := He.tupB K "END_NAMES" [.str "length", .str "pieces", .str "parts", .str "rest"] && He.tupB K "USUAL" [.int 8, .int 12, .int 40, .int 12, .int 400, .int 12, .int 6] && excOB K "NoLetter" && exmTab K (.ref (He.ga K "FrameError")) tb0 && kitTab K (.ref (He.ga K "NoLetter")) tb0 && allTab (excCB K) tb0 && kitTab K (.ref (He.ga K "NoRule")) tb1 && allTab (excCB K) tb1 && kitTab K (.type "ValueError") tb0
abbrev hk : PySem.W.Hook := hookZ 4 fa fn ex
abbrev R : PySem.W.OpenRow := PySem.W.OpenLaw.row PySem.Challenge.rw_framepost_k14_one_behind_the_other
def ob (s : PySem.W.SharedT) : AlY := obsZ 4 fa fn ex (HandSHeadRun.getT s)
theorem ob_eq (s : PySem.W.SharedT) : ob s = hk.obs s.abs := obsZ_eq (HandSHeadRun.getT_eq s)
def loose : List PySem.Str := ("FrameError" : PySem.Str) :: ("NoLetter" : PySem.Str) :: ("NoRule" : PySem.Str) :: ("FIGURES" : PySem.Str) :: ("END_NAMES" : PySem.Str) :: ("ROW_END" : PySem.Str) :: ("USUAL" : PySem.Str) :: ("book_of" : PySem.Str) :: ("is_small" : PySem.Str) :: ("is_plain" : PySem.Str) :: ("figures_of" : PySem.Str) :: ("is_word" : PySem.Str) :: ("is_label" : PySem.Str) :: ("is_value" : PySem.Str) :: ("are_fields" : PySem.Str) :: ("is_run" : PySem.Str) :: ("parts_in" : PySem.Str) :: ("is_body" : PySem.Str) :: ("is_part" : PySem.Str) :: ("keeps" : PySem.Str) :: ("row_text" : PySem.Str) :: ("rows_text" : PySem.Str) :: ("end_text" : PySem.Str) :: ("body_text" : PySem.Str) :: ("part_text" : PySem.Str) :: ("written" : PySem.Str) :: ("written_all" : PySem.Str) :: ("_law_drawn" : PySem.Str) :: ("_law_letter" : PySem.Str) :: ("_law_many" : PySem.Str) :: []
section
open HandSHeadRun PySem.W PySem.Calls
theorem run_l (w : World) : ∀ os : OsState, (HandSHeadRun.endF (stepQ (denQ tabQ) R.prog w) 20000 R.prog w os).map (fun s => (looksF R.prog (boot_heap w.params) s.abs, seenQ (PySem.W.view R.prog [35]) loose (importedModules R.prog.main.body) (fun s => xlAt (PySem.W.view R.prog [35]) [] s && recOk R.toRowW.records s) s.abs, (fn.map fun d => He.fnW (He.frT (HandSHeadRun.getT s) (asZ (HandSHeadRun.getT s) 4)) d.at_), ex (He.frT (HandSHeadRun.getT s) (asZ (HandSHeadRun.getT s) 4)) && fa.all fun f => f.ok (He.frT (HandSHeadRun.getT s) (asZ (HandSHeadRun.getT s) 4)))) = some (true, openGood (PySem.W.view R.prog [35]) loose, fn.map He.DefD.val, true) := by
  intro os
  kernel_rfl
theorem run_f (w : World) : ∀ os : OsState, (HandSHeadRun.endF (stepQ (denQ tabQ) R.prog w) 20000 R.prog w os).map (fun s => fn.all fun d => d.ok (He.frT (HandSHeadRun.getT s) (asZ (HandSHeadRun.getT s) 4))) = some (true) := by
  intro os
  kernel_rfl
theorem run (w : World) : HandSHeadRun.RunEq R (PySem.W.view R.prog [35]) hk ob 20000 loose w := fun os => run_two (K := fun s => (He.frT (HandSHeadRun.getT s) (asZ (HandSHeadRun.getT s) 4))) (run_l w os) (run_f w os)
end
def f__law_drawn : FS :=
  fSeq (fSet 2 (q2 dMod (q2 dMul (q2 dAdd (q2 dAdd (qVar 0) (q2 dMul (qC (.int 7919)) (qVar 1))) (qC (.int 1))) (qC (.int 48271))) (qC (.int 2147483647))))
    (fRet (q2 dMod (q2 dMul (qVar 2) (q2 dAdd (q2 dFdiv (qVar 2) (qC (.int 1009))) (qC (.int 69621)))) (qC (.int 2147483647))))
def r__law_drawn : List D → Option D := runQ 3 2 (f__law_drawn)
def f__law_letter : FS :=
  fSeq (fSet 1 (qSl (qC (.str (ofS "a;\n;\nb: c"))) oNone (oSome (q2 dMod (qRun 2 [] r__law_drawn (aCons (qVar 0) (aCons (qC (.int 1)) (aNil)))) (qC (.int 10))))))
    (fSeq (fSet 2 (q2 dIx (qN (aData (aCons (qTup (aCons (qC (.str (ofS "none"))) (aNil))) (aCons (qTup (aCons (qC (.str (ofS "length"))) (aCons (qVar 1) (aNil)))) (aCons (qTup (aCons (qC (.str (ofS "pieces"))) (aCons (qCall (o1 dTuple) (aCons (qN (qListS (qVar 1))) (aNil))) (aCons (qTup (aNil)) (aNil))))) (aCons (qTup (aCons (qC (.str (ofS "rest"))) (aCons (qVar 1) (aNil)))) (aNil))))))) (q2 dMod (qRun 2 [] r__law_drawn (aCons (qVar 0) (aCons (qC (.int 2)) (aNil)))) (qC (.int 4)))))
    (fSeq (fSet 3 (q2 dIx (qTup (aCons (qTup (aCons (qTup (aCons (qC (.str (ofS "to"))) (aCons (qC (.str (ofS "bob"))) (aNil)))) (aNil))) (aCons (qTup (aNil)) (aCons (qTup (aCons (qTup (aCons (qC (.str (ofS "from"))) (aCons (qC (.str (ofS "x y"))) (aNil)))) (aCons (qTup (aCons (qC (.str (ofS "to"))) (aCons (qC (.str (ofS "z"))) (aNil)))) (aNil)))) (aNil))))) (q2 dMod (qRun 2 [] r__law_drawn (aCons (qVar 0) (aCons (qC (.int 3)) (aNil)))) (qC (.int 3)))))
    (fRet (qTup (aCons (q2 dIx (qN (aData (aCons (qC (.str (ofS "ask"))) (aCons (qC (.str (ofS "b"))) (aCons (qC (.str (ofS "wordword"))) (aNil)))))) (q2 dMod (qRun 2 [] r__law_drawn (aCons (qVar 0) (aCons (qC (.int 4)) (aNil)))) (qC (.int 3)))) (aCons (qVar 3) (aCons (qVar 2) (aNil))))))))
def r__law_letter : List D → Option D := runQ 4 1 (f__law_letter)
def f_book_of : FS :=
  fSeq (fIf (qB (q2 dIs (qVar 0) (qC .non))) (fRet (qC g_USUAL)) (fNext))
    (fRet (qVar 0))
def r_book_of : List D → Option D := runQ 1 1 (f_book_of)
def f_is_plain : FS :=
  fRet (qOr (q2 dEq (qVar 0) (qC (.str (ofS "\n")))) (qAnd (q2 dEq (qCall (o1 dLen) (aCons (qVar 0) (aNil))) (qC (.int 1))) (q3 dLe dLe (qC (.str (ofS " "))) (qVar 0) (qC (.str (ofS "~"))))))
def r_is_plain : List D → Option D := runQ 1 1 (f_is_plain)
def ce1_is_run : FQ :=
  qRun 1 [] r_is_plain (aCons (qVar 2) (aNil))
def f_is_run : FS :=
  fRet (qAnd (q2 dLe (qCall (o1 dLen) (aCons (qVar 0) (aNil))) (qVar 1)) (qCall (o1 fun x => (asL x).bind fun ds => (boolsD ds).map fun bs => .bl (bs.all id)) (aCons (qN (qLc (aQ (qVar 0)) (tgN 2) [2] (bYes) (ce1_is_run))) (aNil))))
def r_is_run : List D → Option D := runQ 3 2 (f_is_run)
def f_is_small : FS :=
  fRet (qAnd (q2 dEq (qCall (o1 dLen) (aCons (qVar 0) (aNil))) (qC (.int 1))) (q3 dLe dLe (qC (.str (ofS "a"))) (qVar 0) (qC (.str (ofS "z")))))
def r_is_small : List D → Option D := runQ 1 1 (f_is_small)
def ce1_is_word : FQ :=
  qRun 1 [] r_is_small (aCons (qVar 2) (aNil))
def f_is_word : FS :=
  fRet (qAnd (q3 dLe dLe (qC (.int 1)) (qCall (o1 dLen) (aCons (qVar 0) (aNil))) (qVar 1)) (qCall (o1 fun x => (asL x).bind fun ds => (boolsD ds).map fun bs => .bl (bs.all id)) (aCons (qN (qLc (aQ (qVar 0)) (tgN 2) [2] (bYes) (ce1_is_word))) (aNil))))
def r_is_word : List D → Option D := runQ 3 2 (f_is_word)
def f_is_label : FS :=
  fRet (qAnd (qRun 2 [] r_is_word (aCons (qVar 0) (aCons (qVar 1) (aNil)))) (q2 dNotIn (qVar 0) (qC g_END_NAMES)))
def r_is_label : List D → Option D := runQ 2 2 (f_is_label)
def ce1_is_value : FQ :=
  qAnd (qRun 1 [] r_is_plain (aCons (qVar 2) (aNil))) (qAnd (q2 dNe (qVar 2) (qC (.str (ofS ";")))) (q2 dNe (qVar 2) (qC (.str (ofS "\n")))))
def f_is_value : FS :=
  fSeq (fIf (bOr (bNot (qB (q3 dLe dLe (qC (.int 1)) (qCall (o1 dLen) (aCons (qVar 0) (aNil))) (qVar 1)))) (bOr (qB (q2 dEq (q2 dIx (qVar 0) (qC (.int 0))) (qC (.str (ofS " "))))) (qB (q2 dEq (q2 dIx (qVar 0) (q1 dNeg (qC (.int 1)))) (qC (.str (ofS " "))))))) (fRet (qC (.bl false))) (fNext))
    (fRet (qCall (o1 fun x => (asL x).bind fun ds => (boolsD ds).map fun bs => .bl (bs.all id)) (aCons (qN (qLc (aQ (qVar 0)) (tgN 2) [2] (bYes) (ce1_is_value))) (aNil))))
def r_is_value : List D → Option D := runQ 3 2 (f_is_value)
def ce1_are_fields : FQ :=
  qAnd (qRun 2 [] r_is_label (aCons (qVar 3) (aCons (q2 dIx (qVar 2) (qC (.int 1))) (aNil)))) (qRun 2 [] r_is_value (aCons (qVar 4) (aCons (q2 dIx (qVar 2) (qC (.int 2))) (aNil))))
def f_are_fields : FS :=
  fSeq (fIf (qB (q2 dGt (qCall (o1 dLen) (aCons (qVar 0) (aNil))) (qVar 1))) (fRet (qC (.bl false))) (fNext))
    (fRet (qCall (o1 fun x => (asL x).bind fun ds => (boolsD ds).map fun bs => .bl (bs.all id)) (aCons (qN (qLc (aQ (qVar 0)) (tgT [3, 4]) [3, 4] (bYes) (ce1_are_fields))) (aNil))))
def r_are_fields : List D → Option D := runQ 5 3 (f_are_fields)
structure Fam_is_body_is_part where
  is_part : List D → Option D
  is_body : List D → Option D
def f_is_part (F : Fam_is_body_is_part) : FS :=
  fSeq (fIf (bOr (qB (q2 dGt (qVar 3) (q2 dIx (qVar 2) (qC (.int 6))))) (bNot (qB (qRun 3 [] r_are_fields (aCons (qVar 0) (aCons (q2 dIx (qVar 2) (qC (.int 3))) (aCons (qVar 2) (aNil)))))))) (fRet (qC (.bl false))) (fNext))
    (fRet (qRun 4 [] F.is_body (aCons (qVar 1) (aCons (q2 dSub (q2 dIx (qVar 2) (qC (.int 3))) (qCall (o1 dLen) (aCons (qVar 0) (aNil)))) (aCons (qVar 2) (aCons (qVar 3) (aNil)))))))
def ce1_is_body (F : Fam_is_body_is_part) : FQ :=
  qRun 4 [] F.is_part (aCons (qVar 4) (aCons (qVar 5) (aCons (qVar 2) (aCons (q2 dAdd (qVar 3) (qC (.int 1))) (aNil)))))
def f_is_body (F : Fam_is_body_is_part) : FS :=
  fSeq (fIf (qB (q2 dEq (q2 dIx (qVar 0) (qC (.int 0))) (qC (.str (ofS "none"))))) (fRet (qC (.bl true))) (fNext))
    (fSeq (fIf (qB (q2 dEq (q2 dIx (qVar 0) (qC (.int 0))) (qC (.str (ofS "rest"))))) (fRet (qAnd (q2 dEq (qVar 3) (qC (.int 0))) (qRun 2 [] r_is_run (aCons (q2 dIx (qVar 0) (qC (.int 1))) (aCons (q2 dIx (qVar 2) (qC (.int 4))) (aNil)))))) (fNext))
    (fSeq (fIf (qB (q2 dEq (q2 dIx (qVar 0) (qC (.int 0))) (qC (.str (ofS "length"))))) (fRet (qRun 2 [] r_is_run (aCons (q2 dIx (qVar 0) (qC (.int 1))) (aCons (q2 dIx (qVar 2) (qC (.int 4))) (aNil))))) (fNext))
    (fSeq (fIf (qB (q2 dEq (q2 dIx (qVar 0) (qC (.int 0))) (qC (.str (ofS "pieces"))))) (fRet (qAnd (q2 dNotIn (qC (.str (ofS ""))) (q2 dIx (qVar 0) (qC (.int 1)))) (qAnd (qRun 2 [] r_is_run (aCons (qM1 oJoin (qC (.str (ofS ""))) (q2 dIx (qVar 0) (qC (.int 1)))) (aCons (q2 dIx (qVar 2) (qC (.int 4))) (aNil)))) (qRun 3 [] r_are_fields (aCons (q2 dIx (qVar 0) (qC (.int 2))) (aCons (qVar 1) (aCons (qVar 2) (aNil)))))))) (fNext))
    (fRet (qCall (o1 fun x => (asL x).bind fun ds => (boolsD ds).map fun bs => .bl (bs.all id)) (aCons (qN (qLc (aQ (q2 dIx (qVar 0) (qC (.int 1)))) (tgT [4, 5]) [4, 5] (bYes) (ce1_is_body F))) (aNil)))))))
def fam_is_body_is_part : Nat → Fam_is_body_is_part
  | 0 => ⟨fun _ => none, fun _ => none⟩
  | n + 1 => ⟨runQ 4 4 (f_is_part (fam_is_body_is_part n)), runQ 6 4 (f_is_body (fam_is_body_is_part n))⟩
abbrev r_is_part (n : Nat) : List D → Option D := (fam_is_body_is_part n).is_part
theorem r_is_part_s (n : Nat) : (fam_is_body_is_part (n + 1)).is_part = runQ 4 4 (f_is_part (fam_is_body_is_part n)) := rfl
abbrev r_is_body (n : Nat) : List D → Option D := (fam_is_body_is_part n).is_body
theorem r_is_body_s (n : Nat) : (fam_is_body_is_part (n + 1)).is_body = runQ 6 4 (f_is_body (fam_is_body_is_part n)) := rfl
structure Fam_parts_in where
  parts_in : List D → Option D
def ce1_parts_in (F : Fam_parts_in) : FQ :=
  q2 dAdd (qC (.int 1)) (qRun 1 [] F.parts_in (aCons (qVar 2) (aNil)))
def f_parts_in (F : Fam_parts_in) : FS :=
  fSeq (fIf (qB (q2 dNe (q2 dIx (qVar 0) (qC (.int 0))) (qC (.str (ofS "parts"))))) (fRet (qC (.int 0))) (fNext))
    (fRet (qCall (o1 fun x => (asL x).bind fun ds => (intsD ds).map fun bs => .int bs.sum) (aCons (qN (qLc (aQ (q2 dIx (qVar 0) (qC (.int 1)))) (tgT [1, 2]) [1, 2] (bYes) (ce1_parts_in F))) (aNil))))
def fam_parts_in : Nat → Fam_parts_in
  | 0 => ⟨fun _ => none⟩
  | n + 1 => ⟨runQ 3 1 (f_parts_in (fam_parts_in n))⟩
abbrev r_parts_in (n : Nat) : List D → Option D := (fam_parts_in n).parts_in
theorem r_parts_in_s (n : Nat) : (fam_parts_in (n + 1)).parts_in = runQ 3 1 (f_parts_in (fam_parts_in n)) := rfl
def f_keeps : FS :=
  fSeq (fSet 1 (qRun 1 [] r_book_of (aCons (qVar 1) (aNil))))
    (fSeq (fSetT (tgT [2, 3, 4]) (qVar 0))
    (fSeq (fIf (bOr (bNot (qB (qRun 2 [] r_is_word (aCons (qVar 2) (aCons (q2 dIx (qVar 1) (qC (.int 0))) (aNil)))))) (qB (q2 dGt (qRun 1 [] (r_parts_in 80) (aCons (qVar 4) (aNil))) (q2 dIx (qVar 1) (qC (.int 5)))))) (fRet (qC (.bl false))) (fNext))
    (fRet (qRun 4 [] (r_is_part 80) (aCons (qVar 3) (aCons (qVar 4) (aCons (qVar 1) (aCons (qC (.int 0)) (aNil)))))))))
def r_keeps : List D → Option D := runQ 5 2 (f_keeps)
def f_row_text : FS :=
  fRet (q2 dAdd (qVar 0) (qC g_ROW_END))
def r_row_text : List D → Option D := runQ 1 1 (f_row_text)
def ce1_rows_text : FQ :=
  qRun 1 [] r_row_text (aCons (q2 dAdd (q2 dAdd (qVar 1) (qC (.str (ofS ": ")))) (qVar 2)) (aNil))
def f_rows_text : FS :=
  fRet (qM1 oJoin (qC (.str (ofS ""))) (qN (qLc (aQ (qVar 0)) (tgT [1, 2]) [1, 2] (bYes) (ce1_rows_text))))
def r_rows_text : List D → Option D := runQ 3 1 (f_rows_text)
def fuel_figures_of_1 : List D → List D → Nat := fun _ _ => 1000
def wt1_figures_of : FB :=
  qB (q2 dGe (qVar 0) (qVar 1))
def wb1_figures_of : FS :=
  fWp [3] (fSeq (fSetT (tgT [0, 3]) (qCall (o2 dDivmod) (aCons (qVar 0) (aCons (qVar 1) (aNil)))))
    (fSet 2 (q2 dAdd (q2 dIx (qC g_FIGURES) (qVar 3)) (qVar 2))))
def f_figures_of : FS :=
  fSeq (fSet 2 (qC (.str (ofS ""))))
    (fSeq (fWh fuel_figures_of_1 (wt1_figures_of) (wb1_figures_of))
    (fRet (q2 dAdd (q2 dIx (qC g_FIGURES) (qVar 0)) (qVar 2))))
def r_figures_of : List D → Option D := runQ 4 2 (f_figures_of)
def f_end_text : FS :=
  fSeq (fIf (qB (q2 dEq (q2 dIx (qVar 0) (qC (.int 0))) (qC (.str (ofS "none"))))) (fRet (qC (.str (ofS "")))) (fNext))
    (fSeq (fIf (qB (q2 dEq (q2 dIx (qVar 0) (qC (.int 0))) (qC (.str (ofS "length"))))) (fRet (qRun 1 [] r_row_text (aCons (q2 dAdd (qC (.str (ofS "length: "))) (qCall (o1 dStrI) (aCons (qCall (o1 dLen) (aCons (q2 dIx (qVar 0) (qC (.int 1))) (aNil))) (aNil)))) (aNil)))) (fNext))
    (fRet (qRun 1 [] r_row_text (aCons (q2 dAdd (q2 dIx (qVar 0) (qC (.int 0))) (qC (.str (ofS ": yes")))) (aNil)))))
def r_end_text : List D → Option D := runQ 1 1 (f_end_text)
structure Fam_body_text_part_text where
  part_text : List D → Option D
  body_text : List D → Option D
def f_part_text (F : Fam_body_text_part_text) : FS :=
  fRet (q2 dAdd (q2 dAdd (q2 dAdd (qRun 1 [] r_rows_text (aCons (qVar 0) (aNil))) (qRun 1 [] r_end_text (aCons (qVar 1) (aNil)))) (qRun 1 [] r_row_text (aCons (qC (.str (ofS ""))) (aNil)))) (qRun 1 [] F.body_text (aCons (qVar 1) (aNil))))
def ce1_body_text (F : Fam_body_text_part_text) : FQ :=
  q2 dAdd (qRun 1 [] r_row_text (aCons (qRun 2 [] r_figures_of (aCons (qCall (o1 dLen) (aCons (qVar 3) (aNil))) (aCons (qC (.int 16)) (aNil)))) (aNil))) (qRun 1 [] r_row_text (aCons (qVar 3) (aNil)))
def ce2_body_text (F : Fam_body_text_part_text) : FQ :=
  q2 dAdd (qRun 1 [] r_row_text (aCons (qC (.str (ofS "+"))) (aNil))) (qRun 2 [] F.part_text (aCons (qVar 4) (aCons (qVar 5) (aNil))))
def f_body_text (F : Fam_body_text_part_text) : FS :=
  fSeq (fIf (qB (q2 dEq (q2 dIx (qVar 0) (qC (.int 0))) (qC (.str (ofS "none"))))) (fRet (qC (.str (ofS "")))) (fNext))
    (fSeq (fIf (qB (q2 dEq (q2 dIx (qVar 0) (qC (.int 0))) (qC (.str (ofS "pieces"))))) (fSeq (fPf 1 (fSetN 1 (qLc (aQ (q2 dIx (qVar 0) (qC (.int 1)))) (tgN 3) [3] (bYes) (ce1_body_text F))))
    (fRet (q2 dAdd (q2 dAdd (q2 dAdd (qM1 oJoin (qC (.str (ofS ""))) (qVar 1)) (qRun 1 [] r_row_text (aCons (qC (.str (ofS "0"))) (aNil)))) (qRun 1 [] r_rows_text (aCons (q2 dIx (qVar 0) (qC (.int 2))) (aNil)))) (qRun 1 [] r_row_text (aCons (qC (.str (ofS ""))) (aNil)))))) (fNext))
    (fSeq (fIf (qB (q2 dEq (q2 dIx (qVar 0) (qC (.int 0))) (qC (.str (ofS "parts"))))) (fSeq (fPf 2 (fSetN 2 (qLc (aQ (q2 dIx (qVar 0) (qC (.int 1)))) (tgT [4, 5]) [4, 5] (bYes) (ce2_body_text F))))
    (fRet (q2 dAdd (qM1 oJoin (qC (.str (ofS ""))) (qVar 2)) (qRun 1 [] r_row_text (aCons (qC (.str (ofS "-"))) (aNil)))))) (fNext))
    (fRet (q2 dIx (qVar 0) (qC (.int 1))))))
def fam_body_text_part_text : Nat → Fam_body_text_part_text
  | 0 => ⟨fun _ => none, fun _ => none⟩
  | n + 1 => ⟨runQ 2 2 (f_part_text (fam_body_text_part_text n)), runQ 6 1 (f_body_text (fam_body_text_part_text n))⟩
abbrev r_part_text (n : Nat) : List D → Option D := (fam_body_text_part_text n).part_text
theorem r_part_text_s (n : Nat) : (fam_body_text_part_text (n + 1)).part_text = runQ 2 2 (f_part_text (fam_body_text_part_text n)) := rfl
abbrev r_body_text (n : Nat) : List D → Option D := (fam_body_text_part_text n).body_text
theorem r_body_text_s (n : Nat) : (fam_body_text_part_text (n + 1)).body_text = runQ 6 1 (f_body_text (fam_body_text_part_text n)) := rfl
def f_written : FS :=
  fSeq (fIf (bNot (qB (qRun 2 [] r_keeps (aCons (qVar 0) (aCons (qVar 1) (aNil)))))) (fRaise "NoLetter") (fNext))
    (fRet (q2 dAdd (qRun 1 [] r_row_text (aCons (q2 dIx (qVar 0) (qC (.int 0))) (aNil))) (qRun 2 [] (r_part_text 80) (aCons (q2 dIx (qVar 0) (qC (.int 1))) (aCons (q2 dIx (qVar 0) (qC (.int 2))) (aNil))))))
def r_written : RX := runX 2 [false, false] (f_written)
def lb1_written_all : FS :=
  fIf (qB (q2 dEq (q2 dIx (q2 dIx (qVar 2) (qC (.int 2))) (qC (.int 0))) (qC (.str (ofS "rest"))))) (fRaise "NoLetter") (fNext)
def cx1_written_all : FX :=
  xRun 2 [] r_written (xaCons (xQ (qVar 2)) (xaCons (xQ (qVar 1)) (xaNil)))
def f_written_all : FS :=
  fSeq (fFor (aF (qSl (qVar 0) oNone (oSome (q1 dNeg (qC (.int 1)))))) (tgN 2) (lb1_written_all))
    (fRetX (xM1 oJoin (xQ (qC (.str (ofS "")))) (xLcR (aF (qVar 0)) (tgN 2) [2] (bYes) (cx1_written_all))))
def r_written_all : RX := runX 3 [false, false] (f_written_all)
def tb1__law_many : FS :=
  fSetX 2 (xRun 2 [] r_written_all (xaCons (xQ (qVar 0)) (xaCons (xQ (qVar 1)) (xaNil))))
def tj1__law_many : FJS :=
  fun c fs => fSeq (fIf (bAnd (qB (jIsi (tabB tb0) c fs)) (bAnd (bNot (qB (jIsi (tabB tb1) c fs))) (qB (jIsi (tabB tb0) c fs)))) (fRet (qC .non)) (fNext)) (fRet (qC (.str (ofS "another refusal"))))
def f__law_many : FS :=
  fSeq (fTryAs (tabB tb0) 3 (tb1__law_many) (tj1__law_many))
    (fRet (qVar 2))
def r__law_many : RF := runF 4 (f__law_many)
def f_written_n : FS :=
  fSeq (fIf (bNot (qB (qRun 2 [] r_keeps (aCons (qVar 0) (aCons (qVar 1) (aNil)))))) (fNever) (fNext))
    (fRet (q2 dAdd (qRun 1 [] r_row_text (aCons (q2 dIx (qVar 0) (qC (.int 0))) (aNil))) (qRun 2 [] (r_part_text 80) (aCons (q2 dIx (qVar 0) (qC (.int 1))) (aCons (q2 dIx (qVar 0) (qC (.int 2))) (aNil))))))
def r_written_n : List D → Option D := runQ 2 2 (f_written_n)
def lb1_written_all_n : FS :=
  fIf (qB (q2 dEq (q2 dIx (q2 dIx (qVar 2) (qC (.int 2))) (qC (.int 0))) (qC (.str (ofS "rest"))))) (fNever) (fNext)
def ce1_written_all_n : FQ :=
  qRun 2 [] r_written_n (aCons (qVar 2) (aCons (qVar 1) (aNil)))
def f_written_all_n : FS :=
  fSeq (fFor (aF (qSl (qVar 0) oNone (oSome (q1 dNeg (qC (.int 1)))))) (tgN 2) (lb1_written_all_n))
    (fRet (qM1 oJoin (qC (.str (ofS ""))) (qN (qLc (aQ (qVar 0)) (tgN 2) [2] (bYes) (ce1_written_all_n)))))
def r_written_all_n : List D → Option D := runQ 3 2 (f_written_all_n)
def ct1_law : FB :=
  bAnd (qB (q2 dLe (qCall (o1 dLen) (aCons (q2 dIx (qVar 10) (qC (.int 0))) (aNil))) (qC (.int 8)))) (bOr (qB (q2 dIs (qVar 5) (qC .non))) (qB (q2 dLe (qCall (o1 dLen) (aCons (q2 dIx (qVar 10) (qC (.int 0))) (aNil))) (q2 dIx (qVar 5) (qC (.int 0))))))
def ct2_law : FB :=
  qB (q2 dEq (q2 dIx (q2 dIx (qVar 10) (qC (.int 2))) (qC (.int 0))) (qC (.str (ofS "rest"))))
def ce1_law : FQ :=
  qRun 2 [] r_written_n (aCons (qVar 10) (aCons (qVar 5) (aNil)))
def lb1_law : FS :=
  fWp [2, 3, 4, 5, 6, 7, 8, 9] (fSeq (fSet 3 (qRun 1 [] r__law_letter (aCons (qVar 2) (aNil))))
    (fSeq (fSet 4 (q2 dMod (qRun 2 [] r__law_drawn (aCons (qVar 2) (aCons (qC (.int 5)) (aNil)))) (qC (.int 8))))
    (fSeq (fIf (qB (q2 dEq (qVar 4) (qC (.int 1)))) (fSet 3 (qTup (aCons (qC (.str (ofS "toolongaword"))) (aCons (q2 dIx (qVar 3) (qC (.int 1))) (aCons (q2 dIx (qVar 3) (qC (.int 2))) (aNil)))))) (fNext))
    (fSeq (fApp 1 (qVar 3))
    (fSeq (fIf (bAnd (qB (q2 dEq (q2 dIx (q2 dIx (qVar 3) (qC (.int 2))) (qC (.int 0))) (qC (.str (ofS "rest"))))) (qB (q2 dEq (q2 dMod (qRun 2 [] r__law_drawn (aCons (qVar 2) (aCons (qC (.int 6)) (aNil)))) (qC (.int 2))) (qC (.int 0))))) (fSetN 1 (aSl (qVar 1) (oSome (q1 dNeg (qC (.int 3)))) oNone)) (fNext))
    (fSeq (fIf (qB (q2 dEq (qVar 4) (qC (.int 2)))) (fSetN 1 (aData (aNil))) (fNext))
    (fSeq (fSet 5 (q2 dIx (qN (aData (aCons (qC .non) (aCons (qTup (aCons (qC (.int 8)) (aCons (qC (.int 12)) (aCons (qC (.int 40)) (aCons (qC (.int 12)) (aCons (qC (.int 400)) (aCons (qC (.int 12)) (aCons (qC (.int 6)) (aNil))))))))) (aCons (qTup (aCons (qC (.int 4)) (aCons (qC (.int 4)) (aCons (qC (.int 3)) (aCons (qC (.int 2)) (aCons (qC (.int 9)) (aCons (qC (.int 0)) (aCons (qC (.int 0)) (aNil))))))))) (aNil)))))) (q2 dMod (qRun 2 [] r__law_drawn (aCons (qVar 2) (aCons (qC (.int 7)) (aNil)))) (qC (.int 3)))))
    (fSeq (fPf 6 (fSetN 6 (qLc (aQ (qVar 1)) (tgN 10) [10] (ct1_law) (qVar 10))))
    (fSeq (fPf 7 (fSetN 7 (qLc (aQ (qSl (qVar 1) oNone (oSome (q1 dNeg (qC (.int 1)))))) (tgN 10) [10] (ct2_law) (qVar 10))))
    (fSeq (fSet 8 (qC .non))
    (fSeq (fIf (bAnd (qB (q2 dEq (qCall (o1 dLen) (aCons (qVar 6) (aNil))) (qCall (o1 dLen) (aCons (qVar 1) (aNil))))) (qB (q2 dEq (qVar 7) (qN (aData (aNil)))))) (fSet 8 (qM1 oJoin (qC (.str (ofS ""))) (qN (qLc (aQ (qVar 1)) (tgN 10) [10] (bYes) (ce1_law))))) (fNext))
    (fSeq (fSet 9 (qN (qListOf (qVar 1))))
    (fSeq (fIf (bOr (qB (q2 dNe (qRunF 2 [] r__law_many (aCons (qVar 9) (aCons (qVar 5) (aNil)))) (qVar 8))) (qB (q2 dNe (qVar 9) (qVar 1)))) (fRet (qC (.bl false))) (fNext))
    (fIf (bAnd (qB (q2 dIs (qVar 5) (qC .non))) (bAnd (qB (q2 dIsNot (qVar 8) (qC .non))) (qB (q2 dNe (qRun 2 [.non] r_written_all_n (aCons (qVar 9) (aNil))) (qVar 8))))) (fRet (qC (.bl false))) (fNext)))))))))))))))
def f_law : FS :=
  fSeq (fSetN 1 (aData (aNil)))
    (fSeq (fFor (aF (qSl (qVar 0) oNone (oSome (qC (.int 24))))) (tgN 2) (lb1_law))
    (fRet (qC (.bl true))))
def r_law : RF := runF 11 (f_law)
def klaw := And.intro (And.intro (And.intro (And.intro (And.intro (@lit0) (@lit1)) (And.intro (@lit2) (@lit3))) (And.intro (And.intro (@lit4) (@lit5)) (And.intro (@lit6) (And.intro (@lit7) (@lit8))))) (And.intro (And.intro (And.intro (@lit9) (@lit10)) (And.intro (@lit11) (And.intro (@litn12) (@litn13)))) (And.intro (And.intro (@lit14) (@lit15)) (And.intro (@lit16) (And.intro (@lit17) (@lit18)))))) (And.intro (And.intro (And.intro (And.intro (@lit19) (@lit20)) (And.intro (@lit21) (@lit22))) (And.intro (And.intro (@lit23) (@lit24)) (And.intro (@lit25) (And.intro (@lit26) (@lit27))))) (And.intro (And.intro (And.intro (@lit28) (@lit29)) (And.intro (@lit30) (And.intro (@lit31) (@gv_END_NAMES)))) (And.intro (And.intro (@gv_FIGURES) (@gv_ROW_END)) (And.intro (@gv_USUAL) (And.intro (@tb0_NoLetter) (@tb1_NoLetter))))))
/-- what the top has left -/
structure Tx (P : Program) (w : World) (K : PySem.W.Frag) (mg : Str → Option Value) (base : Heap) : Prop where
  b_ValueError : mg "ValueError" = none
  b_all : mg "all" = none
  b_divmod : mg "divmod" = none
  b_isinstance : mg "isinstance" = none
  b_len : mg "len" = none
  b_list : mg "list" = none
  b_str : mg "str" = none
  b_sum : mg "sum" = none
  b_tuple : mg "tuple" = none
  g_END_NAMES : GlD K mg "END_NAMES" g_END_NAMES
  g_FIGURES : GlD K mg "FIGURES" g_FIGURES
  g_ROW_END : GlD K mg "ROW_END" g_ROW_END
  g_USUAL : GlD K mg "USUAL" g_USUAL
  m__law_drawn : mg "_law_drawn" = some (.ref (He.ga K "_law_drawn"))
  m__law_letter : mg "_law_letter" = some (.ref (He.ga K "_law_letter"))
  m_book_of : mg "book_of" = some (.ref (He.ga K "book_of"))
  m_is_plain : mg "is_plain" = some (.ref (He.ga K "is_plain"))
  m_is_run : mg "is_run" = some (.ref (He.ga K "is_run"))
  m_is_small : mg "is_small" = some (.ref (He.ga K "is_small"))
  m_is_word : mg "is_word" = some (.ref (He.ga K "is_word"))
  m_is_label : mg "is_label" = some (.ref (He.ga K "is_label"))
  m_is_value : mg "is_value" = some (.ref (He.ga K "is_value"))
  m_are_fields : mg "are_fields" = some (.ref (He.ga K "are_fields"))
  m_is_part : mg "is_part" = some (.ref (He.ga K "is_part"))
  m_is_body : mg "is_body" = some (.ref (He.ga K "is_body"))
  m_parts_in : mg "parts_in" = some (.ref (He.ga K "parts_in"))
  m_keeps : mg "keeps" = some (.ref (He.ga K "keeps"))
  m_row_text : mg "row_text" = some (.ref (He.ga K "row_text"))
  m_rows_text : mg "rows_text" = some (.ref (He.ga K "rows_text"))
  m_figures_of : mg "figures_of" = some (.ref (He.ga K "figures_of"))
  m_end_text : mg "end_text" = some (.ref (He.ga K "end_text"))
  m_part_text : mg "part_text" = some (.ref (He.ga K "part_text"))
  m_body_text : mg "body_text" = some (.ref (He.ga K "body_text"))
  m_written : mg "written" = some (.ref (He.ga K "written"))
  m_written_all : mg "written_all" = some (.ref (He.ga K "written_all"))
  m__law_many : mg "_law_many" = some (.ref (He.ga K "_law_many"))
  m_law : mg "law" = some (.ref (He.ga K "law"))
  m_FrameError : mg "FrameError" = some (.ref (He.ga K "FrameError"))
  m_NoLetter : mg "NoLetter" = some (.ref (He.ga K "NoLetter"))
  m_NoRule : mg "NoRule" = some (.ref (He.ga K "NoRule"))
  x_f0 : (excOB K "NoLetter") = true
  x_f1 : (exmTab K (.ref (He.ga K "FrameError")) tb0) = true
  x_f2 : (kitTab K (.ref (He.ga K "NoLetter")) tb0) = true
  x_f3 : (allTab (excCB K) tb0) = true
  x_f4 : (kitTab K (.ref (He.ga K "NoRule")) tb1) = true
  x_f5 : (allTab (excCB K) tb1) = true
  x_f6 : (kitTab K (.type "ValueError") tb0) = true
  d__law_drawn : ∃ fd, FunD K "_law_drawn" "_law_drawn" (defArgs s__law_drawn) (defBody s__law_drawn) (defScope s__law_drawn) [] [] (He.ga K "_law_drawn") fd
  d__law_letter : ∃ fd, FunD K "_law_letter" "_law_letter" (defArgs s__law_letter) (defBody s__law_letter) (defScope s__law_letter) [] [] (He.ga K "_law_letter") fd
  d_book_of : ∃ fd, FunD K "book_of" "book_of" (defArgs s_book_of) (defBody s_book_of) (defScope s_book_of) [] [] (He.ga K "book_of") fd
  d_is_plain : ∃ fd, FunD K "is_plain" "is_plain" (defArgs s_is_plain) (defBody s_is_plain) (defScope s_is_plain) [] [] (He.ga K "is_plain") fd
  d_is_run : ∃ fd, FunD K "is_run" "is_run" (defArgs s_is_run) (defBody s_is_run) (defScope s_is_run) [] [] (He.ga K "is_run") fd
  d_is_small : ∃ fd, FunD K "is_small" "is_small" (defArgs s_is_small) (defBody s_is_small) (defScope s_is_small) [] [] (He.ga K "is_small") fd
  d_is_word : ∃ fd, FunD K "is_word" "is_word" (defArgs s_is_word) (defBody s_is_word) (defScope s_is_word) [] [] (He.ga K "is_word") fd
  d_is_label : ∃ fd, FunD K "is_label" "is_label" (defArgs s_is_label) (defBody s_is_label) (defScope s_is_label) [] [] (He.ga K "is_label") fd
  d_is_value : ∃ fd, FunD K "is_value" "is_value" (defArgs s_is_value) (defBody s_is_value) (defScope s_is_value) [] [] (He.ga K "is_value") fd
  d_are_fields : ∃ fd, FunD K "are_fields" "are_fields" (defArgs s_are_fields) (defBody s_are_fields) (defScope s_are_fields) [] [] (He.ga K "are_fields") fd
  d_is_part : ∃ fd, FunD K "is_part" "is_part" (defArgs s_is_part) (defBody s_is_part) (defScope s_is_part) [] [] (He.ga K "is_part") fd
  d_is_body : ∃ fd, FunD K "is_body" "is_body" (defArgs s_is_body) (defBody s_is_body) (defScope s_is_body) [] [] (He.ga K "is_body") fd
  d_parts_in : ∃ fd, FunD K "parts_in" "parts_in" (defArgs s_parts_in) (defBody s_parts_in) (defScope s_parts_in) [] [] (He.ga K "parts_in") fd
  d_keeps : ∃ fd, FunD K "keeps" "keeps" (defArgs s_keeps) (defBody s_keeps) (defScope s_keeps) [V.non] [] (He.ga K "keeps") fd
  d_row_text : ∃ fd, FunD K "row_text" "row_text" (defArgs s_row_text) (defBody s_row_text) (defScope s_row_text) [] [] (He.ga K "row_text") fd
  d_rows_text : ∃ fd, FunD K "rows_text" "rows_text" (defArgs s_rows_text) (defBody s_rows_text) (defScope s_rows_text) [] [] (He.ga K "rows_text") fd
  d_figures_of : ∃ fd, FunD K "figures_of" "figures_of" (defArgs s_figures_of) (defBody s_figures_of) (defScope s_figures_of) [] [] (He.ga K "figures_of") fd
  d_end_text : ∃ fd, FunD K "end_text" "end_text" (defArgs s_end_text) (defBody s_end_text) (defScope s_end_text) [] [] (He.ga K "end_text") fd
  d_part_text : ∃ fd, FunD K "part_text" "part_text" (defArgs s_part_text) (defBody s_part_text) (defScope s_part_text) [] [] (He.ga K "part_text") fd
  d_body_text : ∃ fd, FunD K "body_text" "body_text" (defArgs s_body_text) (defBody s_body_text) (defScope s_body_text) [] [] (He.ga K "body_text") fd
  d_written : ∃ fd, FunD K "written" "written" (defArgs s_written) (defBody s_written) (defScope s_written) [V.non] [] (He.ga K "written") fd
  d_written_all : ∃ fd, FunD K "written_all" "written_all" (defArgs s_written_all) (defBody s_written_all) (defScope s_written_all) [V.non] [] (He.ga K "written_all") fd
  d__law_many : ∃ fd, FunD K "_law_many" "_law_many" (defArgs s__law_many) (defBody s__law_many) (defScope s__law_many) [] [] (He.ga K "_law_many") fd
  d_law : ∃ fd, FunD K "law" "law" (defArgs s_law) (defBody s_law) (defScope s_law) [] [] (He.ga K "law") fd
section
variable {P : Program} {w : World} {K : PySem.W.Frag} {mg : Str → Option Value} {base : Heap}
theorem Tx.ce (T : Tx P w K mg base) : CE K okF := ce_of (L := okL) (fun p hp => nomatch hp)
theorem sc__law_drawn : FnScope ["_law_cell", "_law_place", "_law_number"] ["_law_cell", "_law_place"] (defScope s__law_drawn) := ⟨rfl, rfl, rfl, by decide +kernel, rfl, by decide +kernel, by decide +kernel⟩
theorem pss__law_drawn (T : Tx P w K mg base) {fa : Addr} {cdv : Value} {A : Around} {outer : List Env} {s : Shared} {H : Hp} {E : XK} (hr : Room 0 (A.deeper (envOfC "_law_drawn" (defScope s__law_drawn) s.heap.objs.size fa cdv))) :
    PSS (cxOf (L2N.CX P w) P w K mg base ["_law_cell", "_law_place", "_law_number"] "_law_drawn" (defScope s__law_drawn) fa cdv A outer s H E) [] (fun _ _ _ _ => False) (defBody s__law_drawn) (f__law_drawn) :=
  (pss_cons' (ps1_set (i := 2) sc__law_drawn.nd rfl (by first | exact Or.inl rfl | exact Or.inr rfl) (pq_op opd_mod (pq_op opd_mul (pq_op opd_add (pq_op opd_add (pq_var 0 (pv 0)) (pq_op opd_mul pq_int (pq_var 1 (pv 1)))) pq_int) pq_int) pq_int))
      (pss_one' (ps1_ret (pq_op opd_mod (pq_op opd_mul (pq_var 2 (pv 2)) (pq_op opd_add (pq_op opd_fdiv (pq_var 2 (pv 2)) pq_int) pq_int)) pq_int))))
theorem ok__law_drawn (T : Tx P w K mg base) : OkQ P w K mg base "_law_drawn" 1 2 [] r__law_drawn := by
  obtain ⟨fd, F⟩ := T.d__law_drawn
  exact ⟨_, fd, ["_law_cell", "_law_place"], [], [], fnq_def F sc__law_drawn rfl (fun cdv A outer s H E hr => pss__law_drawn T hr) (fun _ _ h => h), F.bindsN (fun _ _ _ _ _ _ us hl => match us, hl with | [_, _], _ => rfl), .nil, fun _ => ⟨rfl, rfl⟩, rfl, T.m__law_drawn, F.kp⟩
theorem sc__law_letter : FnScope ["_law_cell", "_law_text", "_law_body", "_law_fields"] ["_law_cell"] (defScope s__law_letter) := ⟨rfl, rfl, rfl, by decide +kernel, rfl, by decide +kernel, by decide +kernel⟩
theorem pss__law_letter (T : Tx P w K mg base) {fa : Addr} {cdv : Value} {A : Around} {outer : List Env} {s : Shared} {H : Hp} {E : XK} (hr : Room 1 (A.deeper (envOfC "_law_letter" (defScope s__law_letter) s.heap.objs.size fa cdv))) :
    PSS (cxOf (L2N.CX P w) P w K mg base ["_law_cell", "_law_text", "_law_body", "_law_fields"] "_law_letter" (defScope s__law_letter) fa cdv A outer s H E) [] (fun _ _ _ _ => False) (defBody s__law_letter) (f__law_letter) :=
  (pss_cons' (ps1_set (i := 1) sc__law_letter.nd rfl (by first | exact Or.inl rfl | exact Or.inr rfl) (pq_sl (pq_str "a;\n;\nb: c") poq_none (poq_some (pq_op opd_mod (pq_call (ok__law_drawn T) (hr.mono (by decide)) (paq_cons (pq_var 0 (pv 0)) (paq_cons pq_int paq_nil))) pq_int))))
      (pss_cons' (ps1_set (i := 2) sc__law_letter.nd rfl (by first | exact Or.inl rfl | exact Or.inr rfl) (pq_ix (PN.pq (pn_lst (paq_cons (pq_tup (paq_cons (pq_str "none") paq_nil)) (paq_cons (pq_tup (paq_cons (pq_str "length") (paq_cons (pq_var 1 (pv 1)) paq_nil))) (paq_cons (pq_tup (paq_cons (pq_str "pieces") (paq_cons (pq_callTy cd_tuple T.b_tuple (by decide +kernel) (paq_cons (PN.pq (pn_listS (pq_var 1 (pv 1)) rfl T.b_list)) paq_nil)) (paq_cons (pq_tup paq_nil) paq_nil)))) (paq_cons (pq_tup (paq_cons (pq_str "rest") (paq_cons (pq_var 1 (pv 1)) paq_nil))) paq_nil)))))) (pq_op opd_mod (pq_call (ok__law_drawn T) (hr.mono (by decide)) (paq_cons (pq_var 0 (pv 0)) (paq_cons pq_int paq_nil))) pq_int)))
      (pss_cons' (ps1_set (i := 3) sc__law_letter.nd rfl (by first | exact Or.inl rfl | exact Or.inr rfl) (pq_ix (pq_tup (paq_cons (pq_tup (paq_cons (pq_tup (paq_cons (pq_str "to") (paq_cons (pq_str "bob") paq_nil))) paq_nil)) (paq_cons (pq_tup paq_nil) (paq_cons (pq_tup (paq_cons (pq_tup (paq_cons (pq_str "from") (paq_cons (pq_str "x y") paq_nil))) (paq_cons (pq_tup (paq_cons (pq_str "to") (paq_cons (pq_str "z") paq_nil))) paq_nil))) paq_nil)))) (pq_op opd_mod (pq_call (ok__law_drawn T) (hr.mono (by decide)) (paq_cons (pq_var 0 (pv 0)) (paq_cons pq_int paq_nil))) pq_int)))
      (pss_one' (ps1_ret (pq_tup (paq_cons (pq_ix (PN.pq (pn_lst (paq_cons (pq_str "ask") (paq_cons (pq_str "b") (paq_cons (pq_str "wordword") paq_nil))))) (pq_op opd_mod (pq_call (ok__law_drawn T) (hr.mono (by decide)) (paq_cons (pq_var 0 (pv 0)) (paq_cons pq_int paq_nil))) pq_int)) (paq_cons (pq_var 3 (pv 3)) (paq_cons (pq_var 2 (pv 2)) paq_nil)))))))))
theorem ok__law_letter (T : Tx P w K mg base) : OkQ P w K mg base "_law_letter" 2 1 [] r__law_letter := by
  obtain ⟨fd, F⟩ := T.d__law_letter
  exact ⟨_, fd, ["_law_cell"], [], [], fnq_def F sc__law_letter rfl (fun cdv A outer s H E hr => pss__law_letter T hr) (fun _ _ h => h), F.bindsN (fun _ _ _ _ _ _ us hl => match us, hl with | [_], _ => rfl), .nil, fun _ => ⟨rfl, rfl⟩, rfl, T.m__law_letter, F.kp⟩
theorem sc_book_of : FnScope ["book"] ["book"] (defScope s_book_of) := ⟨rfl, rfl, rfl, by decide +kernel, rfl, by decide +kernel, by decide +kernel⟩
theorem pss_book_of (T : Tx P w K mg base) {fa : Addr} {cdv : Value} {A : Around} {outer : List Env} {s : Shared} {H : Hp} {E : XK} (hr : Room 0 (A.deeper (envOfC "book_of" (defScope s_book_of) s.heap.objs.size fa cdv))) :
    PSS (cxOf (L2N.CX P w) P w K mg base ["book"] "book_of" (defScope s_book_of) fa cdv A outer s H E) [] (fun _ _ _ _ => False) (defBody s_book_of) (f_book_of) :=
  (pss_cons' (ps1_if (pb_cmp opd_is_ (pq_var 0 (pv 0)) pq_non (nomark _)) (pss_one' (ps1_ret (pq_glob T.g_USUAL))) pss_nil')
      (pss_one' (ps1_ret (pq_var 0 (pv 0)))))
theorem ok_book_of (T : Tx P w K mg base) : OkQ P w K mg base "book_of" 1 1 [] r_book_of := by
  obtain ⟨fd, F⟩ := T.d_book_of
  exact ⟨_, fd, ["book"], [], [], fnq_def F sc_book_of rfl (fun cdv A outer s H E hr => pss_book_of T hr) (fun _ _ h => h), F.bindsN (fun _ _ _ _ _ _ us hl => match us, hl with | [_], _ => rfl), .nil, fun _ => ⟨rfl, rfl⟩, rfl, T.m_book_of, F.kp⟩
theorem sc_is_plain : FnScope ["sign"] ["sign"] (defScope s_is_plain) := ⟨rfl, rfl, rfl, by decide +kernel, rfl, by decide +kernel, by decide +kernel⟩
theorem pss_is_plain (T : Tx P w K mg base) {fa : Addr} {cdv : Value} {A : Around} {outer : List Env} {s : Shared} {H : Hp} {E : XK} (hr : Room 0 (A.deeper (envOfC "is_plain" (defScope s_is_plain) s.heap.objs.size fa cdv))) :
    PSS (cxOf (L2N.CX P w) P w K mg base ["sign"] "is_plain" (defScope s_is_plain) fa cdv A outer s H E) [] (fun _ _ _ _ => False) (defBody s_is_plain) (f_is_plain) :=
  (pss_one' (ps1_ret (pq_or (pq_cmp (opd_eq hr) (pq_var 0 (pv 0)) (pq_str "\n") (nomark _)) (pq_one (pq_and (pq_cmp (opd_eq hr) (pq_callB cd_len T.b_len (by decide +kernel) (paq_cons (pq_var 0 (pv 0)) paq_nil)) pq_int (nomark _)) (pq_one (pq_chain opd_le opd_le (pq_str " ") (pq_var 0 (pv 0)) (pq_str "~"))))))))
theorem ok_is_plain (T : Tx P w K mg base) : OkQ P w K mg base "is_plain" 1 1 [] r_is_plain := by
  obtain ⟨fd, F⟩ := T.d_is_plain
  exact ⟨_, fd, ["sign"], [], [], fnq_def F sc_is_plain rfl (fun cdv A outer s H E hr => pss_is_plain T hr) (fun _ _ h => h), F.bindsN (fun _ _ _ _ _ _ us hl => match us, hl with | [_], _ => rfl), .nil, fun _ => ⟨rfl, rfl⟩, rfl, T.m_is_plain, F.kp⟩
theorem sc_is_run : FnScope ["text", "most", "sign"] ["text", "most"] (defScope s_is_run) := ⟨rfl, rfl, rfl, by decide +kernel, rfl, by decide +kernel, by decide +kernel⟩
theorem pss_is_run (T : Tx P w K mg base) {fa : Addr} {cdv : Value} {A : Around} {outer : List Env} {s : Shared} {H : Hp} {E : XK} (hr : Room 1 (A.deeper (envOfC "is_run" (defScope s_is_run) s.heap.objs.size fa cdv))) :
    PSS (cxOf (L2N.CX P w) P w K mg base ["text", "most", "sign"] "is_run" (defScope s_is_run) fa cdv A outer s H E) [] (fun _ _ _ _ => False) (defBody s_is_run) (f_is_run) :=
  (pss_one' (ps1_ret (pq_and (pq_cmp opd_le (pq_callB cd_len T.b_len (by decide +kernel) (paq_cons (pq_var 0 (pv 0)) paq_nil)) (pq_var 1 (pv 1)) (nomark _)) (pq_one (pq_callB (cd_all rfl) T.b_all (by decide +kernel) (paq_cons (PN.pq (pn_lc (own := [("sign", 2)]) rfl sc_is_run.nd (piq_any (pq_var 0 (pv 0))) (blkOk_by (own := [("sign", 2)]) (by kernel_rfl)) (fun _ _ _ _ _ => (pgd_name (vs := [2]) (pg_name (i := 2) sc_is_run.nd rfl (by first | exact Or.inl rfl | exact Or.inr rfl)))) (fun _ _ _ _ _ => ptsb_nil) (fun _ _ _ _ _ => (pq_call (ok_is_plain T) (hr.mono (by decide)) (paq_cons (pq_var 2 (pv 2)) paq_nil))))) paq_nil))))))
theorem ok_is_run (T : Tx P w K mg base) : OkQ P w K mg base "is_run" 2 2 [] r_is_run := by
  obtain ⟨fd, F⟩ := T.d_is_run
  exact ⟨_, fd, ["text", "most"], [], [], fnq_def F sc_is_run rfl (fun cdv A outer s H E hr => pss_is_run T hr) (fun _ _ h => h), F.bindsN (fun _ _ _ _ _ _ us hl => match us, hl with | [_, _], _ => rfl), .nil, fun _ => ⟨rfl, rfl⟩, rfl, T.m_is_run, F.kp⟩
theorem sc_is_small : FnScope ["sign"] ["sign"] (defScope s_is_small) := ⟨rfl, rfl, rfl, by decide +kernel, rfl, by decide +kernel, by decide +kernel⟩
theorem pss_is_small (T : Tx P w K mg base) {fa : Addr} {cdv : Value} {A : Around} {outer : List Env} {s : Shared} {H : Hp} {E : XK} (hr : Room 0 (A.deeper (envOfC "is_small" (defScope s_is_small) s.heap.objs.size fa cdv))) :
    PSS (cxOf (L2N.CX P w) P w K mg base ["sign"] "is_small" (defScope s_is_small) fa cdv A outer s H E) [] (fun _ _ _ _ => False) (defBody s_is_small) (f_is_small) :=
  (pss_one' (ps1_ret (pq_and (pq_cmp (opd_eq hr) (pq_callB cd_len T.b_len (by decide +kernel) (paq_cons (pq_var 0 (pv 0)) paq_nil)) pq_int (nomark _)) (pq_one (pq_chain opd_le opd_le (pq_str "a") (pq_var 0 (pv 0)) (pq_str "z"))))))
theorem ok_is_small (T : Tx P w K mg base) : OkQ P w K mg base "is_small" 1 1 [] r_is_small := by
  obtain ⟨fd, F⟩ := T.d_is_small
  exact ⟨_, fd, ["sign"], [], [], fnq_def F sc_is_small rfl (fun cdv A outer s H E hr => pss_is_small T hr) (fun _ _ h => h), F.bindsN (fun _ _ _ _ _ _ us hl => match us, hl with | [_], _ => rfl), .nil, fun _ => ⟨rfl, rfl⟩, rfl, T.m_is_small, F.kp⟩
theorem sc_is_word : FnScope ["text", "most", "sign"] ["text", "most"] (defScope s_is_word) := ⟨rfl, rfl, rfl, by decide +kernel, rfl, by decide +kernel, by decide +kernel⟩
theorem pss_is_word (T : Tx P w K mg base) {fa : Addr} {cdv : Value} {A : Around} {outer : List Env} {s : Shared} {H : Hp} {E : XK} (hr : Room 1 (A.deeper (envOfC "is_word" (defScope s_is_word) s.heap.objs.size fa cdv))) :
    PSS (cxOf (L2N.CX P w) P w K mg base ["text", "most", "sign"] "is_word" (defScope s_is_word) fa cdv A outer s H E) [] (fun _ _ _ _ => False) (defBody s_is_word) (f_is_word) :=
  (pss_one' (ps1_ret (pq_and (pq_chain opd_le opd_le pq_int (pq_callB cd_len T.b_len (by decide +kernel) (paq_cons (pq_var 0 (pv 0)) paq_nil)) (pq_var 1 (pv 1))) (pq_one (pq_callB (cd_all rfl) T.b_all (by decide +kernel) (paq_cons (PN.pq (pn_lc (own := [("sign", 2)]) rfl sc_is_word.nd (piq_any (pq_var 0 (pv 0))) (blkOk_by (own := [("sign", 2)]) (by kernel_rfl)) (fun _ _ _ _ _ => (pgd_name (vs := [2]) (pg_name (i := 2) sc_is_word.nd rfl (by first | exact Or.inl rfl | exact Or.inr rfl)))) (fun _ _ _ _ _ => ptsb_nil) (fun _ _ _ _ _ => (pq_call (ok_is_small T) (hr.mono (by decide)) (paq_cons (pq_var 2 (pv 2)) paq_nil))))) paq_nil))))))
theorem ok_is_word (T : Tx P w K mg base) : OkQ P w K mg base "is_word" 2 2 [] r_is_word := by
  obtain ⟨fd, F⟩ := T.d_is_word
  exact ⟨_, fd, ["text", "most"], [], [], fnq_def F sc_is_word rfl (fun cdv A outer s H E hr => pss_is_word T hr) (fun _ _ h => h), F.bindsN (fun _ _ _ _ _ _ us hl => match us, hl with | [_, _], _ => rfl), .nil, fun _ => ⟨rfl, rfl⟩, rfl, T.m_is_word, F.kp⟩
theorem sc_is_label : FnScope ["text", "most"] ["text", "most"] (defScope s_is_label) := ⟨rfl, rfl, rfl, by decide +kernel, rfl, by decide +kernel, by decide +kernel⟩
theorem pss_is_label (T : Tx P w K mg base) {fa : Addr} {cdv : Value} {A : Around} {outer : List Env} {s : Shared} {H : Hp} {E : XK} (hr : Room 2 (A.deeper (envOfC "is_label" (defScope s_is_label) s.heap.objs.size fa cdv))) :
    PSS (cxOf (L2N.CX P w) P w K mg base ["text", "most"] "is_label" (defScope s_is_label) fa cdv A outer s H E) [] (fun _ _ _ _ => False) (defBody s_is_label) (f_is_label) :=
  (pss_one' (ps1_ret (pq_and (pq_call (ok_is_word T) (hr.mono (by decide)) (paq_cons (pq_var 0 (pv 0)) (paq_cons (pq_var 1 (pv 1)) paq_nil))) (pq_one (pq_cmp opd_notin (pq_var 0 (pv 0)) (pq_glob T.g_END_NAMES) (by rfl))))))
theorem ok_is_label (T : Tx P w K mg base) : OkQ P w K mg base "is_label" 3 2 [] r_is_label := by
  obtain ⟨fd, F⟩ := T.d_is_label
  exact ⟨_, fd, ["text", "most"], [], [], fnq_def F sc_is_label rfl (fun cdv A outer s H E hr => pss_is_label T hr) (fun _ _ h => h), F.bindsN (fun _ _ _ _ _ _ us hl => match us, hl with | [_, _], _ => rfl), .nil, fun _ => ⟨rfl, rfl⟩, rfl, T.m_is_label, F.kp⟩
theorem sc_is_value : FnScope ["text", "most", "sign"] ["text", "most"] (defScope s_is_value) := ⟨rfl, rfl, rfl, by decide +kernel, rfl, by decide +kernel, by decide +kernel⟩
theorem pss_is_value (T : Tx P w K mg base) {fa : Addr} {cdv : Value} {A : Around} {outer : List Env} {s : Shared} {H : Hp} {E : XK} (hr : Room 1 (A.deeper (envOfC "is_value" (defScope s_is_value) s.heap.objs.size fa cdv))) :
    PSS (cxOf (L2N.CX P w) P w K mg base ["text", "most", "sign"] "is_value" (defScope s_is_value) fa cdv A outer s H E) [] (fun _ _ _ _ => False) (defBody s_is_value) (f_is_value) :=
  (pss_cons' (ps1_if (PWB.pb (pwb_or (pb_not (pb_chain opd_le opd_le pq_int (pq_callB cd_len T.b_len (by decide +kernel) (paq_cons (pq_var 0 (pv 0)) paq_nil)) (pq_var 1 (pv 1)))) (pwb_or (pb_cmp (opd_eq hr) (pq_ix (pq_var 0 (pv 0)) pq_int) (pq_str " ") (nomark _)) (pw1_or (pb_cmp (opd_eq hr) (pq_ix (pq_var 0 (pv 0)) (pq_neg pq_int)) (pq_str " ") (nomark _)))))) (pss_one' (ps1_ret pq_bl)) pss_nil')
      (pss_one' (ps1_ret (pq_callB (cd_all rfl) T.b_all (by decide +kernel) (paq_cons (PN.pq (pn_lc (own := [("sign", 2)]) rfl sc_is_value.nd (piq_any (pq_var 0 (pv 0))) (blkOk_by (own := [("sign", 2)]) (by kernel_rfl)) (fun _ _ _ _ _ => (pgd_name (vs := [2]) (pg_name (i := 2) sc_is_value.nd rfl (by first | exact Or.inl rfl | exact Or.inr rfl)))) (fun _ _ _ _ _ => ptsb_nil) (fun _ _ _ _ _ => (pq_and (pq_call (ok_is_plain T) (hr.mono (by decide)) (paq_cons (pq_var 2 (pv 2)) paq_nil)) (pq_and (pq_cmp (opd_ne hr) (pq_var 2 (pv 2)) (pq_str ";") (nomark _)) (pq_one (pq_cmp (opd_ne hr) (pq_var 2 (pv 2)) (pq_str "\n") (nomark _)))))))) paq_nil)))))
theorem ok_is_value (T : Tx P w K mg base) : OkQ P w K mg base "is_value" 2 2 [] r_is_value := by
  obtain ⟨fd, F⟩ := T.d_is_value
  exact ⟨_, fd, ["text", "most"], [], [], fnq_def F sc_is_value rfl (fun cdv A outer s H E hr => pss_is_value T hr) (fun _ _ h => h), F.bindsN (fun _ _ _ _ _ _ us hl => match us, hl with | [_, _], _ => rfl), .nil, fun _ => ⟨rfl, rfl⟩, rfl, T.m_is_value, F.kp⟩
theorem sc_are_fields : FnScope ["fields", "room", "book", "name", "value"] ["fields", "room", "book"] (defScope s_are_fields) := ⟨rfl, rfl, rfl, by decide +kernel, rfl, by decide +kernel, by decide +kernel⟩
theorem pss_are_fields (T : Tx P w K mg base) {fa : Addr} {cdv : Value} {A : Around} {outer : List Env} {s : Shared} {H : Hp} {E : XK} (hr : Room 3 (A.deeper (envOfC "are_fields" (defScope s_are_fields) s.heap.objs.size fa cdv))) :
    PSS (cxOf (L2N.CX P w) P w K mg base ["fields", "room", "book", "name", "value"] "are_fields" (defScope s_are_fields) fa cdv A outer s H E) [] (fun _ _ _ _ => False) (defBody s_are_fields) (f_are_fields) :=
  (pss_cons' (ps1_if (pb_cmp opd_gt (pq_callB cd_len T.b_len (by decide +kernel) (paq_cons (pq_var 0 (pv 0)) paq_nil)) (pq_var 1 (pv 1)) (nomark _)) (pss_one' (ps1_ret pq_bl)) pss_nil')
      (pss_one' (ps1_ret (pq_callB (cd_all rfl) T.b_all (by decide +kernel) (paq_cons (PN.pq (pn_lc (own := [("name", 3), ("value", 4)]) rfl sc_are_fields.nd (piq_any (pq_var 0 (pv 0))) (blkOk_by (own := [("name", 3), ("value", 4)]) (by kernel_rfl)) (fun _ _ _ _ _ => (pgd_tup (vs := [3, 4]) (is := [3, 4]) rfl (pgs_cons (pg_name (i := 3) sc_are_fields.nd rfl (by first | exact Or.inl rfl | exact Or.inr rfl)) (pgs_cons (pg_name (i := 4) sc_are_fields.nd rfl (by first | exact Or.inl rfl | exact Or.inr rfl)) pgs_nil)) (by decide))) (fun _ _ _ _ _ => ptsb_nil) (fun _ _ _ _ _ => (pq_and (pq_call (ok_is_label T) (hr.mono (by decide)) (paq_cons (pq_var 3 (pv 3)) (paq_cons (pq_ix (pq_var 2 (pv 2)) pq_int) paq_nil))) (pq_one (pq_call (ok_is_value T) (hr.mono (by decide)) (paq_cons (pq_var 4 (pv 4)) (paq_cons (pq_ix (pq_var 2 (pv 2)) pq_int) paq_nil)))))))) paq_nil)))))
theorem ok_are_fields (T : Tx P w K mg base) : OkQ P w K mg base "are_fields" 4 3 [] r_are_fields := by
  obtain ⟨fd, F⟩ := T.d_are_fields
  exact ⟨_, fd, ["fields", "room", "book"], [], [], fnq_def F sc_are_fields rfl (fun cdv A outer s H E hr => pss_are_fields T hr) (fun _ _ h => h), F.bindsN (fun _ _ _ _ _ _ us hl => match us, hl with | [_, _, _], _ => rfl), .nil, fun _ => ⟨rfl, rfl⟩, rfl, T.m_are_fields, F.kp⟩
structure FamOk_is_body_is_part (P : Program) (w : World) (K : PySem.W.Frag) (mg : Str → Option Value) (base : Heap) (n : Nat) : Prop where
  is_part : OkQ P w K mg base "is_part" (4 + n) 4 [] (fam_is_body_is_part n).is_part
  is_body : OkQ P w K mg base "is_body" (4 + n) 4 [] (fam_is_body_is_part n).is_body
theorem sc_is_part : FnScope ["fields", "body", "book", "deep"] ["fields", "body", "book", "deep"] (defScope s_is_part) := ⟨rfl, rfl, rfl, by decide +kernel, rfl, by decide +kernel, by decide +kernel⟩
theorem pss_is_part (T : Tx P w K mg base) {n : Nat} (O : FamOk_is_body_is_part P w K mg base n) {fa : Addr} {cdv : Value} {A : Around} {outer : List Env} {s : Shared} {H : Hp} {E : XK} (hr : Room (4 + n) (A.deeper (envOfC "is_part" (defScope s_is_part) s.heap.objs.size fa cdv))) :
    PSS (cxOf (L2N.CX P w) P w K mg base ["fields", "body", "book", "deep"] "is_part" (defScope s_is_part) fa cdv A outer s H E) [] (fun _ _ _ _ => False) (defBody s_is_part) (f_is_part (fam_is_body_is_part n)) :=
  (pss_cons' (ps1_if (PWB.pb (pwb_or (pb_cmp opd_gt (pq_var 3 (pv 3)) (pq_ix (pq_var 2 (pv 2)) pq_int) (nomark _)) (pw1_or (pb_not (pb_val (pq_call (ok_are_fields T) (hr.mono (by omega)) (paq_cons (pq_var 0 (pv 0)) (paq_cons (pq_ix (pq_var 2 (pv 2)) pq_int) (paq_cons (pq_var 2 (pv 2)) paq_nil))))))))) (pss_one' (ps1_ret pq_bl)) pss_nil')
      (pss_one' (ps1_ret (pq_call O.is_body (hr.mono (by omega)) (paq_cons (pq_var 1 (pv 1)) (paq_cons (pq_op opd_sub (pq_ix (pq_var 2 (pv 2)) pq_int) (pq_callB cd_len T.b_len (by decide +kernel) (paq_cons (pq_var 0 (pv 0)) paq_nil))) (paq_cons (pq_var 2 (pv 2)) (paq_cons (pq_var 3 (pv 3)) paq_nil))))))))
theorem sc_is_body : FnScope ["body", "room", "book", "deep", "fields", "inner"] ["body", "room", "book", "deep"] (defScope s_is_body) := ⟨rfl, rfl, rfl, by decide +kernel, rfl, by decide +kernel, by decide +kernel⟩
theorem pss_is_body (T : Tx P w K mg base) {n : Nat} (O : FamOk_is_body_is_part P w K mg base n) {fa : Addr} {cdv : Value} {A : Around} {outer : List Env} {s : Shared} {H : Hp} {E : XK} (hr : Room (4 + n) (A.deeper (envOfC "is_body" (defScope s_is_body) s.heap.objs.size fa cdv))) :
    PSS (cxOf (L2N.CX P w) P w K mg base ["body", "room", "book", "deep", "fields", "inner"] "is_body" (defScope s_is_body) fa cdv A outer s H E) [] (fun _ _ _ _ => False) (defBody s_is_body) (f_is_body (fam_is_body_is_part n)) :=
  (pss_cons' (ps1_if (pb_cmp (opd_eq hr) (pq_ix (pq_var 0 (pv 0)) pq_int) (pq_str "none") (nomark _)) (pss_one' (ps1_ret pq_bl)) pss_nil')
      (pss_cons' (ps1_if (pb_cmp (opd_eq hr) (pq_ix (pq_var 0 (pv 0)) pq_int) (pq_str "rest") (nomark _)) (pss_one' (ps1_ret (pq_and (pq_cmp (opd_eq hr) (pq_var 3 (pv 3)) pq_int (nomark _)) (pq_one (pq_call (ok_is_run T) (hr.mono (by omega)) (paq_cons (pq_ix (pq_var 0 (pv 0)) pq_int) (paq_cons (pq_ix (pq_var 2 (pv 2)) pq_int) paq_nil))))))) pss_nil')
      (pss_cons' (ps1_if (pb_cmp (opd_eq hr) (pq_ix (pq_var 0 (pv 0)) pq_int) (pq_str "length") (nomark _)) (pss_one' (ps1_ret (pq_call (ok_is_run T) (hr.mono (by omega)) (paq_cons (pq_ix (pq_var 0 (pv 0)) pq_int) (paq_cons (pq_ix (pq_var 2 (pv 2)) pq_int) paq_nil))))) pss_nil')
      (pss_cons' (ps1_if (pb_cmp (opd_eq hr) (pq_ix (pq_var 0 (pv 0)) pq_int) (pq_str "pieces") (nomark _)) (pss_one' (ps1_ret (pq_and (pq_cmp opd_notin (pq_str "") (pq_ix (pq_var 0 (pv 0)) pq_int) (by rfl)) (pq_and (pq_call (ok_is_run T) (hr.mono (by omega)) (paq_cons (pq_m1 mtd_join PySem.F.slot_str_join PySem.F.type_str_join (pq_str "") (pq_ix (pq_var 0 (pv 0)) pq_int)) (paq_cons (pq_ix (pq_var 2 (pv 2)) pq_int) paq_nil))) (pq_one (pq_call (ok_are_fields T) (hr.mono (by omega)) (paq_cons (pq_ix (pq_var 0 (pv 0)) pq_int) (paq_cons (pq_var 1 (pv 1)) (paq_cons (pq_var 2 (pv 2)) paq_nil))))))))) pss_nil')
      (pss_one' (ps1_ret (pq_callB (cd_all rfl) T.b_all (by decide +kernel) (paq_cons (PN.pq (pn_lc (own := [("fields", 4), ("inner", 5)]) rfl sc_is_body.nd (piq_any (pq_ix (pq_var 0 (pv 0)) pq_int)) (blkOk_by (own := [("fields", 4), ("inner", 5)]) (by kernel_rfl)) (fun _ _ _ _ _ => (pgd_tup (vs := [4, 5]) (is := [4, 5]) rfl (pgs_cons (pg_name (i := 4) sc_is_body.nd rfl (by first | exact Or.inl rfl | exact Or.inr rfl)) (pgs_cons (pg_name (i := 5) sc_is_body.nd rfl (by first | exact Or.inl rfl | exact Or.inr rfl)) pgs_nil)) (by decide))) (fun _ _ _ _ _ => ptsb_nil) (fun _ _ _ _ _ => (pq_call O.is_part (hr.mono (by omega)) (paq_cons (pq_var 4 (pv 4)) (paq_cons (pq_var 5 (pv 5)) (paq_cons (pq_var 2 (pv 2)) (paq_cons (pq_op opd_add (pq_var 3 (pv 3)) pq_int) paq_nil)))))))) paq_nil))))))))
theorem famok_is_body_is_part (T : Tx P w K mg base) : ∀ n, FamOk_is_body_is_part P w K mg base n
  | 0 => by
    have k_is_part : OkQ P w K mg base "is_part" (4 + 0) 4 [] (fam_is_body_is_part 0).is_part := by
      obtain ⟨fd, F⟩ := T.d_is_part
      exact ⟨_, fd, ["fields", "body", "book", "deep"], [], [], fnok_no spQ_no, F.bindsN (fun _ _ _ _ _ _ us hl => match us, hl with | [_, _, _, _], _ => rfl), .nil, fun _ => ⟨rfl, rfl⟩, rfl, T.m_is_part, F.kp⟩
    have k_is_body : OkQ P w K mg base "is_body" (4 + 0) 4 [] (fam_is_body_is_part 0).is_body := by
      obtain ⟨fd, F⟩ := T.d_is_body
      exact ⟨_, fd, ["body", "room", "book", "deep"], [], [], fnok_no spQ_no, F.bindsN (fun _ _ _ _ _ _ us hl => match us, hl with | [_, _, _, _], _ => rfl), .nil, fun _ => ⟨rfl, rfl⟩, rfl, T.m_is_body, F.kp⟩
    exact ⟨k_is_part, k_is_body⟩
  | n + 1 => by
    have O := famok_is_body_is_part T n
    have k_is_part : OkQ P w K mg base "is_part" (4 + (n + 1)) 4 [] (fam_is_body_is_part (n + 1)).is_part := by
      obtain ⟨fd, F⟩ := T.d_is_part
      exact ⟨_, fd, ["fields", "body", "book", "deep"], [], [], fnq_def F sc_is_part rfl (fun cdv A outer s H E hr => pss_is_part T O hr) (fun _ _ h => h), F.bindsN (fun _ _ _ _ _ _ us hl => match us, hl with | [_, _, _, _], _ => rfl), .nil, fun _ => ⟨rfl, rfl⟩, rfl, T.m_is_part, F.kp⟩
    have k_is_body : OkQ P w K mg base "is_body" (4 + (n + 1)) 4 [] (fam_is_body_is_part (n + 1)).is_body := by
      obtain ⟨fd, F⟩ := T.d_is_body
      exact ⟨_, fd, ["body", "room", "book", "deep"], [], [], fnq_def F sc_is_body rfl (fun cdv A outer s H E hr => pss_is_body T O hr) (fun _ _ h => h), F.bindsN (fun _ _ _ _ _ _ us hl => match us, hl with | [_, _, _, _], _ => rfl), .nil, fun _ => ⟨rfl, rfl⟩, rfl, T.m_is_body, F.kp⟩
    exact ⟨k_is_part, k_is_body⟩
theorem ok_is_part (T : Tx P w K mg base) (n : Nat) : OkQ P w K mg base "is_part" (4 + n) 4 [] (r_is_part n) := (famok_is_body_is_part T n).is_part
theorem ok_is_body (T : Tx P w K mg base) (n : Nat) : OkQ P w K mg base "is_body" (4 + n) 4 [] (r_is_body n) := (famok_is_body_is_part T n).is_body
structure FamOk_parts_in (P : Program) (w : World) (K : PySem.W.Frag) (mg : Str → Option Value) (base : Heap) (n : Nat) : Prop where
  parts_in : OkQ P w K mg base "parts_in" (0 + n) 1 [] (fam_parts_in n).parts_in
theorem sc_parts_in : FnScope ["body", "fields", "inner"] ["body"] (defScope s_parts_in) := ⟨rfl, rfl, rfl, by decide +kernel, rfl, by decide +kernel, by decide +kernel⟩
theorem pss_parts_in (T : Tx P w K mg base) {n : Nat} (O : FamOk_parts_in P w K mg base n) {fa : Addr} {cdv : Value} {A : Around} {outer : List Env} {s : Shared} {H : Hp} {E : XK} (hr : Room (0 + n) (A.deeper (envOfC "parts_in" (defScope s_parts_in) s.heap.objs.size fa cdv))) :
    PSS (cxOf (L2N.CX P w) P w K mg base ["body", "fields", "inner"] "parts_in" (defScope s_parts_in) fa cdv A outer s H E) [] (fun _ _ _ _ => False) (defBody s_parts_in) (f_parts_in (fam_parts_in n)) :=
  (pss_cons' (ps1_if (pb_cmp (opd_ne hr) (pq_ix (pq_var 0 (pv 0)) pq_int) (pq_str "parts") (nomark _)) (pss_one' (ps1_ret pq_int)) pss_nil')
      (pss_one' (ps1_ret (pq_callB (cd_sum rfl) T.b_sum (by decide +kernel) (paq_cons (PN.pq (pn_lc (own := [("fields", 1), ("inner", 2)]) rfl sc_parts_in.nd (piq_any (pq_ix (pq_var 0 (pv 0)) pq_int)) (blkOk_by (own := [("fields", 1), ("inner", 2)]) (by kernel_rfl)) (fun _ _ _ _ _ => (pgd_tup (vs := [1, 2]) (is := [1, 2]) rfl (pgs_cons (pg_name (i := 1) sc_parts_in.nd rfl (by first | exact Or.inl rfl | exact Or.inr rfl)) (pgs_cons (pg_name (i := 2) sc_parts_in.nd rfl (by first | exact Or.inl rfl | exact Or.inr rfl)) pgs_nil)) (by decide))) (fun _ _ _ _ _ => ptsb_nil) (fun _ _ _ _ _ => (pq_op opd_add pq_int (pq_call O.parts_in (hr.mono (by omega)) (paq_cons (pq_var 2 (pv 2)) paq_nil)))))) paq_nil)))))
theorem famok_parts_in (T : Tx P w K mg base) : ∀ n, FamOk_parts_in P w K mg base n
  | 0 => by
    have k_parts_in : OkQ P w K mg base "parts_in" (0 + 0) 1 [] (fam_parts_in 0).parts_in := by
      obtain ⟨fd, F⟩ := T.d_parts_in
      exact ⟨_, fd, ["body"], [], [], fnok_no spQ_no, F.bindsN (fun _ _ _ _ _ _ us hl => match us, hl with | [_], _ => rfl), .nil, fun _ => ⟨rfl, rfl⟩, rfl, T.m_parts_in, F.kp⟩
    exact ⟨k_parts_in⟩
  | n + 1 => by
    have O := famok_parts_in T n
    have k_parts_in : OkQ P w K mg base "parts_in" (0 + (n + 1)) 1 [] (fam_parts_in (n + 1)).parts_in := by
      obtain ⟨fd, F⟩ := T.d_parts_in
      exact ⟨_, fd, ["body"], [], [], fnq_def F sc_parts_in rfl (fun cdv A outer s H E hr => pss_parts_in T O hr) (fun _ _ h => h), F.bindsN (fun _ _ _ _ _ _ us hl => match us, hl with | [_], _ => rfl), .nil, fun _ => ⟨rfl, rfl⟩, rfl, T.m_parts_in, F.kp⟩
    exact ⟨k_parts_in⟩
theorem ok_parts_in (T : Tx P w K mg base) (n : Nat) : OkQ P w K mg base "parts_in" (0 + n) 1 [] (r_parts_in n) := (famok_parts_in T n).parts_in
theorem sc_keeps : FnScope ["letter", "book", "word", "fields", "body"] ["letter", "book"] (defScope s_keeps) := ⟨rfl, rfl, rfl, by decide +kernel, rfl, by decide +kernel, by decide +kernel⟩
theorem pss_keeps (T : Tx P w K mg base) {fa : Addr} {cdv : Value} {A : Around} {outer : List Env} {s : Shared} {H : Hp} {E : XK} (hr : Room 84 (A.deeper (envOfC "keeps" (defScope s_keeps) s.heap.objs.size fa cdv))) :
    PSS (cxOf (L2N.CX P w) P w K mg base ["letter", "book", "word", "fields", "body"] "keeps" (defScope s_keeps) fa cdv A outer s H E) [] (fun _ _ _ _ => False) (defBody s_keeps) (f_keeps) :=
  (pss_cons' (ps1_set (i := 1) sc_keeps.nd rfl (by first | exact Or.inl rfl | exact Or.inr rfl) (pq_call (ok_book_of T) (hr.mono (by decide)) (paq_cons (pq_var 1 (pv 1)) paq_nil)))
      (pss_cons' (ps1_setT (pq_var 0 (pv 0)) (pgd_tup (vs := [2, 3, 4]) (is := [2, 3, 4]) rfl (pgs_cons (pg_name (i := 2) sc_keeps.nd rfl (by first | exact Or.inl rfl | exact Or.inr rfl)) (pgs_cons (pg_name (i := 3) sc_keeps.nd rfl (by first | exact Or.inl rfl | exact Or.inr rfl)) (pgs_cons (pg_name (i := 4) sc_keeps.nd rfl (by first | exact Or.inl rfl | exact Or.inr rfl)) pgs_nil))) (by decide)))
      (pss_cons' (ps1_if (PWB.pb (pwb_or (pb_not (pb_val (pq_call (ok_is_word T) (hr.mono (by decide)) (paq_cons (pq_var 2 (pv 2)) (paq_cons (pq_ix (pq_var 1 (pv 1)) pq_int) paq_nil))))) (pw1_or (pb_cmp opd_gt (pq_call (ok_parts_in T 80) (hr.mono (by decide)) (paq_cons (pq_var 4 (pv 4)) paq_nil)) (pq_ix (pq_var 1 (pv 1)) pq_int) (nomark _))))) (pss_one' (ps1_ret pq_bl)) pss_nil')
      (pss_one' (ps1_ret (pq_call (ok_is_part T 80) (hr.mono (by decide)) (paq_cons (pq_var 3 (pv 3)) (paq_cons (pq_var 4 (pv 4)) (paq_cons (pq_var 1 (pv 1)) (paq_cons pq_int paq_nil))))))))))
theorem ok_keeps (T : Tx P w K mg base) : OkQ P w K mg base "keeps" 85 2 [] r_keeps := by
  obtain ⟨fd, F⟩ := T.d_keeps
  exact ⟨_, fd, ["letter", "book"], [], [], fnq_def F sc_keeps rfl (fun cdv A outer s H E hr => pss_keeps T hr) (fun _ _ h => h), binds_full F (fun _ _ _ _ _ _ _ us its hu hi => match us, hu, its, hi with | [_, _], _, [_], _ => ⟨_, rfl, rfl⟩), .nil, fun _ => ⟨rfl, rfl⟩, rfl, T.m_keeps, F.kp⟩
theorem ok_keeps_d (T : Tx P w K mg base) : OkQ P w K mg base "keeps" 85 2 [.non] r_keeps := by
  obtain ⟨fd, F⟩ := T.d_keeps
  obtain ⟨ds, hv, hb⟩ := binds_miss (ps := ["letter", "book"]) F (fun _ _ _ _ _ _ _ us its hu hi => match us, hu, its, hi with | [_], _, [_], _ => ⟨_, rfl, rfl⟩) (by decide)
  exact ⟨_, fd, _, [.non], ds, fnq_def F sc_keeps rfl (fun cdv A outer s H E hr => pss_keeps T hr) (fun _ _ h => h), hb, hv, fun _ => RL_non, rfl, T.m_keeps, F.kp⟩
theorem sc_row_text : FnScope ["text"] ["text"] (defScope s_row_text) := ⟨rfl, rfl, rfl, by decide +kernel, rfl, by decide +kernel, by decide +kernel⟩
theorem pss_row_text (T : Tx P w K mg base) {fa : Addr} {cdv : Value} {A : Around} {outer : List Env} {s : Shared} {H : Hp} {E : XK} (hr : Room 0 (A.deeper (envOfC "row_text" (defScope s_row_text) s.heap.objs.size fa cdv))) :
    PSS (cxOf (L2N.CX P w) P w K mg base ["text"] "row_text" (defScope s_row_text) fa cdv A outer s H E) [] (fun _ _ _ _ => False) (defBody s_row_text) (f_row_text) :=
  (pss_one' (ps1_ret (pq_op opd_add (pq_var 0 (pv 0)) (pq_glob T.g_ROW_END))))
theorem ok_row_text (T : Tx P w K mg base) : OkQ P w K mg base "row_text" 1 1 [] r_row_text := by
  obtain ⟨fd, F⟩ := T.d_row_text
  exact ⟨_, fd, ["text"], [], [], fnq_def F sc_row_text rfl (fun cdv A outer s H E hr => pss_row_text T hr) (fun _ _ h => h), F.bindsN (fun _ _ _ _ _ _ us hl => match us, hl with | [_], _ => rfl), .nil, fun _ => ⟨rfl, rfl⟩, rfl, T.m_row_text, F.kp⟩
theorem sc_rows_text : FnScope ["fields", "name", "value"] ["fields"] (defScope s_rows_text) := ⟨rfl, rfl, rfl, by decide +kernel, rfl, by decide +kernel, by decide +kernel⟩
theorem pss_rows_text (T : Tx P w K mg base) {fa : Addr} {cdv : Value} {A : Around} {outer : List Env} {s : Shared} {H : Hp} {E : XK} (hr : Room 1 (A.deeper (envOfC "rows_text" (defScope s_rows_text) s.heap.objs.size fa cdv))) :
    PSS (cxOf (L2N.CX P w) P w K mg base ["fields", "name", "value"] "rows_text" (defScope s_rows_text) fa cdv A outer s H E) [] (fun _ _ _ _ => False) (defBody s_rows_text) (f_rows_text) :=
  (pss_one' (ps1_ret (pq_m1 mtd_join PySem.F.slot_str_join PySem.F.type_str_join (pq_str "") (PN.pq (pn_lc (own := [("name", 1), ("value", 2)]) rfl sc_rows_text.nd (piq_any (pq_var 0 (pv 0))) (blkOk_by (own := [("name", 1), ("value", 2)]) (by kernel_rfl)) (fun _ _ _ _ _ => (pgd_tup (vs := [1, 2]) (is := [1, 2]) rfl (pgs_cons (pg_name (i := 1) sc_rows_text.nd rfl (by first | exact Or.inl rfl | exact Or.inr rfl)) (pgs_cons (pg_name (i := 2) sc_rows_text.nd rfl (by first | exact Or.inl rfl | exact Or.inr rfl)) pgs_nil)) (by decide))) (fun _ _ _ _ _ => ptsb_nil) (fun _ _ _ _ _ => (pq_call (ok_row_text T) (hr.mono (by decide)) (paq_cons (pq_op opd_add (pq_op opd_add (pq_var 1 (pv 1)) (pq_str ": ")) (pq_var 2 (pv 2))) paq_nil))))))))
theorem ok_rows_text (T : Tx P w K mg base) : OkQ P w K mg base "rows_text" 2 1 [] r_rows_text := by
  obtain ⟨fd, F⟩ := T.d_rows_text
  exact ⟨_, fd, ["fields"], [], [], fnq_def F sc_rows_text rfl (fun cdv A outer s H E hr => pss_rows_text T hr) (fun _ _ h => h), F.bindsN (fun _ _ _ _ _ _ us hl => match us, hl with | [_], _ => rfl), .nil, fun _ => ⟨rfl, rfl⟩, rfl, T.m_rows_text, F.kp⟩
theorem sc_figures_of : FnScope ["number", "base", "text", "rest"] ["number", "base"] (defScope s_figures_of) := ⟨rfl, rfl, rfl, by decide +kernel, rfl, by decide +kernel, by decide +kernel⟩
theorem pss_figures_of (T : Tx P w K mg base) {fa : Addr} {cdv : Value} {A : Around} {outer : List Env} {s : Shared} {H : Hp} {E : XK} (hr : Room 0 (A.deeper (envOfC "figures_of" (defScope s_figures_of) s.heap.objs.size fa cdv))) :
    PSS (cxOf (L2N.CX P w) P w K mg base ["number", "base", "text", "rest"] "figures_of" (defScope s_figures_of) fa cdv A outer s H E) [] (fun _ _ _ _ => False) (defBody s_figures_of) (f_figures_of) :=
  (pss_cons' (ps1_set (i := 2) sc_figures_of.nd rfl (by first | exact Or.inl rfl | exact Or.inr rfl) (pq_str ""))
      (pss_cons' (ps1_while fuel_figures_of_1 (passes_of rfl) (pb_cmp opd_ge (pq_var 0 (pv 0)) (pq_var 1 (pv 1)) (nomark _)) (pss_wp [3] (pss_cons' (ps1_setT (pq_callB cd_divmod T.b_divmod (by decide +kernel) (paq_cons (pq_var 0 (pv 0)) (paq_cons (pq_var 1 (pv 1)) paq_nil))) (pgd_tup (vs := [0, 3]) (is := [0, 3]) rfl (pgs_cons (pg_name (i := 0) sc_figures_of.nd rfl (by first | exact Or.inl rfl | exact Or.inr rfl)) (pgs_cons (pg_name (i := 3) sc_figures_of.nd rfl (by first | exact Or.inl rfl | exact Or.inr rfl)) pgs_nil)) (by decide)))
      (pss_one' (ps1_set (i := 2) sc_figures_of.nd rfl (by first | exact Or.inl rfl | exact Or.inr rfl) (pq_op opd_add (pq_ix (pq_glob T.g_FIGURES) (pq_var 3 (pv 3))) (pq_var 2 (pv 2))))))))
      (pss_one' (ps1_ret (pq_op opd_add (pq_ix (pq_glob T.g_FIGURES) (pq_var 0 (pv 0))) (pq_var 2 (pv 2)))))))
theorem ok_figures_of (T : Tx P w K mg base) : OkQ P w K mg base "figures_of" 1 2 [] r_figures_of := by
  obtain ⟨fd, F⟩ := T.d_figures_of
  exact ⟨_, fd, ["number", "base"], [], [], fnq_def F sc_figures_of rfl (fun cdv A outer s H E hr => pss_figures_of T hr) (fun _ _ h => h), F.bindsN (fun _ _ _ _ _ _ us hl => match us, hl with | [_, _], _ => rfl), .nil, fun _ => ⟨rfl, rfl⟩, rfl, T.m_figures_of, F.kp⟩
theorem sc_end_text : FnScope ["body"] ["body"] (defScope s_end_text) := ⟨rfl, rfl, rfl, by decide +kernel, rfl, by decide +kernel, by decide +kernel⟩
theorem pss_end_text (T : Tx P w K mg base) {fa : Addr} {cdv : Value} {A : Around} {outer : List Env} {s : Shared} {H : Hp} {E : XK} (hr : Room 1 (A.deeper (envOfC "end_text" (defScope s_end_text) s.heap.objs.size fa cdv))) :
    PSS (cxOf (L2N.CX P w) P w K mg base ["body"] "end_text" (defScope s_end_text) fa cdv A outer s H E) [] (fun _ _ _ _ => False) (defBody s_end_text) (f_end_text) :=
  (pss_cons' (ps1_if (pb_cmp (opd_eq hr) (pq_ix (pq_var 0 (pv 0)) pq_int) (pq_str "none") (nomark _)) (pss_one' (ps1_ret (pq_str ""))) pss_nil')
      (pss_cons' (ps1_if (pb_cmp (opd_eq hr) (pq_ix (pq_var 0 (pv 0)) pq_int) (pq_str "length") (nomark _)) (pss_one' (ps1_ret (pq_call (ok_row_text T) (hr.mono (by decide)) (paq_cons (pq_op opd_add (pq_str "length: ") (pq_callTy cd_str T.b_str (by decide +kernel) (paq_cons (pq_callB cd_len T.b_len (by decide +kernel) (paq_cons (pq_ix (pq_var 0 (pv 0)) pq_int) paq_nil)) paq_nil))) paq_nil)))) pss_nil')
      (pss_one' (ps1_ret (pq_call (ok_row_text T) (hr.mono (by decide)) (paq_cons (pq_op opd_add (pq_ix (pq_var 0 (pv 0)) pq_int) (pq_str ": yes")) paq_nil))))))
theorem ok_end_text (T : Tx P w K mg base) : OkQ P w K mg base "end_text" 2 1 [] r_end_text := by
  obtain ⟨fd, F⟩ := T.d_end_text
  exact ⟨_, fd, ["body"], [], [], fnq_def F sc_end_text rfl (fun cdv A outer s H E hr => pss_end_text T hr) (fun _ _ h => h), F.bindsN (fun _ _ _ _ _ _ us hl => match us, hl with | [_], _ => rfl), .nil, fun _ => ⟨rfl, rfl⟩, rfl, T.m_end_text, F.kp⟩
structure FamOk_body_text_part_text (P : Program) (w : World) (K : PySem.W.Frag) (mg : Str → Option Value) (base : Heap) (n : Nat) : Prop where
  part_text : OkQ P w K mg base "part_text" (2 + n) 2 [] (fam_body_text_part_text n).part_text
  body_text : OkQ P w K mg base "body_text" (2 + n) 1 [] (fam_body_text_part_text n).body_text
theorem sc_part_text : FnScope ["fields", "body"] ["fields", "body"] (defScope s_part_text) := ⟨rfl, rfl, rfl, by decide +kernel, rfl, by decide +kernel, by decide +kernel⟩
theorem pss_part_text (T : Tx P w K mg base) {n : Nat} (O : FamOk_body_text_part_text P w K mg base n) {fa : Addr} {cdv : Value} {A : Around} {outer : List Env} {s : Shared} {H : Hp} {E : XK} (hr : Room (2 + n) (A.deeper (envOfC "part_text" (defScope s_part_text) s.heap.objs.size fa cdv))) :
    PSS (cxOf (L2N.CX P w) P w K mg base ["fields", "body"] "part_text" (defScope s_part_text) fa cdv A outer s H E) [] (fun _ _ _ _ => False) (defBody s_part_text) (f_part_text (fam_body_text_part_text n)) :=
  (pss_one' (ps1_ret (pq_op opd_add (pq_op opd_add (pq_op opd_add (pq_call (ok_rows_text T) (hr.mono (by omega)) (paq_cons (pq_var 0 (pv 0)) paq_nil)) (pq_call (ok_end_text T) (hr.mono (by omega)) (paq_cons (pq_var 1 (pv 1)) paq_nil))) (pq_call (ok_row_text T) (hr.mono (by omega)) (paq_cons (pq_str "") paq_nil))) (pq_call O.body_text (hr.mono (by omega)) (paq_cons (pq_var 1 (pv 1)) paq_nil)))))
theorem sc_body_text : FnScope ["body", "pieces", "parts", "text", "fields", "inner"] ["body"] (defScope s_body_text) := ⟨rfl, rfl, rfl, by decide +kernel, rfl, by decide +kernel, by decide +kernel⟩
theorem pss_body_text (T : Tx P w K mg base) {n : Nat} (O : FamOk_body_text_part_text P w K mg base n) {fa : Addr} {cdv : Value} {A : Around} {outer : List Env} {s : Shared} {H : Hp} {E : XK} (hr : Room (2 + n) (A.deeper (envOfC "body_text" (defScope s_body_text) s.heap.objs.size fa cdv))) :
    PSS (cxOf (L2N.CX P w) P w K mg base ["body", "pieces", "parts", "text", "fields", "inner"] "body_text" (defScope s_body_text) fa cdv A outer s H E) [] (fun _ _ _ _ => False) (defBody s_body_text) (f_body_text (fam_body_text_part_text n)) :=
  (pss_cons' (ps1_if (pb_cmp (opd_eq hr) (pq_ix (pq_var 0 (pv 0)) pq_int) (pq_str "none") (nomark _)) (pss_one' (ps1_ret (pq_str ""))) pss_nil')
      (pss_cons' (ps1_if (pb_cmp (opd_eq hr) (pq_ix (pq_var 0 (pv 0)) pq_int) (pq_str "pieces") (nomark _)) (pss_cons' (ps1_pf 1 (ps1_setLc (i := 1) (own := [("text", 3)]) rfl sc_body_text.nd rfl rfl (sw_true rfl rfl rfl (by decide +kernel)) (piq_any (pq_ix (pq_var 0 (pv 0)) pq_int)) (blkOk_by (own := [("text", 3)]) (by kernel_rfl)) (fun _ _ _ _ _ => (pgd_name (vs := [3]) (pg_name (i := 3) sc_body_text.nd rfl (by first | exact Or.inl rfl | exact Or.inr rfl)))) (fun _ _ _ _ _ => ptsb_nil) (fun _ _ _ _ _ => (pq_op opd_add (pq_call (ok_row_text T) (hr.mono (by omega)) (paq_cons (pq_call (ok_figures_of T) (hr.mono (by omega)) (paq_cons (pq_callB cd_len T.b_len (by decide +kernel) (paq_cons (pq_var 3 (pv 3)) paq_nil)) (paq_cons pq_int paq_nil))) paq_nil)) (pq_call (ok_row_text T) (hr.mono (by omega)) (paq_cons (pq_var 3 (pv 3)) paq_nil))))))
      (pss_one' (ps1_ret (pq_op opd_add (pq_op opd_add (pq_op opd_add (pq_m1 mtd_join PySem.F.slot_str_join PySem.F.type_str_join (pq_str "") (pq_var 1 (pv 1))) (pq_call (ok_row_text T) (hr.mono (by omega)) (paq_cons (pq_str "0") paq_nil))) (pq_call (ok_rows_text T) (hr.mono (by omega)) (paq_cons (pq_ix (pq_var 0 (pv 0)) pq_int) paq_nil))) (pq_call (ok_row_text T) (hr.mono (by omega)) (paq_cons (pq_str "") paq_nil)))))) pss_nil')
      (pss_cons' (ps1_if (pb_cmp (opd_eq hr) (pq_ix (pq_var 0 (pv 0)) pq_int) (pq_str "parts") (nomark _)) (pss_cons' (ps1_pf 2 (ps1_setLc (i := 2) (own := [("fields", 4), ("inner", 5)]) rfl sc_body_text.nd rfl rfl (sw_true rfl rfl rfl (by decide +kernel)) (piq_any (pq_ix (pq_var 0 (pv 0)) pq_int)) (blkOk_by (own := [("fields", 4), ("inner", 5)]) (by kernel_rfl)) (fun _ _ _ _ _ => (pgd_tup (vs := [4, 5]) (is := [4, 5]) rfl (pgs_cons (pg_name (i := 4) sc_body_text.nd rfl (by first | exact Or.inl rfl | exact Or.inr rfl)) (pgs_cons (pg_name (i := 5) sc_body_text.nd rfl (by first | exact Or.inl rfl | exact Or.inr rfl)) pgs_nil)) (by decide))) (fun _ _ _ _ _ => ptsb_nil) (fun _ _ _ _ _ => (pq_op opd_add (pq_call (ok_row_text T) (hr.mono (by omega)) (paq_cons (pq_str "+") paq_nil)) (pq_call O.part_text (hr.mono (by omega)) (paq_cons (pq_var 4 (pv 4)) (paq_cons (pq_var 5 (pv 5)) paq_nil)))))))
      (pss_one' (ps1_ret (pq_op opd_add (pq_m1 mtd_join PySem.F.slot_str_join PySem.F.type_str_join (pq_str "") (pq_var 2 (pv 2))) (pq_call (ok_row_text T) (hr.mono (by omega)) (paq_cons (pq_str "-") paq_nil)))))) pss_nil')
      (pss_one' (ps1_ret (pq_ix (pq_var 0 (pv 0)) pq_int))))))
theorem famok_body_text_part_text (T : Tx P w K mg base) : ∀ n, FamOk_body_text_part_text P w K mg base n
  | 0 => by
    have k_part_text : OkQ P w K mg base "part_text" (2 + 0) 2 [] (fam_body_text_part_text 0).part_text := by
      obtain ⟨fd, F⟩ := T.d_part_text
      exact ⟨_, fd, ["fields", "body"], [], [], fnok_no spQ_no, F.bindsN (fun _ _ _ _ _ _ us hl => match us, hl with | [_, _], _ => rfl), .nil, fun _ => ⟨rfl, rfl⟩, rfl, T.m_part_text, F.kp⟩
    have k_body_text : OkQ P w K mg base "body_text" (2 + 0) 1 [] (fam_body_text_part_text 0).body_text := by
      obtain ⟨fd, F⟩ := T.d_body_text
      exact ⟨_, fd, ["body"], [], [], fnok_no spQ_no, F.bindsN (fun _ _ _ _ _ _ us hl => match us, hl with | [_], _ => rfl), .nil, fun _ => ⟨rfl, rfl⟩, rfl, T.m_body_text, F.kp⟩
    exact ⟨k_part_text, k_body_text⟩
  | n + 1 => by
    have O := famok_body_text_part_text T n
    have k_part_text : OkQ P w K mg base "part_text" (2 + (n + 1)) 2 [] (fam_body_text_part_text (n + 1)).part_text := by
      obtain ⟨fd, F⟩ := T.d_part_text
      exact ⟨_, fd, ["fields", "body"], [], [], fnq_def F sc_part_text rfl (fun cdv A outer s H E hr => pss_part_text T O hr) (fun _ _ h => h), F.bindsN (fun _ _ _ _ _ _ us hl => match us, hl with | [_, _], _ => rfl), .nil, fun _ => ⟨rfl, rfl⟩, rfl, T.m_part_text, F.kp⟩
    have k_body_text : OkQ P w K mg base "body_text" (2 + (n + 1)) 1 [] (fam_body_text_part_text (n + 1)).body_text := by
      obtain ⟨fd, F⟩ := T.d_body_text
      exact ⟨_, fd, ["body"], [], [], fnq_def F sc_body_text rfl (fun cdv A outer s H E hr => pss_body_text T O hr) (fun _ _ h => h), F.bindsN (fun _ _ _ _ _ _ us hl => match us, hl with | [_], _ => rfl), .nil, fun _ => ⟨rfl, rfl⟩, rfl, T.m_body_text, F.kp⟩
    exact ⟨k_part_text, k_body_text⟩
theorem ok_part_text (T : Tx P w K mg base) (n : Nat) : OkQ P w K mg base "part_text" (2 + n) 2 [] (r_part_text n) := (famok_body_text_part_text T n).part_text
theorem ok_body_text (T : Tx P w K mg base) (n : Nat) : OkQ P w K mg base "body_text" (2 + n) 1 [] (r_body_text n) := (famok_body_text_part_text T n).body_text
theorem sc_written : FnScope ["letter", "book"] ["letter", "book"] (defScope s_written) := ⟨rfl, rfl, rfl, by decide +kernel, rfl, by decide +kernel, by decide +kernel⟩
theorem pss_written (T : Tx P w K mg base) {fa : Addr} {cdv : Value} {A : Around} {outer : List Env} {s : Shared} {H : Hp} {E : XK} (hr : Room 85 (A.deeper (envOfC "written" (defScope s_written) s.heap.objs.size fa cdv))) :
    PSS (cxOf (L2N.CX P w) P w K mg base ["letter", "book"] "written" (defScope s_written) fa cdv A outer s H E) [] (fun cls dx _ H' => E cls dx H') (defBody s_written) (f_written) :=
  (pss_cons' (ps1_if (pb_not (pb_val (pq_call (ok_keeps T) (hr.mono (by decide)) (paq_cons (pq_var 0 (pv 0)) (paq_cons (pq_var 1 (pv 1)) paq_nil))))) (pss_one' (ps1_raiseO T.x_f0 T.m_NoLetter rfl takes_cx)) pss_nil')
      (pss_one' (ps1_ret (pq_op opd_add (pq_call (ok_row_text T) (hr.mono (by decide)) (paq_cons (pq_ix (pq_var 0 (pv 0)) pq_int) paq_nil)) (pq_call (ok_part_text T 80) (hr.mono (by decide)) (paq_cons (pq_ix (pq_var 0 (pv 0)) pq_int) (paq_cons (pq_ix (pq_var 0 (pv 0)) pq_int) paq_nil)))))))
theorem ok_written (T : Tx P w K mg base) : OkX P w K mg base "written" 86 2 [] r_written := by
  obtain ⟨fd, F⟩ := T.d_written
  exact ⟨_, fd, ["letter", "book"], [], [], fnx_def F sc_written rfl (ks := [false, false]) (ob := []) (hob_of rfl) (fun cdv A outer s H E hr => pss_written T hr) (fun _ _ _ h => h), binds_full F (fun _ _ _ _ _ _ _ us its hu hi => match us, hu, its, hi with | [_, _], _, [_], _ => ⟨_, rfl, rfl⟩), .nil, fun _ => ⟨rfl, rfl⟩, T.m_written, F.kp⟩
theorem ok_written_d (T : Tx P w K mg base) : OkX P w K mg base "written" 86 2 [.non] r_written := by
  obtain ⟨fd, F⟩ := T.d_written
  obtain ⟨ds, hv, hb⟩ := binds_miss (ps := ["letter", "book"]) F (fun _ _ _ _ _ _ _ us its hu hi => match us, hu, its, hi with | [_], _, [_], _ => ⟨_, rfl, rfl⟩) (by decide)
  exact ⟨_, fd, _, [.non], ds, fnx_def F sc_written rfl (ks := [false, false]) (ob := []) (hob_of rfl) (fun cdv A outer s H E hr => pss_written T hr) (fun _ _ _ h => h), hb, hv, fun _ => RL_non, T.m_written, F.kp⟩
theorem sc_written_all : FnScope ["letters", "book", "letter"] ["letters", "book"] (defScope s_written_all) := ⟨rfl, rfl, rfl, by decide +kernel, rfl, by decide +kernel, by decide +kernel⟩
theorem pss_written_all (T : Tx P w K mg base) {fa : Addr} {cdv : Value} {A : Around} {outer : List Env} {s : Shared} {H : Hp} {E : XK} (hr : Room 86 (A.deeper (envOfC "written_all" (defScope s_written_all) s.heap.objs.size fa cdv))) :
    PSS (cxOf (L2N.CX P w) P w K mg base ["letters", "book", "letter"] "written_all" (defScope s_written_all) fa cdv A outer s H E) [] (fun cls dx _ H' => E cls dx H') (defBody s_written_all) (f_written_all) :=
  (pss_cons' (ps1_for (passes_of rfl) rfl (pif_any (pq_sl (pq_var 0 (pv 0)) poq_none (poq_some (pq_neg pq_int)))) (pgd_name (vs := [2]) (pg_name (i := 2) sc_written_all.nd rfl (by first | exact Or.inl rfl | exact Or.inr rfl))) (pss_one' (ps1_if (pb_cmp (opd_eq hr) (pq_ix (pq_ix (pq_var 2 (pv 2)) pq_int) pq_int) (pq_str "rest") (nomark _)) (pss_one' (ps1_raiseO T.x_f0 T.m_NoLetter rfl takes_cx)) pss_nil')))
      (pss_one' (ps1_retX (px_m1X mtd_join PySem.F.slot_str_join PySem.F.type_str_join (px_q (pq_str "")) (px_lcR (own := [("letter", 2)]) rfl rfl takes_cx rfl sc_written_all.nd (pif_any (pq_var 0 (pv 0))) (blkOk_by (own := [("letter", 2)]) (by kernel_rfl)) (fun _ _ _ _ _ => (pgd_name (vs := [2]) (pg_name (i := 2) sc_written_all.nd rfl (by first | exact Or.inl rfl | exact Or.inr rfl)))) (fun _ _ _ _ _ => ptsb_nil) (fun Wb _ _ _ _ _ _ pa => (px_callP (ok_written T) (hr.mono (by decide)) pa (pax_cons (px_q (pq_var 2 (pv 2))) (pax_cons (px_q (pq_var 1 (pv 1))) pax_nil)))))))))
theorem ok_written_all (T : Tx P w K mg base) : OkX P w K mg base "written_all" 87 2 [] r_written_all := by
  obtain ⟨fd, F⟩ := T.d_written_all
  exact ⟨_, fd, ["letters", "book"], [], [], fnx_def F sc_written_all rfl (ks := [false, false]) (ob := []) (hob_of rfl) (fun cdv A outer s H E hr => pss_written_all T hr) (fun _ _ _ h => h), binds_full F (fun _ _ _ _ _ _ _ us its hu hi => match us, hu, its, hi with | [_, _], _, [_], _ => ⟨_, rfl, rfl⟩), .nil, fun _ => ⟨rfl, rfl⟩, T.m_written_all, F.kp⟩
theorem ok_written_all_d (T : Tx P w K mg base) : OkX P w K mg base "written_all" 87 2 [.non] r_written_all := by
  obtain ⟨fd, F⟩ := T.d_written_all
  obtain ⟨ds, hv, hb⟩ := binds_miss (ps := ["letters", "book"]) F (fun _ _ _ _ _ _ _ us its hu hi => match us, hu, its, hi with | [_], _, [_], _ => ⟨_, rfl, rfl⟩) (by decide)
  exact ⟨_, fd, _, [.non], ds, fnx_def F sc_written_all rfl (ks := [false, false]) (ob := []) (hob_of rfl) (fun cdv A outer s H E hr => pss_written_all T hr) (fun _ _ _ h => h), hb, hv, fun _ => RL_non, T.m_written_all, F.kp⟩
theorem sc__law_many : FnScope ["_law_letters", "_law_book", "_law_found", "e"] ["_law_letters", "_law_book"] (defScope s__law_many) := ⟨rfl, rfl, rfl, by decide +kernel, rfl, by decide +kernel, by decide +kernel⟩
theorem pss__law_many (T : Tx P w K mg base) {fa : Addr} {cdv : Value} {A : Around} {outer : List Env} {s : Shared} {H : Hp} {E : XK} (hr : Room 87 (A.deeper (envOfC "_law_many" (defScope s__law_many) s.heap.objs.size fa cdv))) :
    PSS (cxOf (L2N.CX P w) P w K mg base ["_law_letters", "_law_book", "_law_found", "e"] "_law_many" (defScope s__law_many) fa cdv A outer s H E) [] (fun _ _ _ _ => False) (defBody s__law_many) (f__law_many) :=
  (pss_cons' (ps1_tryAs rfl rfl sc__law_many.nd rfl rfl ⟨rfl, by decide, .inl T.m_FrameError⟩ takesN0 (by decide) (exmTab_ok T.x_f1) (fun W pn xe tkW poW => (pss_one' (ps1_setX (i := 2) sc__law_many.nd rfl (by first | exact Or.inl rfl | exact Or.inr rfl) (px_call (ok_written_all T) (hr.mono (by decide)) tkW (pax_cons (px_q (pq_var 0 (pv 0))) (pax_cons (px_q (pq_var 1 (pv 1))) pax_nil)))))) (psu_less (psu_cons (psu1_if (PWJ.pt (pwj_and (ptj_val (pj_isi (tab := tabB tb0) (fun _ _ _ => pv 3) ⟨.own _, .inl T.m_NoLetter⟩ (isTab_ok T.x_f2 T.x_f3) T.b_isinstance)) (pwj_and (ptj_not (ptj_val (pj_isi (tab := tabB tb1) (fun _ _ _ => pv 3) ⟨.own _, .inl T.m_NoRule⟩ (isTab_ok T.x_f4 T.x_f5) T.b_isinstance))) (pwj1_and (ptj_val (pj_isi (tab := tabB tb0) (fun _ _ _ => pv 3) ⟨.ty _, .inr ⟨T.b_ValueError, by decide +kernel, by decide⟩⟩ (isTab_ok T.x_f6 T.x_f3) T.b_isinstance)))))) (psu_one (psu1_q fun _ _ _ => (ps1_ret pq_non))) psu_nil) (psu_one (psu1_q fun _ _ _ => (ps1_ret (pq_str "another refusal")))))))
      (pss_one' (ps1_ret (pq_var 2 (pv 2)))))
theorem ok__law_many (T : Tx P w K mg base) : OkF P w K mg base "_law_many" 88 2 [] r__law_many := by
  obtain ⟨fd, F⟩ := T.d__law_many
  exact ⟨_, fd, ["_law_letters", "_law_book"], [], [], fnf_def (ob := []) F sc__law_many rfl (fun cdv A outer s H E hr => pss__law_many T hr) (fun _ _ _ h => h), F.bindsN (fun _ _ _ _ _ _ us hl => match us, hl with | [_, _], _ => rfl), .nil, fun _ => ⟨rfl, rfl⟩, T.m__law_many, F.kp⟩
theorem sc_written_n : FnScope ["letter", "book"] ["letter", "book"] (defScope s_written_n) := ⟨rfl, rfl, rfl, by decide +kernel, rfl, by decide +kernel, by decide +kernel⟩
theorem pss_written_n (T : Tx P w K mg base) {fa : Addr} {cdv : Value} {A : Around} {outer : List Env} {s : Shared} {H : Hp} {E : XK} (hr : Room 85 (A.deeper (envOfC "written" (defScope s_written_n) s.heap.objs.size fa cdv))) :
    PSS (cxOf (L2N.CX P w) P w K mg base ["letter", "book"] "written" (defScope s_written_n) fa cdv A outer s H E) [] (fun _ _ _ _ => False) (defBody s_written_n) (f_written_n) :=
  (pss_cons' (ps1_if (pb_not (pb_val (pq_call (ok_keeps T) (hr.mono (by decide)) (paq_cons (pq_var 0 (pv 0)) (paq_cons (pq_var 1 (pv 1)) paq_nil))))) (pss_one' ps1_never) pss_nil')
      (pss_one' (ps1_ret (pq_op opd_add (pq_call (ok_row_text T) (hr.mono (by decide)) (paq_cons (pq_ix (pq_var 0 (pv 0)) pq_int) paq_nil)) (pq_call (ok_part_text T 80) (hr.mono (by decide)) (paq_cons (pq_ix (pq_var 0 (pv 0)) pq_int) (paq_cons (pq_ix (pq_var 0 (pv 0)) pq_int) paq_nil)))))))
theorem ok_written_n (T : Tx P w K mg base) : OkQ P w K mg base "written" 86 2 [] r_written_n := by
  obtain ⟨fd, F⟩ := T.d_written
  exact ⟨_, fd, ["letter", "book"], [], [], fnq_def F sc_written_n rfl (fun cdv A outer s H E hr => pss_written_n T hr) (fun _ _ h => h), binds_full F (fun _ _ _ _ _ _ _ us its hu hi => match us, hu, its, hi with | [_, _], _, [_], _ => ⟨_, rfl, rfl⟩), .nil, fun _ => ⟨rfl, rfl⟩, rfl, T.m_written, F.kp⟩
theorem ok_written_n_d (T : Tx P w K mg base) : OkQ P w K mg base "written" 86 2 [.non] r_written_n := by
  obtain ⟨fd, F⟩ := T.d_written
  obtain ⟨ds, hv, hb⟩ := binds_miss (ps := ["letter", "book"]) F (fun _ _ _ _ _ _ _ us its hu hi => match us, hu, its, hi with | [_], _, [_], _ => ⟨_, rfl, rfl⟩) (by decide)
  exact ⟨_, fd, _, [.non], ds, fnq_def F sc_written_n rfl (fun cdv A outer s H E hr => pss_written_n T hr) (fun _ _ h => h), hb, hv, fun _ => RL_non, rfl, T.m_written, F.kp⟩
theorem sc_written_all_n : FnScope ["letters", "book", "letter"] ["letters", "book"] (defScope s_written_all_n) := ⟨rfl, rfl, rfl, by decide +kernel, rfl, by decide +kernel, by decide +kernel⟩
theorem pss_written_all_n (T : Tx P w K mg base) {fa : Addr} {cdv : Value} {A : Around} {outer : List Env} {s : Shared} {H : Hp} {E : XK} (hr : Room 86 (A.deeper (envOfC "written_all" (defScope s_written_all_n) s.heap.objs.size fa cdv))) :
    PSS (cxOf (L2N.CX P w) P w K mg base ["letters", "book", "letter"] "written_all" (defScope s_written_all_n) fa cdv A outer s H E) [] (fun _ _ _ _ => False) (defBody s_written_all_n) (f_written_all_n) :=
  (pss_cons' (ps1_for (passes_of rfl) rfl (pif_any (pq_sl (pq_var 0 (pv 0)) poq_none (poq_some (pq_neg pq_int)))) (pgd_name (vs := [2]) (pg_name (i := 2) sc_written_all_n.nd rfl (by first | exact Or.inl rfl | exact Or.inr rfl))) (pss_one' (ps1_if (pb_cmp (opd_eq hr) (pq_ix (pq_ix (pq_var 2 (pv 2)) pq_int) pq_int) (pq_str "rest") (nomark _)) (pss_one' ps1_never) pss_nil')))
      (pss_one' (ps1_ret (pq_m1 mtd_join PySem.F.slot_str_join PySem.F.type_str_join (pq_str "") (PN.pq (pn_lc (own := [("letter", 2)]) rfl sc_written_all_n.nd (piq_any (pq_var 0 (pv 0))) (blkOk_by (own := [("letter", 2)]) (by kernel_rfl)) (fun _ _ _ _ _ => (pgd_name (vs := [2]) (pg_name (i := 2) sc_written_all_n.nd rfl (by first | exact Or.inl rfl | exact Or.inr rfl)))) (fun _ _ _ _ _ => ptsb_nil) (fun _ _ _ _ _ => (pq_call (ok_written_n T) (hr.mono (by decide)) (paq_cons (pq_var 2 (pv 2)) (paq_cons (pq_var 1 (pv 1)) paq_nil))))))))))
theorem ok_written_all_n (T : Tx P w K mg base) : OkQ P w K mg base "written_all" 87 2 [] r_written_all_n := by
  obtain ⟨fd, F⟩ := T.d_written_all
  exact ⟨_, fd, ["letters", "book"], [], [], fnq_def F sc_written_all_n rfl (fun cdv A outer s H E hr => pss_written_all_n T hr) (fun _ _ h => h), binds_full F (fun _ _ _ _ _ _ _ us its hu hi => match us, hu, its, hi with | [_, _], _, [_], _ => ⟨_, rfl, rfl⟩), .nil, fun _ => ⟨rfl, rfl⟩, rfl, T.m_written_all, F.kp⟩
theorem ok_written_all_n_d (T : Tx P w K mg base) : OkQ P w K mg base "written_all" 87 2 [.non] r_written_all_n := by
  obtain ⟨fd, F⟩ := T.d_written_all
  obtain ⟨ds, hv, hb⟩ := binds_miss (ps := ["letters", "book"]) F (fun _ _ _ _ _ _ _ us its hu hi => match us, hu, its, hi with | [_], _, [_], _ => ⟨_, rfl, rfl⟩) (by decide)
  exact ⟨_, fd, _, [.non], ds, fnq_def F sc_written_all_n rfl (fun cdv A outer s H E hr => pss_written_all_n T hr) (fun _ _ h => h), hb, hv, fun _ => RL_non, rfl, T.m_written_all, F.kp⟩
theorem sc_law : FnScope ["_law_script", "_law_letters", "_law_cell", "_law_letter_here", "_law_bad", "_law_book", "_law_good", "_law_rests", "_law_due", "_law_handed", "_law_one"] ["_law_script"] (defScope s_law) := ⟨rfl, rfl, rfl, by decide +kernel, rfl, by decide +kernel, by decide +kernel⟩
theorem pss_law (T : Tx P w K mg base) {fa : Addr} {cdv : Value} {A : Around} {outer : List Env} {s : Shared} {H : Hp} {E : XK} (hr : Room 88 (A.deeper (envOfC "law" (defScope s_law) s.heap.objs.size fa cdv))) :
    PSS (cxOf (L2N.CX P w) P w K mg base ["_law_script", "_law_letters", "_law_cell", "_law_letter_here", "_law_bad", "_law_book", "_law_good", "_law_rests", "_law_due", "_law_handed", "_law_one"] "law" (defScope s_law) fa cdv A outer s H E) [] (fun _ _ _ _ => False) (defBody s_law) (f_law) :=
  (pss_cons' (ps1_setN (i := 1) sc_law.nd rfl (by first | exact Or.inl rfl | exact Or.inr rfl) (pn_lst paq_nil))
      (pss_cons' (ps1_for (passes_of rfl) rfl (pif_any (pq_sl (pq_var 0 (pv 0)) poq_none (poq_some pq_int))) (pgd_name (vs := [2]) (pg_name (i := 2) sc_law.nd rfl (by first | exact Or.inl rfl | exact Or.inr rfl))) (pss_wp [2, 3, 4, 5, 6, 7, 8, 9] (pss_cons' (ps1_set (i := 3) sc_law.nd rfl (by first | exact Or.inl rfl | exact Or.inr rfl) (pq_call (ok__law_letter T) (hr.mono (by decide)) (paq_cons (pq_var 2 (pv 2)) paq_nil)))
      (pss_cons' (ps1_set (i := 4) sc_law.nd rfl (by first | exact Or.inl rfl | exact Or.inr rfl) (pq_op opd_mod (pq_call (ok__law_drawn T) (hr.mono (by decide)) (paq_cons (pq_var 2 (pv 2)) (paq_cons pq_int paq_nil))) pq_int))
      (pss_cons' (ps1_if (pb_cmp (opd_eq hr) (pq_var 4 (pv 4)) pq_int (nomark _)) (pss_one' (ps1_set (i := 3) sc_law.nd rfl (by first | exact Or.inl rfl | exact Or.inr rfl) (pq_tup (paq_cons (pq_str "toolongaword") (paq_cons (pq_ix (pq_var 3 (pv 3)) pq_int) (paq_cons (pq_ix (pq_var 3 (pv 3)) pq_int) paq_nil)))))) pss_nil')
      (pss_cons' (ps1_app (fun te p => pe_bm PySem.F.plainAttrs_list PySem.F.slot_list_append PySem.F.type_list_append mt_append (pv 1) (pa_cons p pa_nil)) (pq_var 3 (pv 3)))
      (pss_cons' (ps1_if (PWB.pb (pwb_and (pb_cmp (opd_eq hr) (pq_ix (pq_ix (pq_var 3 (pv 3)) pq_int) pq_int) (pq_str "rest") (nomark _)) (pw1_and (pb_cmp (opd_eq hr) (pq_op opd_mod (pq_call (ok__law_drawn T) (hr.mono (by decide)) (paq_cons (pq_var 2 (pv 2)) (paq_cons pq_int paq_nil))) pq_int) pq_int (nomark _))))) (pss_one' (ps1_setN (i := 1) sc_law.nd rfl (by first | exact Or.inl rfl | exact Or.inr rfl) (pn_sl (pq_var 1 (pv 1)) (poq_some (pq_neg pq_int)) poq_none))) pss_nil')
      (pss_cons' (ps1_if (pb_cmp (opd_eq hr) (pq_var 4 (pv 4)) pq_int (nomark _)) (pss_one' (ps1_setN (i := 1) sc_law.nd rfl (by first | exact Or.inl rfl | exact Or.inr rfl) (pn_lst paq_nil))) pss_nil')
      (pss_cons' (ps1_set (i := 5) sc_law.nd rfl (by first | exact Or.inl rfl | exact Or.inr rfl) (pq_ix (PN.pq (pn_lst (paq_cons pq_non (paq_cons (pq_tup (paq_cons pq_int (paq_cons pq_int (paq_cons pq_int (paq_cons pq_int (paq_cons pq_int (paq_cons pq_int (paq_cons pq_int paq_nil)))))))) (paq_cons (pq_tup (paq_cons pq_int (paq_cons pq_int (paq_cons pq_int (paq_cons pq_int (paq_cons pq_int (paq_cons pq_int (paq_cons pq_int paq_nil)))))))) paq_nil))))) (pq_op opd_mod (pq_call (ok__law_drawn T) (hr.mono (by decide)) (paq_cons (pq_var 2 (pv 2)) (paq_cons pq_int paq_nil))) pq_int)))
      (pss_cons' (ps1_pf 6 (ps1_setLc (i := 6) (own := [("_law_one", 10)]) rfl sc_law.nd rfl rfl (sw_true rfl rfl rfl (by decide +kernel)) (piq_any (pq_var 1 (pv 1))) (blkOk_by (own := [("_law_one", 10)]) (by kernel_rfl)) (fun _ _ _ _ _ => (pgd_name (vs := [10]) (pg_name (i := 10) sc_law.nd rfl (by first | exact Or.inl rfl | exact Or.inr rfl)))) (fun _ _ _ _ _ => (ptsb_one (PWB.pb (pwb_and (pb_cmp opd_le (pq_callB cd_len T.b_len (by decide +kernel) (paq_cons (pq_ix (pq_var 10 (pv 10)) pq_int) paq_nil)) pq_int (nomark _)) (pw1_and (PWB.pb (pwb_or (pb_cmp opd_is_ (pq_var 5 (pv 5)) pq_non (nomark _)) (pw1_or (pb_cmp opd_le (pq_callB cd_len T.b_len (by decide +kernel) (paq_cons (pq_ix (pq_var 10 (pv 10)) pq_int) paq_nil)) (pq_ix (pq_var 5 (pv 5)) pq_int) (nomark _)))))))))) (fun _ _ _ _ _ => (pq_var 10 (pv 10)))))
      (pss_cons' (ps1_pf 7 (ps1_setLc (i := 7) (own := [("_law_one", 10)]) rfl sc_law.nd rfl rfl (sw_true rfl rfl rfl (by decide +kernel)) (piq_any (pq_sl (pq_var 1 (pv 1)) poq_none (poq_some (pq_neg pq_int)))) (blkOk_by (own := [("_law_one", 10)]) (by kernel_rfl)) (fun _ _ _ _ _ => (pgd_name (vs := [10]) (pg_name (i := 10) sc_law.nd rfl (by first | exact Or.inl rfl | exact Or.inr rfl)))) (fun _ _ _ _ _ => (ptsb_one (pb_cmp (opd_eq hr) (pq_ix (pq_ix (pq_var 10 (pv 10)) pq_int) pq_int) (pq_str "rest") (nomark _)))) (fun _ _ _ _ _ => (pq_var 10 (pv 10)))))
      (pss_cons' (ps1_set (i := 8) sc_law.nd rfl (by first | exact Or.inl rfl | exact Or.inr rfl) pq_non)
      (pss_cons' (ps1_if (PWB.pb (pwb_and (pb_cmp (opd_eq hr) (pq_callB cd_len T.b_len (by decide +kernel) (paq_cons (pq_var 6 (pv 6)) paq_nil)) (pq_callB cd_len T.b_len (by decide +kernel) (paq_cons (pq_var 1 (pv 1)) paq_nil)) (nomark _)) (pw1_and (pb_cmp (opd_eq hr) (pq_var 7 (pv 7)) (PN.pq (pn_lst paq_nil)) (nomark _))))) (pss_one' (ps1_set (i := 8) sc_law.nd rfl (by first | exact Or.inl rfl | exact Or.inr rfl) (pq_m1 mtd_join PySem.F.slot_str_join PySem.F.type_str_join (pq_str "") (PN.pq (pn_lc (own := [("_law_one", 10)]) rfl sc_law.nd (piq_any (pq_var 1 (pv 1))) (blkOk_by (own := [("_law_one", 10)]) (by kernel_rfl)) (fun _ _ _ _ _ => (pgd_name (vs := [10]) (pg_name (i := 10) sc_law.nd rfl (by first | exact Or.inl rfl | exact Or.inr rfl)))) (fun _ _ _ _ _ => ptsb_nil) (fun _ _ _ _ _ => (pq_call (ok_written_n T) (hr.mono (by decide)) (paq_cons (pq_var 10 (pv 10)) (paq_cons (pq_var 5 (pv 5)) paq_nil))))))))) pss_nil')
      (pss_cons' (ps1_set (i := 9) sc_law.nd rfl (by first | exact Or.inl rfl | exact Or.inr rfl) (PN.pq (pn_list (pq_var 1 (pv 1)) T.b_list)))
      (pss_cons' (ps1_if (PWB.pb (pwb_or (pb_cmp (opd_ne hr) (pq_callF (ok__law_many T) (hr.mono (by decide)) (paq_cons (pq_var 9 (pv 9)) (paq_cons (pq_var 5 (pv 5)) paq_nil))) (pq_var 8 (pv 8)) (nomark _)) (pw1_or (pb_cmp (opd_ne hr) (pq_var 9 (pv 9)) (pq_var 1 (pv 1)) (nomark _))))) (pss_one' (ps1_ret pq_bl)) pss_nil')
      (pss_one' (ps1_if (PWB.pb (pwb_and (pb_cmp opd_is_ (pq_var 5 (pv 5)) pq_non (nomark _)) (pwb_and (pb_cmp opd_isnot (pq_var 8 (pv 8)) pq_non (nomark _)) (pw1_and (pb_cmp (opd_ne hr) (pq_call (ok_written_all_n_d T) (hr.mono (by decide)) (paq_cons (pq_var 9 (pv 9)) paq_nil)) (pq_var 8 (pv 8)) (nomark _)))))) (pss_one' (ps1_ret pq_bl)) pss_nil')))))))))))))))))
      (pss_one' (ps1_ret pq_bl))))
theorem fn_law (T : Tx P w K mg base) {fd : FuncData} (F : FunD K "law" "law" (defArgs s_law) (defBody s_law) (defScope s_law) [] [] (He.ga K "law") fd) : FnOk P w K mg base (L2N.CX P w) 89 (He.ga K "law") fd ["_law_script"] (spF K 1 r_law) :=
  fnf_def (ob := []) F sc_law rfl (fun cdv A outer s H E hr => pss_law T hr) fun _ _ _ h => h
end
theorem facts {P : Program} {w : World} {K : PySem.W.Frag} {h : Heap} {mg : Str → Option Value} {base : Heap} (X : K.In h) (G : h.Ns mainGlobals mg) (c : SaysY fa fn ex K) : Tx P w K mg base := by
  have cd : He.SaysD fa fn K := c.d
  have ce : ex K = true := c.more
  unfold ex at ce
  simp only [Bool.and_eq_true] at ce
  obtain ⟨⟨⟨⟨⟨⟨⟨⟨e_END_NAMES, e_USUAL⟩, e_x_f0⟩, e_x_f1⟩, e_x_f2⟩, e_x_f3⟩, e_x_f4⟩, e_x_f5⟩, e_x_f6⟩ := ce
  exact {
    b_ValueError := He.free_ok X G (cd.fact 0 (f := .free "ValueError") rfl)
    b_all := He.free_ok X G (cd.fact 1 (f := .free "all") rfl)
    b_divmod := He.free_ok X G (cd.fact 2 (f := .free "divmod") rfl)
    b_isinstance := He.free_ok X G (cd.fact 3 (f := .free "isinstance") rfl)
    b_len := He.free_ok X G (cd.fact 4 (f := .free "len") rfl)
    b_list := He.free_ok X G (cd.fact 5 (f := .free "list") rfl)
    b_str := He.free_ok X G (cd.fact 6 (f := .free "str") rfl)
    b_sum := He.free_ok X G (cd.fact 7 (f := .free "sum") rfl)
    b_tuple := He.free_ok X G (cd.fact 8 (f := .free "tuple") rfl)
    g_END_NAMES := gld_tup (He.glo_ok X G (cd.fact 9 (f := .glo "END_NAMES") rfl)) e_END_NAMES (fun W => (rl_str (rl_str (rl_str (rl_str ⟨rfl, rfl⟩)))))
    g_FIGURES := gld_str (He.str_ok X G (cd.fact 10 (f := .str "FIGURES" "0123456789abcdef") rfl))
    g_ROW_END := gld_str (He.str_ok X G (cd.fact 11 (f := .str "ROW_END" ";\n") rfl))
    g_USUAL := gld_tup (He.glo_ok X G (cd.fact 12 (f := .glo "USUAL") rfl)) e_USUAL (fun W => (rl_int (rl_int (rl_int (rl_int (rl_int (rl_int (rl_int ⟨rfl, rfl⟩))))))))
    m__law_drawn := He.glo_ok X G (cd.fact 13 (f := .glo "_law_drawn") rfl)
    m__law_letter := He.glo_ok X G (cd.fact 14 (f := .glo "_law_letter") rfl)
    m_book_of := He.glo_ok X G (cd.fact 15 (f := .glo "book_of") rfl)
    m_is_plain := He.glo_ok X G (cd.fact 16 (f := .glo "is_plain") rfl)
    m_is_run := He.glo_ok X G (cd.fact 17 (f := .glo "is_run") rfl)
    m_is_small := He.glo_ok X G (cd.fact 18 (f := .glo "is_small") rfl)
    m_is_word := He.glo_ok X G (cd.fact 19 (f := .glo "is_word") rfl)
    m_is_label := He.glo_ok X G (cd.fact 20 (f := .glo "is_label") rfl)
    m_is_value := He.glo_ok X G (cd.fact 21 (f := .glo "is_value") rfl)
    m_are_fields := He.glo_ok X G (cd.fact 22 (f := .glo "are_fields") rfl)
    m_is_part := He.glo_ok X G (cd.fact 23 (f := .glo "is_part") rfl)
    m_is_body := He.glo_ok X G (cd.fact 24 (f := .glo "is_body") rfl)
    m_parts_in := He.glo_ok X G (cd.fact 25 (f := .glo "parts_in") rfl)
    m_keeps := He.glo_ok X G (cd.fact 26 (f := .glo "keeps") rfl)
    m_row_text := He.glo_ok X G (cd.fact 27 (f := .glo "row_text") rfl)
    m_rows_text := He.glo_ok X G (cd.fact 28 (f := .glo "rows_text") rfl)
    m_figures_of := He.glo_ok X G (cd.fact 29 (f := .glo "figures_of") rfl)
    m_end_text := He.glo_ok X G (cd.fact 30 (f := .glo "end_text") rfl)
    m_part_text := He.glo_ok X G (cd.fact 31 (f := .glo "part_text") rfl)
    m_body_text := He.glo_ok X G (cd.fact 32 (f := .glo "body_text") rfl)
    m_written := He.glo_ok X G (cd.fact 33 (f := .glo "written") rfl)
    m_written_all := He.glo_ok X G (cd.fact 34 (f := .glo "written_all") rfl)
    m__law_many := He.glo_ok X G (cd.fact 35 (f := .glo "_law_many") rfl)
    m_law := He.glo_ok X G (cd.fact 36 (f := .glo "law") rfl)
    m_FrameError := He.glo_ok X G (cd.fact 37 (f := .glo "FrameError") rfl)
    m_NoLetter := He.glo_ok X G (cd.fact 38 (f := .glo "NoLetter") rfl)
    m_NoRule := He.glo_ok X G (cd.fact 39 (f := .glo "NoRule") rfl)
    x_f0 := e_x_f0
    x_f1 := e_x_f1
    x_f2 := e_x_f2
    x_f3 := e_x_f3
    x_f4 := e_x_f4
    x_f5 := e_x_f5
    x_f6 := e_x_f6
    d__law_drawn := cd.def_ 0 (d := D__law_drawn) rfl
    d__law_letter := cd.def_ 1 (d := D__law_letter) rfl
    d_book_of := cd.def_ 2 (d := D_book_of) rfl
    d_is_plain := cd.def_ 3 (d := D_is_plain) rfl
    d_is_run := cd.def_ 4 (d := D_is_run) rfl
    d_is_small := cd.def_ 5 (d := D_is_small) rfl
    d_is_word := cd.def_ 6 (d := D_is_word) rfl
    d_is_label := cd.def_ 7 (d := D_is_label) rfl
    d_is_value := cd.def_ 8 (d := D_is_value) rfl
    d_are_fields := cd.def_ 9 (d := D_are_fields) rfl
    d_is_part := cd.def_ 10 (d := D_is_part) rfl
    d_is_body := cd.def_ 11 (d := D_is_body) rfl
    d_parts_in := cd.def_ 12 (d := D_parts_in) rfl
    d_keeps := cd.def_ 13 (d := D_keeps) rfl
    d_row_text := cd.def_ 14 (d := D_row_text) rfl
    d_rows_text := cd.def_ 15 (d := D_rows_text) rfl
    d_figures_of := cd.def_ 16 (d := D_figures_of) rfl
    d_end_text := cd.def_ 17 (d := D_end_text) rfl
    d_part_text := cd.def_ 18 (d := D_part_text) rfl
    d_body_text := cd.def_ 19 (d := D_body_text) rfl
    d_written := cd.def_ 20 (d := D_written) rfl
    d_written_all := cd.def_ 21 (d := D_written_all) rfl
    d__law_many := cd.def_ 22 (d := D__law_many) rfl
    d_law := cd.def_ 23 (d := D_law) rfl
  }
end G
namespace G
open PySem PySem.Spec PyProof.Rows L2 Fw
local macro_rules | `(tactic| walk_at "d") => `(tactic| first | assumption | omega | (simp -implicitDefEqProofs only [List.length_append, List.length_cons, List.length_nil, List.length_map, List.length_take, List.length_drop, List.length_replicate, List.length_range, strsL_cons, strsL_nil, strsL_map, intsL_cons, intsL_nil, Nat.reduceAdd, klaw] ; omega) | decide | (simp -implicitDefEqProofs only [plset, allStr_cons, allStr_nil, allStr_map, allInt_cons, allInt_nil, dataL_strs, dataL_ints, dataL_cons, dataL_nil, dataL_append, data_str, data_int, data_tup, data_lst, data_bl, data_non, Bool.and_self, Bool.and_true, *] ; done) | (apply List.ne_nil_of_length_pos ; omega))
local macro_rules | `(tactic| walk_at "k") => `(tactic| simp (disch := walk_at "d") only [kset, kset2, kset5, kset6, kset10, kset11, kset12, kset13, kset14, kset15, kset16, kset17, kset18, kset19, kset20, kset21, kset22, kset23, klaw, Option.bind_some, Option.map_some, Option.bind_none, Option.map_none, List.getElem?_cons_zero, List.getElem?_cons_succ, List.set_cons_zero, List.set_cons_succ, List.cons_append, List.nil_append, List.append_nil, List.length_cons, List.length_nil, List.length_map, List.replicate_zero, List.replicate_succ, Bool.and_true, Bool.true_and, Bool.not_true, Bool.not_false, Bool.false_eq_true, Bool.not_eq_true', decide_eq_true_eq, decide_eq_false_iff_not, Bool.and_eq_true, Bool.or_eq_true, Nat.reduceAdd, Nat.reduceSub, Nat.reduceLeDiff, Nat.reduceLT, Nat.reduceEqDiff, List.take_succ_cons, Bool.or_false, Bool.or_true, Bool.false_or, Bool.true_or, Bool.and_false, Bool.false_and, List.take_zero, List.take_nil, Int.reduceLT, Int.reduceLE, Int.reduceNeg, Int.reduceAdd, Int.reduceSub, Int.reduceMul, Int.reduceEq, Int.reduceToNat, Int.reducePow, and_true, true_and, and_false, false_and, or_true, true_or, or_false, false_or, not_true_eq_false, not_false_eq_true, eq_self, if_true, if_false, ite_self, decide_true, decide_false, ite_not, List.map_cons, List.map_nil, List.cons.injEq, reduceCtorEq, List.isEmpty_cons, Int.natCast_one, Int.cast_ofNat_Int, Int.natCast_zero, Int.toNat_natCast, *])
/-! ### signs -/
def sm (c : Nat) : Bool := decide (97 ≤ c) && decide (c ≤ 122)
theorem is_small_eq (c : Nat) : r_is_small [.str [c]] = some (.bl (sm c)) := by
  unfold r_is_small f_is_small sm
  walk_at "k"
def pln (c : Nat) : Bool := decide (c = 10) || (decide (32 ≤ c) && decide (c ≤ 126))
theorem is_plain_eq (c : Nat) : r_is_plain [.str [c]] = some (.bl (pln c)) := by
  unfold r_is_plain f_is_plain pln
  walk_at "k"
abbrev lengthN : List Nat := [108, 101, 110, 103, 116, 104]
abbrev piecesN : List Nat := [112, 105, 101, 99, 101, 115]
abbrev partsN : List Nat := [112, 97, 114, 116, 115]
abbrev restN : List Nat := [114, 101, 115, 116]
abbrev yesN : List Nat := [121, 101, 115]
abbrev EN : List (List Nat) := [lengthN, piecesN, partsN, restN]
abbrev FIG : List Nat := [48, 49, 50, 51, 52, 53, 54, 55, 56, 57, 97, 98, 99, 100, 101, 102]
def pairD (z : List Nat × List Nat) : D := .tup [.str z.1, .str z.2]
structure Bk where
  w : Int
  n : Int
  v : Int
  f : Int
  b : Int
  p : Int
  d : Int
abbrev Bk.l (b : Bk) : List D := [.int b.w, .int b.n, .int b.v, .int b.f, .int b.b, .int b.p, .int b.d]
/-! ### letters -/
abbrev noneN : List Nat := [110, 111, 110, 101]
abbrev Fs := List (List Nat × List Nat)
mutual
inductive Bd where
  | non | len (t : List Nat) | rest (t : List Nat) | pcs (ts : List (List Nat)) (tr : Fs) | parts (ps : List Pt)
inductive Pt where
  | mk (fs : Fs) (b : Bd)
end
def fsD (fs : Fs) : D := .tup (fs.map pairD)
mutual
def Bd.d : Bd → D
  | .non => .tup [.str noneN]
  | .len t => .tup [.str lengthN, .str t]
  | .rest t => .tup [.str restN, .str t]
  | .pcs ts tr => .tup [.str piecesN, .tup (ts.map D.str), fsD tr]
  | .parts ps => .tup [.str partsN, .tup (Pt.ds ps)]
def Pt.ds : List Pt → List D
  | [] => []
  | .mk fs b :: ps => .tup [fsD fs, Bd.d b] :: Pt.ds ps
end
def Pt.d : Pt → D
  | .mk fs b => .tup [fsD fs, b.d]
theorem Pt.ds_eq : ∀ ps : List Pt, Pt.ds ps = ps.map Pt.d
  | [] => by unfold Pt.ds; rfl
  | .mk fs b :: ps => by unfold Pt.ds; rw [Pt.ds_eq ps]; rfl
theorem bd_non : Bd.d .non = .tup [.str noneN] := by unfold Bd.d; rfl
theorem bd_len (t : List Nat) : Bd.d (.len t) = .tup [.str lengthN, .str t] := by unfold Bd.d; rfl
theorem bd_rest (t : List Nat) : Bd.d (.rest t) = .tup [.str restN, .str t] := by unfold Bd.d; rfl
theorem bd_pcs (ts : List (List Nat)) (tr : Fs) : Bd.d (.pcs ts tr) = .tup [.str piecesN, .tup (ts.map D.str), fsD tr] := by unfold Bd.d; rfl
theorem bd_parts (ps : List Pt) : Bd.d (.parts ps) = .tup [.str partsN, .tup (ps.map Pt.d)] := by unfold Bd.d; rw [Pt.ds_eq]
theorem data_pairs (fs : Fs) : dataL (fs.map pairD) = true := by
  induction fs with
  | nil => rfl
  | cons z fs ih => exact ih
theorem data_fs (fs : Fs) : data (fsD fs) = true := data_pairs fs
mutual
theorem data_bd : ∀ b : Bd, data b.d = true
  | .non => by rw [bd_non]; rfl
  | .len t => by rw [bd_len]; rfl
  | .rest t => by rw [bd_rest]; rfl
  | .pcs ts tr => by
    rw [bd_pcs]
    show (true && (dataL (ts.map D.str) && (data (fsD tr) && true))) = true
    rw [data_fs, dataL_strs]
    rfl
  | .parts ps => by
    rw [bd_parts]
    show (true && (dataL (ps.map Pt.d) && true)) = true
    rw [data_pts ps]
    rfl
theorem data_pts : ∀ ps : List Pt, dataL (ps.map Pt.d) = true
  | [] => rfl
  | .mk fs b :: ps => by
    show ((data (fsD fs) && (data b.d && true)) && dataL (ps.map Pt.d)) = true
    rw [data_fs, data_bd b, data_pts ps]
    rfl
end
theorem varK_of {d : D} (h : data d = true) : varK (some d) = some d := by
  cases d <;> first | rfl | cases h
theorem fl_of {d : D} (h : data d = true) : fl d = true := by
  cases d <;> first | exact h | rfl
theorem isUn_of {d : D} (h : data d = true) : isUn d = false := by
  cases d <;> first | rfl | cases h
theorem varK_fs (fs : Fs) : varK (some (fsD fs)) = some (fsD fs) := rfl
theorem varK_bd (y : Bd) : varK (some y.d) = some y.d := varK_of (data_bd y)
theorem fl_fs (fs : Fs) : fl (fsD fs) = true := fl_of (data_fs fs)
theorem fl_bd (y : Bd) : fl y.d = true := fl_of (data_bd y)
theorem isUn_fs (fs : Fs) : isUn (fsD fs) = false := rfl
theorem isUn_bd (y : Bd) : isUn y.d = false := isUn_of (data_bd y)
theorem dLen_fs (fs : Fs) : dLen (fsD fs) = some (.int fs.length) := by unfold fsD; show some (D.int (fs.map pairD).length) = _; rw [List.length_map]
theorem tgT_pt {i j : Nat} {p : Pt} {ρ : List D} : tgT [i, j] p.d ρ = match p with | .mk fs y => some ((ρ.set i (fsD fs)).set j y.d) := by
  cases p with
  | mk fs y =>
    show (tgN i (fsD fs) ρ).bind (fun ρ' => tgs [j] [y.d] ρ') = _
    unfold tgN
    rw [if_pos (data_fs fs)]
    show (tgN j y.d (ρ.set i (fsD fs))).bind (fun ρ' => some ρ') = _
    unfold tgN
    rw [if_pos (data_bd y)]
    rfl
def lset := And.intro @varK_fs <| And.intro @varK_bd <| And.intro @fl_fs <| And.intro @fl_bd <| And.intro @isUn_fs <| And.intro @isUn_bd <| And.intro @dLen_fs <| And.intro @data_fs <| And.intro @data_bd <| And.intro @data_pts @data_pairs
/-! ### sizes -/
def szT (ts : List (List Nat)) : Nat := (ts.map fun t => t.length + 10).sum
def szF (fs : Fs) : Nat := (fs.map fun z => z.1.length + z.2.length + 10).sum
mutual
def Bd.sz : Bd → Nat
  | .non => 0
  | .len t => t.length
  | .rest t => t.length
  | .pcs ts tr => szT ts + szF tr
  | .parts ps => Pt.szs ps
def Pt.szs : List Pt → Nat
  | [] => 0
  | .mk fs b :: ps => 40 + (szF fs + Bd.sz b) + Pt.szs ps
end
mutual
def Bd.dp : Bd → Nat
  | .parts ps => 1 + Pt.dps ps
  | _ => 0
def Pt.dps : List Pt → Nat
  | [] => 0
  | .mk _ b :: ps => max (Bd.dp b) (Pt.dps ps)
end
theorem szF_mem {fs : Fs} {z : List Nat × List Nat} (h : z ∈ fs) : z.1.length + z.2.length + 10 ≤ szF fs := by
  induction fs with
  | nil => cases h
  | cons y fs ih =>
    show _ ≤ ((y :: fs).map fun z => z.1.length + z.2.length + 10).sum
    rw [List.map_cons, List.sum_cons]
    rcases List.mem_cons.mp h with rfl | h
    · omega
    · have := ih h
      unfold szF at this
      omega
theorem szF_len (fs : Fs) : 10 * fs.length ≤ szF fs := by
  induction fs with
  | nil => exact Nat.le_refl _
  | cons y fs ih =>
    show _ ≤ ((y :: fs).map fun z => z.1.length + z.2.length + 10).sum
    unfold szF at ih
    rw [List.map_cons, List.sum_cons, List.length_cons]
    omega
theorem szT_mem {ts : List (List Nat)} {t : List Nat} (h : t ∈ ts) : t.length + 10 ≤ szT ts := by
  induction ts with
  | nil => cases h
  | cons y ts ih =>
    show _ ≤ ((y :: ts).map fun t => t.length + 10).sum
    rw [List.map_cons, List.sum_cons]
    rcases List.mem_cons.mp h with rfl | h
    · omega
    · have := ih h
      unfold szT at this
      omega
theorem szT_len (ts : List (List Nat)) : 10 * ts.length + ts.flatten.length ≤ szT ts := by
  induction ts with
  | nil => exact Nat.le_refl _
  | cons y ts ih =>
    show _ ≤ ((y :: ts).map fun t => t.length + 10).sum
    unfold szT at ih
    rw [List.map_cons, List.sum_cons, List.length_cons, List.flatten_cons, List.length_append]
    omega
theorem szs_cons (fs : Fs) (b : Bd) (ps : List Pt) : Pt.szs (.mk fs b :: ps) = 40 + (szF fs + b.sz) + Pt.szs ps := by rw [Pt.szs]
theorem szs_len (ps : List Pt) : 40 * ps.length ≤ Pt.szs ps := by
  induction ps with
  | nil => exact Nat.zero_le _
  | cons p ps ih =>
    cases p with
    | mk fs b =>
      rw [szs_cons, List.length_cons]
      omega
/-! ### what keeps a book, plain -/
def wordB (t : List Nat) (m : Int) : Bool := decide (1 ≤ (t.length : Int) ∧ (t.length : Int) ≤ m) && t.all sm
def lblB (t : List Nat) (m : Int) : Bool := wordB t m && !decide (t ∈ EN)
def vluB (t : List Nat) (m : Int) : Bool := decide ((1 ≤ (t.length : Int) ∧ (t.length : Int) ≤ m) ∧ t.headD 0 ≠ 32 ∧ t.getLastD 0 ≠ 32) && t.all fun c => pln c && (!decide (c = 59) && !decide (c = 10))
def fsB (fs : Fs) (room n v : Int) : Bool := decide ((fs.length : Int) ≤ room) && fs.all fun z => lblB z.1 n && vluB z.2 v
def runB (t : List Nat) (m : Int) : Bool := decide ((t.length : Int) ≤ m) && t.all pln
mutual
def bodyB (b : Bk) : Bd → Int → Int → Bool
  | .non, _, _ => true
  | .rest t, _, deep => decide (deep = 0) && runB t b.b
  | .len t, _, _ => runB t b.b
  | .pcs ts tr, room, _ => !decide ([] ∈ ts) && (runB ts.flatten b.b && fsB tr room b.n b.v)
  | .parts ps, _, deep => partsB b ps (deep + 1)
def partsB (b : Bk) : List Pt → Int → Bool
  | [], _ => true
  | .mk fs y :: ps, deep => (decide (deep ≤ b.d) && (fsB fs b.f b.n b.v && bodyB b y (b.f - fs.length) deep)) && partsB b ps deep
end
def partB (b : Bk) (fs : Fs) (y : Bd) (deep : Int) : Bool := decide (deep ≤ b.d) && (fsB fs b.f b.n b.v && bodyB b y (b.f - fs.length) deep)
theorem partsB_all (b : Bk) (deep : Int) : ∀ ps : List Pt, partsB b ps deep = ps.all fun p => match p with | .mk fs y => partB b fs y deep
  | [] => by rw [partsB]; rfl
  | .mk fs y :: ps => by
    rw [partsB, partsB_all b deep ps]
    rfl
/-! ### what keeps a book -/
theorem word_eq {t : List Nat} {m : Int} (hl : t.length ≤ 1000000) : r_is_word [.str t, .int m] = some (.bl (wordB t m)) := by
  have lc : ∀ a0 a1 : D, lcL (tgN 2) bYes ce1_is_word [a0, a1, .un] [] (t.map fun c => D.str [c]) = some (t.map fun c => .bl (sm c)) := by
    intro a0 a1
    refine lc_all (fun c => D.str [c]) (fun c => .bl (sm c)) t fun c _ => ⟨_, rfl, ?_, rfl⟩
    have e := is_small_eq c
    unfold ce1_is_word
    walk_at "k"
  have e4 : (t.map fun c => sm c).all id = t.all sm := by rw [List.all_map]; rfl
  unfold r_is_word f_is_word wordB
  walk_at "k"
theorem label_eq {t : List Nat} {m : Int} (hl : t.length ≤ 1000000) : r_is_label [.str t, .int m] = some (.bl (lblB t m)) := by
  have e := word_eq (t := t) (m := m) hl
  unfold r_is_label f_is_label lblB
  walk_at "k"
  simp
theorem value_eq {t : List Nat} {m : Int} (hl : t.length ≤ 1000000) : r_is_value [.str t, .int m] = some (.bl (vluB t m)) := by
  have lc : ∀ a0 a1 : D, lcL (tgN 2) bYes ce1_is_value [a0, a1, .un] [] (t.map fun c => D.str [c]) = some (t.map fun c => .bl (pln c && (!decide (c = 59) && !decide (c = 10)))) := by
    intro a0 a1
    refine lc_all (fun c => D.str [c]) (fun c => .bl _) t fun c _ => ⟨_, rfl, ?_, rfl⟩
    have e := is_plain_eq c
    unfold ce1_is_value
    walk_at "k"
    simp
  have e4 : (t.map fun c => (pln c && (!decide (c = 59) && !decide (c = 10)))).all id = t.all fun c => pln c && (!decide (c = 59) && !decide (c = 10)) := by rw [List.all_map]; rfl
  unfold r_is_value f_is_value vluB
  have e5 : t.headD 0 = t.getD 0 0 := by cases t <;> rfl
  rw [e5]
  by_cases hn : t = []
  · subst hn
    clear lc e4 e5
    walk_at "k"
  · have hp : 0 < t.length := List.length_pos_iff.mpr hn
    clear e5
    walk_at "k"
    generalize (t.all fun x => pln x && (!decide (x = 59) && !decide (x = 10))) = z
    generalize t.getD 0 0 = x
    generalize t.getLastD 0 = y
    by_cases h1 : (1 : Int) ≤ t.length <;> by_cases h2 : (t.length : Int) ≤ m <;> by_cases h3 : x = 32 <;> by_cases h4 : y = 32 <;> simp [h1, h2, h3, h4]
theorem run_eq {t : List Nat} {m : Int} (hl : t.length ≤ 1000000) : r_is_run [.str t, .int m] = some (.bl (runB t m)) := by
  have lc : ∀ a0 a1 : D, lcL (tgN 2) bYes ce1_is_run [a0, a1, .un] [] (t.map fun c => D.str [c]) = some (t.map fun c => .bl (pln c)) := by
    intro a0 a1
    refine lc_all (fun c => D.str [c]) (fun c => .bl (pln c)) t fun c _ => ⟨_, rfl, ?_, rfl⟩
    have e := is_plain_eq c
    unfold ce1_is_run
    walk_at "k"
  have e4 : (t.map fun c => pln c).all id = t.all pln := by rw [List.all_map]; rfl
  unfold r_is_run f_is_run runB
  walk_at "k"
/-! ### fields, bodies -/
theorem fields_are {b : Bk} {fs : Fs} {room : Int} (h : szF fs ≤ 1000000) : r_are_fields [fsD fs, .int room, .tup b.l] = some (.bl (fsB fs room b.n b.v)) := by
  have lc : ∀ a0 a1 : D, lcL (tgT [3, 4]) bYes ce1_are_fields [a0, a1, .tup b.l, .un, .un] [] (fs.map pairD) = some (fs.map fun z => .bl (lblB z.1 b.n && vluB z.2 b.v)) := by
    intro a0 a1
    refine lc_all pairD (fun z => .bl (lblB z.1 b.n && vluB z.2 b.v)) fs fun z hz => ⟨_, rfl, ?_, rfl⟩
    have hm := szF_mem hz
    have e1 := label_eq (t := z.1) (m := b.n) (by omega)
    have e2 := value_eq (t := z.2) (m := b.v) (by omega)
    unfold ce1_are_fields
    walk_at "k"
    simp
  have e4 : (fs.map fun z => (lblB z.1 b.n && vluB z.2 b.v)).all id = fs.all fun z => lblB z.1 b.n && vluB z.2 b.v := by rw [List.all_map]; rfl
  have hl := szF_len fs
  have hd := data_pairs fs
  unfold r_are_fields f_are_fields fsB fsD
  by_cases hr : room < fs.length
  · clear lc e4
    walk_at "k"
    simp [Int.not_le.mpr hr]
  · walk_at "k"
    simp [Int.not_lt.mp hr]
mutual
def partsIn : Bd → Nat
  | .parts ps => partsInL ps
  | _ => 0
def partsInL : List Pt → Nat
  | [] => 0
  | .mk _ b :: ps => 1 + partsIn b + partsInL ps
end
/-! ### plain facts of bodies -/
theorem sz_pcs (ts : List (List Nat)) (tr : Fs) : Bd.sz (.pcs ts tr) = szT ts + szF tr := by rw [Bd.sz]
theorem sz_parts (ps : List Pt) : Bd.sz (.parts ps) = Pt.szs ps := by rw [Bd.sz]
theorem sz_len (t : List Nat) : Bd.sz (.len t) = t.length := by rw [Bd.sz]
theorem sz_rest (t : List Nat) : Bd.sz (.rest t) = t.length := by rw [Bd.sz]
theorem dp_parts (ps : List Pt) : Bd.dp (.parts ps) = 1 + Pt.dps ps := by rw [Bd.dp]
theorem dps_cons (fs : Fs) (b : Bd) (ps : List Pt) : Pt.dps (.mk fs b :: ps) = max b.dp (Pt.dps ps) := by rw [Pt.dps]
theorem partsIn_parts (ps : List Pt) : partsIn (.parts ps) = partsInL ps := by rw [partsIn]
def Pt.b : Pt → Bd
  | .mk _ y => y
def Pt.f : Pt → Fs
  | .mk fs _ => fs
local macro_rules | `(tactic| walk_at "kl") => `(tactic| simp (disch := walk_at "d") only [lset, kset, kset2, kset5, kset6, kset10, kset11, kset12, kset13, kset14, kset15, kset16, kset17, kset18, kset19, kset20, kset21, kset22, kset23, klaw, Option.bind_some, Option.map_some, Option.bind_none, Option.map_none, List.getElem?_cons_zero, List.getElem?_cons_succ, List.set_cons_zero, List.set_cons_succ, List.cons_append, List.nil_append, List.append_nil, List.length_cons, List.length_nil, List.length_map, List.replicate_zero, List.replicate_succ, Bool.and_true, Bool.true_and, Bool.not_true, Bool.not_false, Bool.false_eq_true, Bool.not_eq_true', decide_eq_true_eq, decide_eq_false_iff_not, Bool.and_eq_true, Bool.or_eq_true, Nat.reduceAdd, Nat.reduceSub, Nat.reduceLeDiff, Nat.reduceLT, Nat.reduceEqDiff, List.take_succ_cons, Bool.or_false, Bool.or_true, Bool.false_or, Bool.true_or, Bool.and_false, Bool.false_and, List.take_zero, List.take_nil, Int.reduceLT, Int.reduceLE, Int.reduceNeg, Int.reduceAdd, Int.reduceSub, Int.reduceMul, Int.reduceEq, Int.reduceToNat, Int.reducePow, and_true, true_and, and_false, false_and, or_true, true_or, or_false, false_or, not_true_eq_false, not_false_eq_true, eq_self, if_true, if_false, ite_self, decide_true, decide_false, ite_not, List.map_cons, List.map_nil, List.cons.injEq, reduceCtorEq, List.isEmpty_cons, Int.natCast_one, Int.cast_ofNat_Int, Int.natCast_zero, Int.toNat_natCast, *])
/-! ### what keeps a book: bodies, letters -/
theorem join_flat {ts : List (List Nat)} (h : ts.flatten.length ≤ 1000000) : oJoin [] [.tup (ts.map D.str)] = some (.str ts.flatten) := by
  have e : (ts.map (·.length)).sum = ts.flatten.length := by rw [List.length_flatten]
  rw [oJoin_tup (by rw [e, List.length_nil]; omega), joinL_nil]
mutual
theorem is_body_eq {b : Bk} : ∀ (y : Bd) (n : Nat) (room deep : Int), y.sz ≤ 1000000 → 2 * y.dp + 1 ≤ n → r_is_body n [y.d, .int room, .tup b.l, .int deep] = some (.bl (bodyB b y room deep))
  | y, 0, _, _, _, h => by omega
  | .non, n + 1, room, deep, _, _ => by
    rw [bd_non, bodyB]
    unfold r_is_body
    rw [r_is_body_s]
    unfold f_is_body
    walk_at "kl"
  | .rest t, n + 1, room, deep, hs, _ => by
    rw [sz_rest] at hs
    have e := run_eq (t := t) (m := b.b) hs
    rw [bd_rest, bodyB]
    unfold r_is_body
    rw [r_is_body_s]
    unfold f_is_body
    by_cases hd : deep = 0
    · subst hd
      walk_at "kl"
    · clear e
      walk_at "kl"
  | .len t, n + 1, room, deep, hs, _ => by
    rw [sz_len] at hs
    have e := run_eq (t := t) (m := b.b) hs
    rw [bd_len, bodyB]
    unfold r_is_body
    rw [r_is_body_s]
    unfold f_is_body
    walk_at "kl"
  | .pcs ts tr, n + 1, room, deep, hs, _ => by
    rw [sz_pcs] at hs
    have hl := szT_len ts
    have e := run_eq (t := ts.flatten) (m := b.b) (by omega)
    have e2 := fields_are (b := b) (fs := tr) (room := room) (by omega)
    have e3 := join_flat (ts := ts) (by omega)
    have hd := data_fs tr
    rw [bd_pcs, bodyB]
    unfold r_is_body
    rw [r_is_body_s]
    unfold f_is_body
    walk_at "kl"
    simp
  | .parts ps, n + 1, room, deep, hs, hn => by
    rw [sz_parts] at hs
    rw [dp_parts] at hn
    have e := is_parts_eq (b := b) ps n (deep + 1) hs (by omega)
    have hl := szs_len ps
    have hd := data_pts ps
    have lc : ∀ a0 a1 : D, lcL (tgT [4, 5]) bYes (ce1_is_body (fam_is_body_is_part n)) [a0, a1, .tup b.l, .int deep, .un, .un] [] (ps.map Pt.d) = some (ps.map fun p => .bl (match p with | .mk fs y => partB b fs y (deep + 1))) := by
      intro a0 a1
      refine lc_all Pt.d (fun p => .bl (match p with | .mk fs y => partB b fs y (deep + 1))) ps fun p hp => ?_
      cases p with
      | mk fs y =>
        have e1 := e fs y hp
        refine ⟨_, tgT_pt, ?_, rfl⟩
        unfold ce1_is_body
        walk_at "kl"
    have e4 : (ps.map fun p => match p with | .mk fs y => partB b fs y (deep + 1)).all id = partsB b ps (deep + 1) := by rw [partsB_all, List.all_map]; rfl
    rw [bd_parts, bodyB]
    unfold r_is_body
    rw [r_is_body_s]
    unfold f_is_body
    clear e
    walk_at "kl"
theorem is_parts_eq {b : Bk} : ∀ (ps : List Pt) (n : Nat) (deep : Int), Pt.szs ps ≤ 1000000 → 2 * Pt.dps ps + 2 ≤ n → ∀ fs y, .mk fs y ∈ ps → r_is_part n [fsD fs, y.d, .tup b.l, .int deep] = some (.bl (partB b fs y deep))
  | [], _, _, _, _, _, _, h => nomatch h
  | .mk fs0 y0 :: ps, n, deep, hs, hn, fs, y, h => by
    rw [szs_cons] at hs
    rw [dps_cons] at hn
    have hmx := Nat.le_max_left y0.dp (Pt.dps ps)
    have hmx2 := Nat.le_max_right y0.dp (Pt.dps ps)
    have hsz : Pt.szs ps ≤ 1000000 := by omega
    rcases List.mem_cons.mp h with e | h
    · cases e
      obtain ⟨m, rfl⟩ : ∃ m, n = m + 1 := ⟨n - 1, by omega⟩
      have e1 := is_body_eq (b := b) y0 m (b.f - fs0.length) deep (by omega) (by omega)
      have e2 := fields_are (b := b) (fs := fs0) (room := b.f) (by omega)
      unfold r_is_part partB
      rw [r_is_part_s]
      unfold f_is_part
      by_cases hd : b.d < deep
      · clear e1
        walk_at "kl"
        simp [Int.not_le.mpr hd]
      · cases hf : fsB fs0 b.f b.n b.v
        · rw [hf] at e2
          walk_at "kl"
        · rw [hf] at e2
          walk_at "kl"
          simp [Int.not_lt.mp hd]
    · exact is_parts_eq ps n deep hsz (by omega) fs y h
end

theorem partsInL_sum : ∀ ps : List Pt, (ps.map fun p => (1 + (partsIn p.b : Int))).sum = (partsInL ps : Int)
  | [] => by rw [partsInL]; rfl
  | .mk fs y :: ps => by
    rw [List.map_cons, List.sum_cons, partsInL_sum ps, partsInL]
    show 1 + (partsIn y : Int) + _ = _
    omega
theorem intsD_map {α : Type} (f : α → Int) : ∀ l : List α, intsD (l.map fun a => D.int (f a)) = some (l.map f)
  | [] => rfl
  | a :: l => by
    show (intsD (l.map fun a => D.int (f a))).map _ = _
    rw [intsD_map f l]
    rfl
mutual
theorem parts_in_eq : ∀ (y : Bd) (n : Nat), y.sz ≤ 1000000 → y.dp + 1 ≤ n → r_parts_in n [y.d] = some (.int (partsIn y))
  | y, 0, _, h => by omega
  | .non, n + 1, _, _ => by
    rw [bd_non, partsIn]
    · unfold r_parts_in
      rw [r_parts_in_s]
      unfold f_parts_in
      walk_at "kl"
    · intro ps z; cases z
  | .rest t, n + 1, _, _ => by
    rw [bd_rest, partsIn]
    · unfold r_parts_in
      rw [r_parts_in_s]
      unfold f_parts_in
      walk_at "kl"
    · intro ps z; cases z
  | .len t, n + 1, _, _ => by
    rw [bd_len, partsIn]
    · unfold r_parts_in
      rw [r_parts_in_s]
      unfold f_parts_in
      walk_at "kl"
    · intro ps z; cases z
  | .pcs ts tr, n + 1, hs, _ => by
    rw [bd_pcs, partsIn]
    · unfold r_parts_in
      rw [r_parts_in_s]
      unfold f_parts_in
      walk_at "kl"
    · intro ps z; cases z
  | .parts ps, n + 1, hs, hn => by
    rw [sz_parts] at hs
    rw [dp_parts] at hn
    have e := parts_in_all ps n hs (by omega)
    have hl := szs_len ps
    have hd := data_pts ps
    have lc : ∀ a0 : D, lcL (tgT [1, 2]) bYes (ce1_parts_in (fam_parts_in n)) [a0, .un, .un] [] (ps.map Pt.d) = some (ps.map fun p => .int (1 + (partsIn p.b : Int))) := by
      intro a0
      refine lc_all Pt.d (fun p => .int (1 + (partsIn p.b : Int))) ps fun p hp => ?_
      have e1 := e p hp
      cases p with
      | mk fs y =>
        refine ⟨_, tgT_pt, ?_, rfl⟩
        unfold ce1_parts_in
        unfold Pt.b at *
        walk_at "kl"
    have e4 := intsD_map (fun p : Pt => 1 + (partsIn p.b : Int)) ps
    have e5 := partsInL_sum ps
    rw [bd_parts, partsIn_parts]
    unfold r_parts_in
    rw [r_parts_in_s]
    unfold f_parts_in
    clear e
    walk_at "kl"
theorem parts_in_all : ∀ (ps : List Pt) (n : Nat), Pt.szs ps ≤ 1000000 → Pt.dps ps + 1 ≤ n → ∀ p ∈ ps, r_parts_in n [p.b.d] = some (.int (partsIn p.b))
  | [], _, _, _, _, h => nomatch h
  | .mk fs0 y0 :: ps, n, hs, hn, p, h => by
    rw [szs_cons] at hs
    rw [dps_cons] at hn
    have hmx := Nat.le_max_left y0.dp (Pt.dps ps)
    have hmx2 := Nat.le_max_right y0.dp (Pt.dps ps)
    have hsz : Pt.szs ps ≤ 1000000 := by omega
    rcases List.mem_cons.mp h with e | h
    · cases e
      exact parts_in_eq y0 n (by omega) (by omega)
    · exact parts_in_all ps n hsz (by omega) p h
end
/-! ### a letter -/
structure Ltr where
  w : List Nat
  fs : Fs
  b : Bd
def Ltr.d (l : Ltr) : D := .tup [.str l.w, fsD l.fs, l.b.d]
def Ltr.sz (l : Ltr) : Nat := l.w.length + szF l.fs + l.b.sz
def Bk.usual : Bk := ⟨8, 12, 40, 12, 400, 12, 6⟩
def keepsB (b : Bk) (l : Ltr) : Bool := wordB l.w b.w && (decide ((partsIn l.b : Int) ≤ b.p) && partB b l.fs l.b 0)
theorem data_lt (l : Ltr) : data l.d = true := by
  show (true && (data (fsD l.fs) && (data l.b.d && true))) = true
  rw [data_fs, data_bd]
  rfl
theorem book_of_eq (b : Bk) : r_book_of [.tup b.l] = some (.tup b.l) := by
  unfold r_book_of f_book_of
  walk_at "k"
theorem book_of_non : r_book_of [.non] = some (.tup Bk.usual.l) := by
  unfold r_book_of f_book_of
  walk_at "k"
  rfl
theorem keeps_eq {b : Bk} {o : D} (ho : r_book_of [o] = some (.tup b.l)) (hd : data o = true) (hv : varK (some o) = some o) (l : Ltr) (hs : l.sz ≤ 900000) (hp : l.b.dp ≤ 38) : r_keeps [l.d, o] = some (.bl (keepsB b l)) := by
  have hs2 : l.w.length + szF l.fs + l.b.sz ≤ 900000 := hs
  have e1 := word_eq (t := l.w) (m := b.w) (by omega)
  have e2 := parts_in_eq l.b 80 (by omega) (by omega)
  have e3 := is_parts_eq (b := b) [.mk l.fs l.b] 80 0 (by rw [szs_cons]; simp [Pt.szs]; omega) (by rw [dps_cons]; simp [Pt.dps]; omega) l.fs l.b (List.mem_cons_self ..)
  have e4 : tgT [2, 3, 4] l.d = fun ρ => some (((ρ.set 2 (.str l.w)).set 3 (fsD l.fs)).set 4 l.b.d) := by
    funext ρ
    unfold Ltr.d tgT tgs tgs tgs tgs
    simp only [tgN, data_fs, data_bd, data_str, if_true, Option.bind_some]
  have e5 := data_lt l
  have e6 := varK_of (data_lt l)
  unfold r_keeps f_keeps keepsB
  cases z : wordB l.w b.w
  · rw [z] at e1
    clear e2 e3
    walk_at "kl"
  · rw [z] at e1
    by_cases y : b.p < partsIn l.b
    · clear e3
      walk_at "kl"
      simp [Int.not_le.mpr y]
    · walk_at "kl"
      simp [Int.not_lt.mp y]
/-! ### what keeps a book, said -/
theorem fsB_iff {fs : Fs} {room n v : Int} : fsB fs room n v = true ↔ (fs.length : Int) ≤ room ∧ ∀ z ∈ fs, lblB z.1 n = true ∧ vluB z.2 v = true := by
  unfold fsB
  rw [Bool.and_eq_true, decide_eq_true_iff, List.all_eq_true]
  simp only [Bool.and_eq_true]
theorem runB_iff {t : List Nat} {m : Int} : runB t m = true ↔ (t.length : Int) ≤ m ∧ ∀ x ∈ t, pln x = true := by
  unfold runB
  rw [Bool.and_eq_true, decide_eq_true_iff, List.all_eq_true]
theorem bodyB_pcs {b : Bk} {ts : List (List Nat)} {tr : Fs} {room deep : Int} : bodyB b (.pcs ts tr) room deep = true ↔ (∀ t ∈ ts, t ≠ []) ∧ runB ts.flatten b.b = true ∧ fsB tr room b.n b.v = true := by
  rw [bodyB, Bool.and_eq_true, Bool.and_eq_true]
  simp only [Bool.not_eq_true', decide_eq_false_iff_not]
  constructor
  · rintro ⟨h1, h2⟩
    exact ⟨fun t ht z => h1 (z ▸ ht), h2⟩
  · rintro ⟨h1, h2⟩
    exact ⟨fun h => h1 [] h rfl, h2⟩
def fieldT (z : List Nat × List Nat) : List Nat := z.1 ++ ([58, 32] ++ (z.2 ++ [59, 10]))
def fieldsT (fs : List (List Nat × List Nat)) : List Nat := (fs.map fieldT).flatten
/-! ### written, plain -/
def hexF : Nat → Nat → List Nat
  | 0, n => [FIG.getD (n % 16) 0]
  | k + 1, n => if n < 16 then [FIG.getD n 0] else hexF k (n / 16) ++ [FIG.getD (n % 16) 0]
def hexT (n : Nat) : List Nat := hexF 5 n
theorem hexF_len : ∀ (k n : Nat), (hexF k n).length ≤ k + 1 ∧ 1 ≤ (hexF k n).length
  | 0, n => ⟨Nat.le_refl _, Nat.le_refl _⟩
  | k + 1, n => by
    unfold hexF
    split
    · simp
    · have := hexF_len k (n / 16)
      rw [List.length_append, List.length_singleton]
      omega
def endT : Bd → List Nat
  | .non => []
  | .len t => lengthN ++ ([58, 32] ++ (TL.numL t.length ++ [59, 10]))
  | .rest _ => restN ++ ([58, 32] ++ (yesN ++ [59, 10]))
  | .pcs _ _ => piecesN ++ ([58, 32] ++ (yesN ++ [59, 10]))
  | .parts _ => partsN ++ ([58, 32] ++ (yesN ++ [59, 10]))
def pieceT (t : List Nat) : List Nat := hexT t.length ++ ([59, 10] ++ (t ++ [59, 10]))
mutual
def bodyT : Bd → List Nat
  | .non => []
  | .len t => t
  | .rest t => t
  | .pcs ts tr => (ts.map pieceT).flatten ++ ([48, 59, 10] ++ (fieldsT tr ++ [59, 10]))
  | .parts ps => partsT ps ++ [45, 59, 10]
def partsT : List Pt → List Nat
  | [] => []
  | .mk fs y :: ps => ([43, 59, 10] ++ (fieldsT fs ++ (endT y ++ ([59, 10] ++ bodyT y)))) ++ partsT ps
end
def partT (fs : Fs) (y : Bd) : List Nat := fieldsT fs ++ (endT y ++ ([59, 10] ++ bodyT y))
def Pt.t : Pt → List Nat
  | .mk fs y => [43, 59, 10] ++ partT fs y
theorem partsT_flat : ∀ ps : List Pt, partsT ps = (ps.map Pt.t).flatten
  | [] => by rw [partsT]; rfl
  | .mk fs y :: ps => by
    rw [partsT, partsT_flat ps]
    rfl
/-! ### lengths of what is written -/
theorem fieldsT_len (fs : Fs) : (fieldsT fs).length + 6 * fs.length = szF fs := by
  induction fs with
  | nil => rfl
  | cons z fs ih =>
    unfold fieldsT szF fieldT at *
    simp only [List.map_cons, List.flatten_cons, List.sum_cons, List.length_append, List.length_cons, List.length_nil] at *
    omega
theorem num_str (m : Nat) : ofS (toString (m : Int)) = TL.numL m := by
  rw [← TL.tl_num m, tr_ofS]
  first | done | exact (TL.tl_tr _).symm
theorem log2_small {n : Nat} (h : n < 1048576) : n.log2 < 1920 := by
  by_cases z : n = 0
  · rw [z]; decide
  · have : n.log2 < 20 := (Nat.log2_lt z).mpr (by show n < 1048576; exact h)
    omega
theorem endT_len {y : Bd} (h : y.sz ≤ 900000) : (endT y).length ≤ 17 := by
  cases y with
  | len t =>
    rw [sz_len] at h
    have hn : (TL.numL t.length).length ≤ 7 := TL.numL_len (k := 7) (by decide) (by omega)
    unfold endT
    simp only [List.length_append, List.length_cons, List.length_nil]
    omega
  | non => exact Nat.zero_le _
  | rest t => exact (by decide : (restN ++ ([58, 32] ++ (yesN ++ [59, 10]))).length ≤ 17)
  | pcs ts tr => exact (by decide : (piecesN ++ ([58, 32] ++ (yesN ++ [59, 10]))).length ≤ 17)
  | parts ps => exact (by decide : (partsN ++ ([58, 32] ++ (yesN ++ [59, 10]))).length ≤ 17)

theorem pieces_len (ts : List (List Nat)) : ((ts.map pieceT).flatten).length ≤ szT ts := by
  induction ts with
  | nil => exact Nat.zero_le _
  | cons t ts ih =>
    have := hexF_len 5 t.length
    unfold szT pieceT hexT at *
    simp only [List.map_cons, List.flatten_cons, List.sum_cons, List.length_append, List.length_cons, List.length_nil] at *
    omega
mutual
theorem bodyT_len : ∀ y : Bd, y.sz ≤ 900000 → (bodyT y).length ≤ y.sz + 5
  | .non, _ => by rw [bodyT]; exact Nat.zero_le _
  | .len t, _ => by rw [bodyT, sz_len]; omega
  | .rest t, _ => by rw [bodyT, sz_rest]; omega
  | .pcs ts tr, _ => by
    have h1 := pieces_len ts
    have h2 := fieldsT_len tr
    rw [bodyT, sz_pcs]
    simp only [List.length_append, List.length_cons, List.length_nil]
    omega
  | .parts ps, h => by
    rw [sz_parts] at h
    have h1 := partsT_len ps h
    rw [bodyT, sz_parts, List.length_append]
    simp only [List.length_cons, List.length_nil]
    omega
theorem partsT_len : ∀ ps : List Pt, Pt.szs ps ≤ 900000 → (partsT ps).length ≤ Pt.szs ps
  | [], _ => by rw [partsT]; exact Nat.zero_le _
  | .mk fs y :: ps, h => by
    rw [szs_cons] at h
    have h1 := bodyT_len y (by omega)
    have h2 := partsT_len ps (by omega)
    have h3 := fieldsT_len fs
    have h4 := endT_len (y := y) (by omega)
    rw [partsT, szs_cons]
    simp only [List.length_append, List.length_cons, List.length_nil]
    omega
end
theorem partT_len {fs : Fs} {y : Bd} (h : szF fs + y.sz ≤ 900000) : (partT fs y).length ≤ szF fs + y.sz + 24 := by
  have h1 := bodyT_len y (by omega)
  have h3 := fieldsT_len fs
  have h4 := endT_len (y := y) (by omega)
  unfold partT
  simp only [List.length_append, List.length_cons, List.length_nil]
  omega
theorem join_lst {α : Type} {f : α → List Nat} {l : List α} (h : ((l.map f).flatten).length ≤ 1000000) : oJoin [] [.lst (l.map fun x => D.str (f x))] = some (.str (l.map f).flatten) := by
  have e : (l.map fun x => D.str (f x)) = (l.map f).map D.str := by rw [List.map_map]; rfl
  have e2 : ((l.map f).map (·.length)).sum = (l.map f).flatten.length := by rw [List.length_flatten]
  rw [e, oJoin_lst (by rw [e2, List.length_nil]; omega), joinL_nil]
local macro_rules | `(tactic| walk_at "kl") => `(tactic| simp (disch := walk_at "d") only [lset, kset, kset2, kset5, kset6, kset10, kset11, kset12, kset13, kset14, kset15, kset16, kset17, kset18, kset19, kset20, kset21, kset22, kset23, klaw, Option.bind_some, Option.map_some, Option.bind_none, Option.map_none, List.getElem?_cons_zero, List.getElem?_cons_succ, List.set_cons_zero, List.set_cons_succ, List.cons_append, List.nil_append, List.append_nil, List.length_cons, List.length_nil, List.length_map, List.replicate_zero, List.replicate_succ, Bool.and_true, Bool.true_and, Bool.not_true, Bool.not_false, Bool.false_eq_true, Bool.not_eq_true', decide_eq_true_eq, decide_eq_false_iff_not, Bool.and_eq_true, Bool.or_eq_true, Nat.reduceAdd, Nat.reduceSub, Nat.reduceLeDiff, Nat.reduceLT, Nat.reduceEqDiff, List.take_succ_cons, Bool.or_false, Bool.or_true, Bool.false_or, Bool.true_or, Bool.and_false, Bool.false_and, List.take_zero, List.take_nil, Int.reduceLT, Int.reduceLE, Int.reduceNeg, Int.reduceAdd, Int.reduceSub, Int.reduceMul, Int.reduceEq, Int.reduceToNat, Int.reducePow, and_true, true_and, and_false, false_and, or_true, true_or, or_false, false_or, not_true_eq_false, not_false_eq_true, eq_self, if_true, if_false, ite_self, decide_true, decide_false, ite_not, List.map_cons, List.map_nil, List.cons.injEq, reduceCtorEq, List.isEmpty_cons, Int.natCast_one, Int.cast_ofNat_Int, Int.natCast_zero, Int.toNat_natCast, *])
/-! ### written -/
theorem fig_ix {n : Nat} (h : n < 16) : dIx (.str FIG) (.int n) = some (.str [FIG.getD n 0]) := by
  have : ∀ n < 16, dIx (.str FIG) (.int (n : Nat)) = some (.str [FIG.getD n 0]) := by
    intro n hn
    rw [dIx_str, if_pos (by decide), ixAt_nat]
    have : ∀ n < 16, FIG[n]? = some (FIG.getD n 0) := by decide
    rw [this n hn]
    rfl
  exact this n h
theorem figs_loop : ∀ (k n m : Nat) (acc : List Nat), n < 16 ^ (k + 1) → k < m → acc.length ≤ 1000 - k → k ≤ 100 → ∃ (n' : Nat) (acc' : List Nat), whL wt1_figures_of wb1_figures_of m [.int n, .int 16, .str acc, .un] [] = some (.nx [.int n', .int 16, .str acc', .un] []) ∧ n' < 16 ∧ hexF k n ++ acc = FIG.getD n' 0 :: acc'
  | k, n, 0, acc, _, h, _, _ => absurd h (Nat.not_lt_zero _)
  | k, n, m + 1, acc, hn, hm, ha, hk => by
    by_cases z : n < 16
    · have e : wt1_figures_of [.int n, .int 16, .str acc, .un] [] = some false := by
        unfold wt1_figures_of
        have : ¬ ((16 : Int) ≤ n) := by omega
        walk_at "k"
      refine ⟨n, acc, ?_, z, ?_⟩
      · show (wt1_figures_of [.int n, .int 16, .str acc, .un] []).bind _ = _
        rw [e]
        rfl
      · cases k with
        | zero => show FIG.getD (n % 16) 0 :: acc = _; rw [Nat.mod_eq_of_lt z]
        | succ k => unfold hexF; rw [if_pos z]; rfl
    · have e : wt1_figures_of [.int n, .int 16, .str acc, .un] [] = some true := by
        unfold wt1_figures_of
        have : ((16 : Int) ≤ n) := by omega
        walk_at "k"
      cases k with
      | zero => exact absurd hn (by simpa using z)
      | succ k =>
        have e2 : wb1_figures_of [.int n, .int 16, .str acc, .un] [] = some (.nx [.int (n / 16 : Nat), .int 16, .str (FIG.getD (n % 16) 0 :: acc), .un] []) := by
          have h1 := fig_ix (n := n % 16) (by omega)
          have h2 : (n : Int) / 16 = ((n / 16 : Nat) : Int) := by omega
          have h3 : (n : Int) % 16 = ((n % 16 : Nat) : Int) := by omega
          have h4 : acc.length ≤ 1000 := by omega
          unfold wb1_figures_of
          generalize n / 16 = q at *
          generalize n % 16 = r at *
          have h5 : ofS "0123456789abcdef" = FIG := by decide +kernel
          walk_at "k"
        obtain ⟨n', acc', k1, k2, k3⟩ := figs_loop k (n / 16) m (FIG.getD (n % 16) 0 :: acc) (by rw [Nat.div_lt_iff_lt_mul (by decide), ← Nat.pow_succ]; exact hn) (by omega) (by rw [List.length_cons]; omega) (by omega)
        refine ⟨n', acc', ?_, k2, ?_⟩
        · show (wt1_figures_of [.int n, .int 16, .str acc, .un] []).bind _ = _
          rw [e]
          show (wb1_figures_of [.int n, .int 16, .str acc, .un] []).bind _ = _
          rw [e2]
          exact k1
        · unfold hexF
          rw [if_neg z, List.append_assoc]
          exact k3
theorem figures_eq {n : Nat} (h : n < 16777216) : r_figures_of [.int n, .int 16] = some (.str (hexT n)) := by
  obtain ⟨n', acc', k1, k2, k3⟩ := figs_loop 5 n 1000 [] (by omega) (by decide) (by decide) (by decide)
  have e : fWh fuel_figures_of_1 wt1_figures_of wb1_figures_of [.int n, .int 16, .str [], .un] [] = some (.nx [.int n', .int 16, .str acc', .un] []) := k1
  have h1 := fig_ix k2
  have h5 : ofS "0123456789abcdef" = FIG := by decide +kernel
  rw [List.append_nil] at k3
  have hl := (hexF_len 5 n).1
  rw [k3, List.length_cons] at hl
  unfold hexT
  rw [k3]
  unfold r_figures_of f_figures_of
  clear k1 k3
  walk_at "k"
theorem row_eq {t : List Nat} (h : t.length ≤ 999000) : r_row_text [.str t] = some (.str (t ++ [59, 10])) := by
  unfold r_row_text f_row_text
  walk_at "k"
theorem rows_eq {fs : Fs} (h : szF fs ≤ 900000) : r_rows_text [fsD fs] = some (.str (fieldsT fs)) := by
  have lc : ∀ a0 : D, lcL (tgT [1, 2]) bYes ce1_rows_text [a0, .un, .un] [] (fs.map pairD) = some (fs.map fun z => D.str (fieldT z)) := by
    intro a0
    refine lc_all pairD (fun z => D.str (fieldT z)) fs fun z hz => ⟨_, rfl, ?_, rfl⟩
    have hl := szF_mem hz
    have e := row_eq (t := z.1 ++ [58, 32] ++ z.2) (by simp; omega)
    unfold fieldT
    unfold ce1_rows_text
    walk_at "kl"
    simp
  have hl := fieldsT_len fs
  have hj : oJoin [] [.lst (fs.map fun z => D.str (fieldT z))] = some (.str (fieldsT fs)) := by
    have e : (fs.map fun z => D.str (fieldT z)) = (fs.map fieldT).map D.str := by rw [List.map_map]; rfl
    have e2 : ((fs.map fieldT).map (·.length)).sum = (fieldsT fs).length := by unfold fieldsT; rw [List.length_flatten]
    rw [e, oJoin_lst (by rw [e2, List.length_nil]; omega), joinL_nil]
    rfl
  have f1 : itemsQ (fsD fs) = some (fs.map pairD) := if_pos (data_pairs fs)
  have f2 := szF_len fs
  unfold r_rows_text f_rows_text
  walk_at "kl"
theorem end_eq {y : Bd} (h : y.sz ≤ 900000) : r_end_text [y.d] = some (.str (endT y)) := by
  cases y with
  | non =>
    rw [bd_non]
    unfold r_end_text f_end_text endT
    walk_at "k"
  | len t =>
    rw [sz_len] at h
    have hn : (TL.numL t.length).length ≤ 7 := TL.numL_len (k := 7) (by decide) (by omega)
    have e := row_eq (t := [108, 101, 110, 103, 116, 104, 58, 32] ++ TL.numL t.length) (by simp; omega)
    simp only [List.cons_append, List.nil_append] at e
    have hs : dStrI (.int t.length) = some (.str (TL.numL t.length)) := by
      rw [dStrI_int, num_str, if_pos]
      have : ((t.length : Int)).natAbs = t.length := by omega
      rw [this]
      exact log2_small (by omega)
    rw [bd_len]
    unfold r_end_text f_end_text endT
    walk_at "k"
  | rest t =>
    have e := row_eq (t := [114, 101, 115, 116, 58, 32, 121, 101, 115]) (by decide)
    rw [bd_rest]
    unfold r_end_text f_end_text endT
    walk_at "k"
  | pcs ts tr =>
    have e := row_eq (t := [112, 105, 101, 99, 101, 115, 58, 32, 121, 101, 115]) (by decide)
    rw [bd_pcs]
    unfold r_end_text f_end_text endT
    walk_at "kl"
  | parts ps =>
    have e := row_eq (t := [112, 97, 114, 116, 115, 58, 32, 121, 101, 115]) (by decide)
    rw [bd_parts]
    unfold r_end_text f_end_text endT
    walk_at "kl"
/-! ### bodies -/
mutual
theorem body_text_eq : ∀ (y : Bd) (n : Nat), y.sz ≤ 800000 → 2 * y.dp + 1 ≤ n → r_body_text n [y.d] = some (.str (bodyT y))
  | y, 0, _, h => by omega
  | .non, n + 1, _, _ => by
    rw [bd_non, bodyT]
    unfold r_body_text
    rw [r_body_text_s]
    unfold f_body_text
    walk_at "kl"
  | .len t, n + 1, hs, _ => by
    rw [bd_len, bodyT]
    unfold r_body_text
    rw [r_body_text_s]
    unfold f_body_text
    walk_at "kl"
  | .rest t, n + 1, hs, _ => by
    rw [bd_rest, bodyT]
    unfold r_body_text
    rw [r_body_text_s]
    unfold f_body_text
    walk_at "kl"
  | .pcs ts tr, n + 1, hs, _ => by
    rw [sz_pcs] at hs
    have hl := szT_len ts
    have hp := pieces_len ts
    have hf := fieldsT_len tr
    have lc : ∀ a0 a1 a2 a4 a5 : D, lcL (tgN 3) bYes (ce1_body_text (fam_body_text_part_text n)) [a0, a1, a2, .un, a4, a5] [] (ts.map D.str) = some (ts.map fun t => D.str (pieceT t)) := by
      intro a0 a1 a2 a4 a5
      refine lc_all D.str (fun t => D.str (pieceT t)) ts fun t ht => ⟨_, rfl, ?_, rfl⟩
      have h1 := szT_mem ht
      have h2 := hexF_len 5 t.length
      have e1 := figures_eq (n := t.length) (by omega)
      have e2 := row_eq (t := hexT t.length) (by unfold hexT; omega)
      have e3 := row_eq (t := t) (by omega)
      have h3 : (hexT t.length).length ≤ 6 := h2.1
      unfold pieceT
      unfold ce1_body_text
      walk_at "kl"
      simp
    have hj := join_lst (f := pieceT) (l := ts) (by omega)
    have hd : dataL (ts.map fun t => D.str (pieceT t)) = true := by
      have : (ts.map fun t => D.str (pieceT t)) = (ts.map pieceT).map D.str := by rw [List.map_map]; rfl
      rw [this, dataL_strs]
    have e1 := row_eq (t := [48]) (by decide)
    have e2 := row_eq (t := []) (by decide)
    have e3 := rows_eq (fs := tr) (by omega)
    generalize hP : (ts.map fun t => D.str (pieceT t)) = P at *
    have hds : dataL (ts.map D.str) = true := dataL_strs _
    rw [bd_pcs, bodyT]
    unfold r_body_text
    rw [r_body_text_s]
    unfold f_body_text
    walk_at "kl"
    simp
  | .parts ps, n + 1, hs, hn => by
    rw [sz_parts] at hs
    rw [dp_parts] at hn
    have e := part_texts_eq ps n hs (by omega)
    have hl := szs_len ps
    have hd := data_pts ps
    have hp := partsT_len ps (by omega)
    rw [partsT_flat] at hp
    have lc : ∀ a0 a1 a2 a3 : D, lcL (tgT [4, 5]) bYes (ce2_body_text (fam_body_text_part_text n)) [a0, a1, a2, a3, .un, .un] [] (ps.map Pt.d) = some (ps.map fun p => D.str p.t) := by
      intro a0 a1 a2 a3
      refine lc_all Pt.d (fun p => D.str p.t) ps fun p hp => ?_
      cases p with
      | mk fs y =>
        obtain ⟨e1, e3⟩ := e fs y hp
        have e2 := row_eq (t := [43]) (by decide)
        refine ⟨_, tgT_pt, ?_, rfl⟩
        unfold ce2_body_text Pt.t
        walk_at "kl"
    have hj := join_lst (f := Pt.t) (l := ps) (by omega)
    have hd2 : dataL (ps.map fun p => D.str p.t) = true := by
      have : (ps.map fun p => D.str p.t) = (ps.map Pt.t).map D.str := by rw [List.map_map]; rfl
      rw [this, dataL_strs]
    have e1 := row_eq (t := [45]) (by decide)
    have hlen : (ps.map fun p => D.str p.t).length = ps.length := List.length_map ..
    generalize hP : (ps.map fun p => D.str p.t) = P at *
    rw [bd_parts, bodyT, partsT_flat]
    unfold r_body_text
    rw [r_body_text_s]
    unfold f_body_text
    clear e
    walk_at "kl"
theorem part_texts_eq : ∀ (ps : List Pt) (n : Nat), Pt.szs ps ≤ 800000 → 2 * Pt.dps ps + 2 ≤ n → ∀ fs y, .mk fs y ∈ ps → r_part_text n [fsD fs, y.d] = some (.str (partT fs y)) ∧ (partT fs y).length ≤ 900000
  | [], _, _, _, _, _, h => nomatch h
  | .mk fs0 y0 :: ps, n, hs, hn, fs, y, h => by
    rw [szs_cons] at hs
    rw [dps_cons] at hn
    have hmx := Nat.le_max_left y0.dp (Pt.dps ps)
    have hmx2 := Nat.le_max_right y0.dp (Pt.dps ps)
    have hsz : Pt.szs ps ≤ 800000 := by omega
    rcases List.mem_cons.mp h with e | h
    · cases e
      obtain ⟨m, rfl⟩ : ∃ m, n = m + 1 := ⟨n - 1, by omega⟩
      have e1 := body_text_eq y0 m (by omega) (by omega)
      have e2 := rows_eq (fs := fs0) (by omega)
      have e3 := end_eq (y := y0) (by omega)
      have e4 := row_eq (t := []) (by decide)
      have l1 := bodyT_len y0 (by omega)
      have l2 := fieldsT_len fs0
      have l3 := endT_len (y := y0) (by omega)
      have l4 := partT_len (fs := fs0) (y := y0) (by omega)
      refine ⟨?_, by omega⟩
      unfold r_part_text partT
      rw [r_part_text_s]
      unfold f_part_text
      walk_at "kl"
      simp
    · exact part_texts_eq ps n hsz (by omega) fs y h
end
def writT (l : Ltr) : List Nat := l.w ++ ([59, 10] ++ partT l.fs l.b)
theorem writT_len {l : Ltr} (h : l.sz ≤ 700000) : (writT l).length ≤ l.sz + 30 := by
  have h2 : l.w.length + szF l.fs + l.b.sz ≤ 700000 := h
  have := partT_len (fs := l.fs) (y := l.b) (by omega)
  show _ ≤ l.w.length + szF l.fs + l.b.sz + 30
  unfold writT
  simp only [List.length_append, List.length_cons, List.length_nil]
  omega
local macro_rules | `(tactic| walk_at "kl") => `(tactic| simp (disch := walk_at "d") only [lset, kset, kset2, kset5, kset6, kset10, kset11, kset12, kset13, kset14, kset15, kset16, kset17, kset18, kset19, kset20, kset21, kset22, kset23, klaw, Option.bind_some, Option.map_some, Option.bind_none, Option.map_none, List.getElem?_cons_zero, List.getElem?_cons_succ, List.set_cons_zero, List.set_cons_succ, List.cons_append, List.nil_append, List.append_nil, List.length_cons, List.length_nil, List.length_map, List.replicate_zero, List.replicate_succ, Bool.and_true, Bool.true_and, Bool.not_true, Bool.not_false, Bool.false_eq_true, Bool.not_eq_true', decide_eq_true_eq, decide_eq_false_iff_not, Bool.and_eq_true, Bool.or_eq_true, Nat.reduceAdd, Nat.reduceSub, Nat.reduceLeDiff, Nat.reduceLT, Nat.reduceEqDiff, List.take_succ_cons, Bool.or_false, Bool.or_true, Bool.false_or, Bool.true_or, Bool.and_false, Bool.false_and, List.take_zero, List.take_nil, Int.reduceLT, Int.reduceLE, Int.reduceNeg, Int.reduceAdd, Int.reduceSub, Int.reduceMul, Int.reduceEq, Int.reduceToNat, Int.reducePow, and_true, true_and, and_false, false_and, or_true, true_or, or_false, false_or, not_true_eq_false, not_false_eq_true, eq_self, if_true, if_false, ite_self, decide_true, decide_false, ite_not, List.map_cons, List.map_nil, List.cons.injEq, reduceCtorEq, List.isEmpty_cons, Int.natCast_one, Int.cast_ofNat_Int, Int.natCast_zero, Int.toNat_natCast, *])
/-! ### a letter written -/
theorem lt_ix0 (l : Ltr) : dIx l.d (.int 0) = some (.str l.w) := rfl
theorem lt_ix1 (l : Ltr) : dIx l.d (.int 1) = some (fsD l.fs) := rfl
theorem lt_ix2 (l : Ltr) : dIx l.d (.int 2) = some l.b.d := rfl
theorem written_n_eq {b : Bk} {o : D} (ho : r_book_of [o] = some (.tup b.l)) (hd : data o = true) (hv : varK (some o) = some o) (l : Ltr) (hs : l.sz ≤ 700000) (hp : l.b.dp ≤ 38) (hk : keepsB b l = true) : r_written_n [l.d, o] = some (.str (writT l)) := by
  have hs2 : l.w.length + szF l.fs + l.b.sz ≤ 700000 := hs
  have e1 := keeps_eq ho hd hv l (by omega) hp
  rw [hk] at e1
  have e2 := (part_texts_eq [.mk l.fs l.b] 80 (by rw [szs_cons]; simp [Pt.szs]; omega) (by rw [dps_cons]; simp [Pt.dps]; omega) l.fs l.b (List.mem_cons_self ..)).1
  have e3 := row_eq (t := l.w) (by omega)
  have e4 := lt_ix0 l
  have e5 := lt_ix1 l
  have e6 := lt_ix2 l
  have l1 := partT_len (fs := l.fs) (y := l.b) (by omega)
  have d1 := data_lt l
  have v1 := varK_of d1
  unfold r_written_n f_written_n writT
  walk_at "kl"
  simp
/-! ### drawn numbers -/
def drw (c p : Int) : Int := ((c + 7919 * p + 1) * 48271 % 2147483647) * ((c + 7919 * p + 1) * 48271 % 2147483647 / 1009 + 69621) % 2147483647
theorem drawn_eq (c p : Int) : r__law_drawn [.int c, .int p] = some (.int (drw c p)) := by
  unfold r__law_drawn f__law_drawn drw
  have h0 : 0 ≤ (c + 7919 * p + 1) * 48271 % 2147483647 := Int.emod_nonneg _ (by decide)
  have h1 : (c + 7919 * p + 1) * 48271 % 2147483647 < 2147483647 := Int.emod_lt_of_pos _ (by decide)
  walk_at "k"
theorem drw_lt (c p : Int) : 0 ≤ drw c p ∧ drw c p < 2147483647 := ⟨Int.emod_nonneg _ (by decide), Int.emod_lt_of_pos _ (by decide)⟩
local macro_rules | `(tactic| walk_at "kl") => `(tactic| simp (disch := walk_at "d") only [lset, kset30, kset27, kset, kset2, kset5, kset6, kset10, kset11, kset12, kset13, kset14, kset15, kset16, kset17, kset18, kset19, kset20, kset21, kset22, kset23, klaw, Option.bind_some, Option.map_some, Option.bind_none, Option.map_none, List.getElem?_cons_zero, List.getElem?_cons_succ, List.set_cons_zero, List.set_cons_succ, List.cons_append, List.nil_append, List.append_nil, List.length_cons, List.length_nil, List.length_map, List.replicate_zero, List.replicate_succ, Bool.and_true, Bool.true_and, Bool.not_true, Bool.not_false, Bool.false_eq_true, Bool.not_eq_true', decide_eq_true_eq, decide_eq_false_iff_not, Bool.and_eq_true, Bool.or_eq_true, Nat.reduceAdd, Nat.reduceSub, Nat.reduceLeDiff, Nat.reduceLT, Nat.reduceEqDiff, List.take_succ_cons, Bool.or_false, Bool.or_true, Bool.false_or, Bool.true_or, Bool.and_false, Bool.false_and, List.take_zero, List.take_nil, Int.reduceLT, Int.reduceLE, Int.reduceNeg, Int.reduceAdd, Int.reduceSub, Int.reduceMul, Int.reduceEq, Int.reduceToNat, Int.reducePow, and_true, true_and, and_false, false_and, or_true, true_or, or_false, false_or, not_true_eq_false, not_false_eq_true, eq_self, if_true, if_false, ite_self, decide_true, decide_false, ite_not, List.map_cons, List.map_nil, List.cons.injEq, reduceCtorEq, List.isEmpty_cons, Int.natCast_one, Int.cast_ofNat_Int, Int.natCast_zero, Int.toNat_natCast, *])
/-! ### drawn letters -/
theorem dp_non : Bd.dp .non = 0 := by
  rw [Bd.dp]
  intro ps z
  cases z
theorem pin_non : partsIn .non = 0 := by
  rw [partsIn]
  intro ps z
  cases z
theorem dp_len (t : List Nat) : Bd.dp (.len t) = 0 := by
  rw [Bd.dp]
  intro ps z
  cases z
theorem pin_len (t : List Nat) : partsIn (.len t) = 0 := by
  rw [partsIn]
  intro ps z
  cases z
theorem dp_rest (t : List Nat) : Bd.dp (.rest t) = 0 := by
  rw [Bd.dp]
  intro ps z
  cases z
theorem pin_rest (t : List Nat) : partsIn (.rest t) = 0 := by
  rw [partsIn]
  intro ps z
  cases z
theorem dp_pcs (ts : List (List Nat)) (tr : Fs) : Bd.dp (.pcs ts tr) = 0 := by
  rw [Bd.dp]
  intro ps z
  cases z
theorem pin_pcs (ts : List (List Nat)) (tr : Fs) : partsIn (.pcs ts tr) = 0 := by
  rw [partsIn]
  intro ps z
  cases z
theorem flat_signs (T : List Nat) : (T.map fun c => [c]).flatten = T := by
  induction T with
  | nil => rfl
  | cons c T ih => rw [List.map_cons, List.flatten_cons, ih]; rfl
theorem szT_signs (T : List Nat) : szT (T.map fun c => [c]) = 11 * T.length := by
  induction T with
  | nil => rfl
  | cons c T ih =>
    unfold szT at ih ⊢
    rw [List.map_cons, List.map_cons, List.sum_cons, ih]
    show 1 + 10 + 11 * T.length = 11 * (T.length + 1)
    omega
abbrev tx9 : List Nat := [97, 59, 10, 59, 10, 98, 58, 32, 99]
abbrev W4 : List (List Nat) := [[97, 115, 107], [98], [119, 111, 114, 100, 119, 111, 114, 100], [116, 111, 111, 108, 111, 110, 103, 97, 119, 111, 114, 100]]
abbrev F3 : List Fs := [[([116, 111], [98, 111, 98])], [], [([102, 114, 111, 109], [120, 32, 121]), ([116, 111], [122])]]
abbrev B4 (T : List Nat) : List Bd := [.non, .len T, .pcs (T.map fun c => [c]) [], .rest T]
structure SmL (l : Ltr) : Prop where
  w : l.w ∈ W4
  f : l.fs ∈ F3
  b : ∃ n : Nat, l.b ∈ B4 (tx9.take n)
abbrev Bk.small : Bk := ⟨4, 4, 3, 2, 9, 0, 0⟩
theorem tx9_run {b : Bk} (n : Nat) (h : 9 ≤ b.b) : runB (tx9.take n) b.b = true := by
  rw [runB_iff]
  refine ⟨by rw [List.length_take]; show (min n 9 : Nat) ≤ b.b; omega, fun x hx => ?_⟩
  have q : ∀ x ∈ tx9, pln x = true := by decide
  exact q x (List.mem_of_mem_take hx)
theorem sm_sz {l : Ltr} (h : SmL l) : l.sz ≤ 700 ∧ l.b.dp = 0 := by
  have q1 : ∀ w ∈ W4, w.length ≤ 12 := by decide
  have q2 : ∀ f ∈ F3, szF f ≤ 100 := by decide
  have h1 := q1 _ h.w
  have h2 := q2 _ h.f
  obtain ⟨n, hn⟩ := h.b
  have hT : (tx9.take n).length ≤ 9 := by rw [List.length_take]; show (min n 9 : Nat) ≤ 9; omega
  generalize tx9.take n = T at hn hT
  have h3 : l.b.sz ≤ 200 ∧ l.b.dp = 0 := by
    simp only [List.mem_cons, List.not_mem_nil, or_false] at hn
    rcases hn with hn | hn | hn | hn <;> rw [hn]
    · exact ⟨by rw [Bd.sz]; omega, dp_non⟩
    · exact ⟨by rw [sz_len]; omega, dp_len T⟩
    · exact ⟨by rw [sz_pcs, szT_signs]; show 11 * T.length + 0 ≤ 200; omega, dp_pcs _ _⟩
    · exact ⟨by rw [sz_rest]; omega, dp_rest T⟩
  refine ⟨?_, h3.2⟩
  show l.w.length + szF l.fs + l.b.sz ≤ 700
  omega
theorem sm_keeps {l : Ltr} (h : SmL l) {b : Bk} (hb : b = .usual ∨ b = .small) : keepsB b l = decide ((l.w.length : Int) ≤ b.w) := by
  have hw : wordB l.w b.w = decide ((l.w.length : Int) ≤ b.w) := by
    have q : ∀ w ∈ W4, 1 ≤ w.length ∧ w.all sm = true := by decide
    obtain ⟨q1, q2⟩ := q _ h.w
    unfold wordB
    rw [q2, Bool.and_true]
    exact decide_eq_decide.mpr ⟨fun z => z.2, fun z => ⟨by omega, z⟩⟩
  have hf : fsB l.fs b.f b.n b.v = true := by
    have q : ∀ f ∈ F3, fsB f 12 12 40 = true ∧ fsB f 2 4 3 = true := by decide
    have := q _ h.f
    rcases hb with rfl | rfl
    · exact this.1
    · exact this.2
  have hl : (0 : Int) ≤ b.f - l.fs.length := by
    have := (fsB_iff.mp hf).1
    omega
  have h9 : 9 ≤ b.b := by rcases hb with rfl | rfl <;> decide
  have hd : 0 ≤ b.d := by rcases hb with rfl | rfl <;> decide
  have hp : 0 ≤ b.p := by rcases hb with rfl | rfl <;> decide
  obtain ⟨n, hn⟩ := h.b
  have hr := tx9_run (b := b) n h9
  generalize tx9.take n = T at hn hr
  have hB : partsIn l.b = 0 ∧ bodyB b l.b (b.f - l.fs.length) 0 = true := by
    simp only [List.mem_cons, List.not_mem_nil, or_false] at hn
    rcases hn with hn | hn | hn | hn <;> rw [hn]
    · exact ⟨pin_non, by rw [bodyB]⟩
    · exact ⟨pin_len T, by rw [bodyB]; exact hr⟩
    · refine ⟨pin_pcs _ _, bodyB_pcs.mpr ⟨fun t ht => ?_, by rw [flat_signs]; exact hr, fsB_iff.mpr ⟨by show ((0 : Nat) : Int) ≤ _; omega, fun _ z => nomatch z⟩⟩⟩
      obtain ⟨c, _, rfl⟩ := List.mem_map.mp ht
      exact List.cons_ne_nil _ _
    · exact ⟨pin_rest T, by rw [bodyB, hr]; rfl⟩
  unfold keepsB partB
  rw [hw, hB.1, hB.2, hf, decide_eq_true hd, decide_eq_true (show ((0 : Nat) : Int) ≤ b.p from hp)]
  simp
theorem letter_eq (c : Int) : ∃ l : Ltr, r__law_letter [.int c] = some l.d ∧ SmL l := by
  have e := drawn_eq
  have d1 := drw_lt c 1
  have d2 := drw_lt c 2
  have d3 := drw_lt c 3
  have d4 := drw_lt c 4
  obtain ⟨T, hT⟩ : ∃ T, tx9.take (drw c 1 % 10).toNat = T := ⟨_, rfl⟩
  have lT : T.length ≤ 9 := by rw [← hT, List.length_take]; exact Nat.min_le_right _ _
  obtain ⟨y, hy⟩ : ∃ y, y = (B4 T).getD (drw c 2 % 4).toNat .non := ⟨_, rfl⟩
  obtain ⟨f, hf⟩ : ∃ f, f = F3.getD (drw c 3 % 3).toNat [] := ⟨_, rfl⟩
  obtain ⟨w, hw⟩ : ∃ w, w = W4.getD (drw c 4 % 3).toNat [] := ⟨_, rfl⟩
  have gm : ∀ {α : Type} {l : List α} {i : Nat} {d : α}, i < l.length → l.getD i d ∈ l := by
    intro α l i d h
    rw [List.getD_eq_getElem?_getD, List.getElem?_eq_getElem h]
    exact List.getElem_mem _
  refine ⟨⟨w, f, y⟩, ?_, by rw [hw]; exact gm (by show _ < 4; omega), by rw [hf]; exact gm (by show _ < 3; omega), _, by rw [hT, hy]; exact gm (by show _ < 4; omega)⟩
  have e0 : [D.tup [.str noneN], .tup [.str lengthN, .str T], .tup [.str piecesN, .tup (T.map fun c => D.str [c]), .tup []], .tup [.str restN, .str T]] = (B4 T).map Bd.d := by
    simp [bd_non, bd_len, bd_pcs, bd_rest, fsD]
  have hx2 : dIx (.lst [.tup [.str noneN], .tup [.str lengthN, .str T], .tup [.str piecesN, .tup (T.map fun c => D.str [c]), .tup []], .tup [.str restN, .str T]]) (.int (drw c 2 % 4)) = some y.d := by
    rw [e0, dIx_lst, ixAt_map]
    have : drw c 2 % 4 = 0 ∨ drw c 2 % 4 = 1 ∨ drw c 2 % 4 = 2 ∨ drw c 2 % 4 = 3 := by omega
    rcases this with h | h | h | h <;> (rw [h] at hy ⊢; rw [hy]; rfl)
  have hx3 : dIx (.tup [.tup [.tup [.str [116, 111], .str [98, 111, 98]]], .tup [], .tup [.tup [.str [102, 114, 111, 109], .str [120, 32, 121]], .tup [.str [116, 111], .str [122]]]]) (.int (drw c 3 % 3)) = some (fsD f) := by
    have : drw c 3 % 3 = 0 ∨ drw c 3 % 3 = 1 ∨ drw c 3 % 3 = 2 := by omega
    rcases this with h | h | h <;> (rw [h] at hf ⊢; rw [hf]; rfl)
  have hx4 : dIx (.lst [.str [97, 115, 107], .str [98], .str [119, 111, 114, 100, 119, 111, 114, 100]]) (.int (drw c 4 % 3)) = some (.str w) := by
    have : drw c 4 % 3 = 0 ∨ drw c 4 % 3 = 1 ∨ drw c 4 % 3 = 2 := by omega
    rcases this with h | h | h <;> (rw [h] at hw ⊢; rw [hw]; rfl)
  have df := data_fs f
  have db := data_bd y
  have vf := varK_of df
  have vb := varK_of db
  have lk1 : T.length ≤ LIM := lk (by omega)
  have dS : dataL (T.map fun c => D.str [c]) = true := by
    rw [dataL_all, List.all_map, List.all_eq_true]
    exact fun _ _ => rfl
  clear e0 hy hf hw
  show _ = some (D.tup [.str w, fsD f, y.d])
  generalize fsD f = FD at *
  generalize y.d = YD at *
  unfold r__law_letter f__law_letter
  walk_at "kl"
local macro_rules | `(tactic| walk_at "km") => `(tactic| simp (disch := walk_at "d") only [lset, kset30, kset32, kset33, kset, kset2, kset5, kset6, kset10, kset11, kset12, kset13, kset14, kset15, kset16, kset17, kset18, kset19, kset20, kset21, kset22, kset23, klaw, Option.bind_some, Option.map_some, Option.bind_none, Option.map_none, List.getElem?_cons_zero, List.getElem?_cons_succ, List.set_cons_zero, List.set_cons_succ, List.cons_append, List.nil_append, List.append_nil, List.length_cons, List.length_nil, List.length_map, List.replicate_zero, List.replicate_succ, Bool.and_true, Bool.true_and, Bool.not_true, Bool.not_false, Bool.false_eq_true, Bool.not_eq_true', decide_eq_true_eq, decide_eq_false_iff_not, Bool.and_eq_true, Bool.or_eq_true, Nat.reduceAdd, Nat.reduceSub, Nat.reduceLeDiff, Nat.reduceLT, Nat.reduceEqDiff, List.take_succ_cons, Bool.or_false, Bool.or_true, Bool.false_or, Bool.true_or, Bool.and_false, Bool.false_and, List.take_zero, List.take_nil, Int.reduceLT, Int.reduceLE, Int.reduceNeg, Int.reduceAdd, Int.reduceSub, Int.reduceMul, Int.reduceEq, Int.reduceToNat, Int.reducePow, and_true, true_and, and_false, false_and, or_true, true_or, or_false, false_or, not_true_eq_false, not_false_eq_true, eq_self, if_true, if_false, ite_self, decide_true, decide_false, ite_not, List.map_cons, List.map_nil, List.cons.injEq, reduceCtorEq, List.isEmpty_cons, Int.natCast_one, Int.cast_ofNat_Int, Int.natCast_zero, Int.toNat_natCast, *])
/-! ### letters written one behind the other -/
def Bd.tag : Bd → List Nat
  | .non => noneN
  | .len _ => lengthN
  | .rest _ => restN
  | .pcs _ _ => piecesN
  | .parts _ => partsN
theorem tag_ix (y : Bd) : dIx y.d (.int 0) = some (.str y.tag) := by
  cases y
  · rw [bd_non]; rfl
  · rw [bd_len]; rfl
  · rw [bd_rest]; rfl
  · rw [bd_pcs]; rfl
  · rw [bd_parts]; rfl
def restB (l : Ltr) : Bool := decide (l.b.tag = restN)
theorem written_ok {b : Bk} {o : D} (ho : r_book_of [o] = some (.tup b.l)) (hd : data o = true) (hv : varK (some o) = some o) (l : Ltr) (hs : l.sz ≤ 700000) (hp : l.b.dp ≤ 38) (hk : keepsB b l = true) {μ : List D} : r_written [l.d, o] μ = some (.ok (.str (writT l)) [l.d, o] μ) := by
  have hs2 : l.w.length + szF l.fs + l.b.sz ≤ 700000 := hs
  have e1 := keeps_eq ho hd hv l (by omega) hp
  rw [hk] at e1
  have e2 := (part_texts_eq [.mk l.fs l.b] 80 (by rw [szs_cons]; simp [Pt.szs]; omega) (by rw [dps_cons]; simp [Pt.dps]; omega) l.fs l.b (List.mem_cons_self ..)).1
  have e3 := row_eq (t := l.w) (by omega)
  have e4 := lt_ix0 l
  have e5 := lt_ix1 l
  have e6 := lt_ix2 l
  have l1 := partT_len (fs := l.fs) (y := l.b) (by omega)
  have d1 := data_lt l
  have v1 := varK_of d1
  have f1 := fl_of d1
  have u1 := isUn_of d1
  have u2 := isUn_of hd
  have f2 := fl_of hd
  generalize l.d = LD at *
  unfold r_written f_written writT
  walk_at "km"
  simp
theorem written_no {b : Bk} {o : D} (ho : r_book_of [o] = some (.tup b.l)) (hd : data o = true) (hv : varK (some o) = some o) (l : Ltr) (hs : l.sz ≤ 700000) (hp : l.b.dp ≤ 38) (hk : keepsB b l = false) {μ : List D} : r_written [l.d, o] μ = some (.ex "NoLetter" [] [l.d, o] μ) := by
  have e1 := keeps_eq ho hd hv l (by omega) hp
  rw [hk] at e1
  have d1 := data_lt l
  have v1 := varK_of d1
  have f1 := fl_of d1
  have u1 := isUn_of d1
  have u2 := isUn_of hd
  have f2 := fl_of hd
  generalize l.d = LD at *
  unfold r_written f_written
  walk_at "km"
theorem each_eq {b : Bk} {o : D} (ho : r_book_of [o] = some (.tup b.l)) (hd : data o = true) (hv : varK (some o) = some o) (a0 : D) {μ : List D} : ∀ ls : List Ltr, (∀ l ∈ ls, l.sz ≤ 700000 ∧ l.b.dp ≤ 38) → lcR (tgN 2) bYes cx1_written_all [2] [a0, o, .un] μ (ls.map Ltr.d) = if ls.all (keepsB b) = true then some (.ok (.lst (ls.map fun l => .str (writT l))) [a0, o, .un] μ) else some (.ex "NoLetter" [] [a0, o, .un] μ)
  | [], _ => rfl
  | l :: ls, h => by
    have ih := each_eq ho hd hv a0 (μ := μ) ls fun x hx => h x (List.mem_cons_of_mem _ hx)
    obtain ⟨s1, s2⟩ := h l (List.mem_cons_self ..)
    have dl := data_lt l
    have vl := varK_of dl
    have fl1 := fl_of dl
    have u1 := isUn_of dl
    have u2 := isUn_of hd
    have f2 := fl_of hd
    have hg : tgN 2 l.d [a0, o, .un] = some [a0, o, l.d] := by
      unfold tgN
      rw [if_pos dl]
      rfl
    have hc : cx1_written_all [a0, o, l.d] μ = if keepsB b l = true then some (.ok (.str (writT l)) [a0, o, l.d] μ) else some (.ex "NoLetter" [] [a0, o, l.d] μ) := by
      by_cases hk : keepsB b l = true
      · have w := written_ok ho hd hv l s1 s2 hk (μ := μ)
        rw [if_pos hk]
        generalize l.d = LD at *
        unfold cx1_written_all
        walk_at "km"
      · have w := written_no ho hd hv l s1 s2 (Bool.eq_false_iff.mpr hk) (μ := μ)
        rw [if_neg hk]
        generalize l.d = LD at *
        unfold cx1_written_all
        walk_at "km"
    rw [List.map_cons, List.all_cons, List.map_cons]
    by_cases hk : keepsB b l = true
    · rw [if_pos hk] at hc
      rw [hk, Bool.true_and]
      by_cases ha : ls.all (keepsB b) = true
      · rw [if_pos ha] at ih ⊢
        simp [lcR, hg, hc, bYes, data, wipeD, ih, eoCons]
      · rw [if_neg ha] at ih ⊢
        simp [lcR, hg, hc, bYes, data, wipeD, ih, eoCons]
    · rw [if_neg hk] at hc
      rw [Bool.eq_false_iff.mpr hk, Bool.false_and]
      simp [lcR, hg, hc, bYes, wipeD]
theorem rest_loop (a0 o : D) {μ : List D} : ∀ (ls : List Ltr) (x : D), ∃ x', forL (tgN 2) lb1_written_all [a0, o, x] μ (ls.map Ltr.d) = if ls.any restB = true then some (.ex "NoLetter" [] [a0, o, x'] μ) else some (.nx [a0, o, x'] μ)
  | [], x => ⟨x, rfl⟩
  | l :: ls, x => by
    obtain ⟨x', ih⟩ := rest_loop a0 o (μ := μ) ls l.d
    have dl := data_lt l
    have vl := varK_of dl
    have fl1 := fl_of dl
    have u1 := isUn_of dl
    have e6 := lt_ix2 l
    have e7 := tag_ix l.b
    have hg : tgN 2 l.d [a0, o, x] = some [a0, o, l.d] := by
      unfold tgN
      rw [if_pos dl]
      rfl
    have hb : lb1_written_all [a0, o, l.d] μ = if restB l = true then some (.ex "NoLetter" [] [a0, o, l.d] μ) else some (.nx [a0, o, l.d] μ) := by
      unfold restB
      generalize l.d = LD at *
      generalize l.b.d = BD at *
      by_cases h : l.b.tag = restN
      · rw [if_pos (decide_eq_true h)]
        rw [h] at e7
        unfold lb1_written_all
        walk_at "km"
      · rw [if_neg (by rw [decide_eq_false h]; exact Bool.false_ne_true)]
        unfold lb1_written_all
        walk_at "km"
    rw [List.map_cons, List.any_cons]
    by_cases hk : restB l = true
    · rw [if_pos hk] at hb
      refine ⟨l.d, ?_⟩
      rw [hk, Bool.true_or, if_pos rfl, forL_cons, hg]
      show turnK _ _ _ (lb1_written_all [a0, o, l.d] μ) = _
      rw [hb]
      rfl
    · rw [if_neg hk] at hb
      refine ⟨x', ?_⟩
      rw [Bool.eq_false_iff.mpr hk, Bool.false_or, ← ih]
      exact forL_turn hg hb
def allB (b : Bk) (ls : List Ltr) : Bool := !((ls.take (ls.length - 1)).any restB) && ls.all (keepsB b)
theorem flat_len (ls : List Ltr) (h : ∀ l ∈ ls, l.sz ≤ 700) : ((ls.map writT).flatten).length ≤ 730 * ls.length := by
  induction ls with
  | nil => exact Nat.le_refl _
  | cons l ls ih =>
    have h1 := ih fun y hy => h y (List.mem_cons_of_mem _ hy)
    have h2 := h l (List.mem_cons_self ..)
    have h3 := writT_len (l := l) (by omega)
    rw [List.map_cons, List.flatten_cons, List.length_append, List.length_cons]
    omega
theorem all_eq {b : Bk} {o : D} (ho : r_book_of [o] = some (.tup b.l)) (hd : data o = true) (hv : varK (some o) = some o) (ls : List Ltr) (hs : ∀ l ∈ ls, l.sz ≤ 700 ∧ l.b.dp = 0) (hn : ls.length ≤ 30) {μ : List D} : r_written_all [.lst (ls.map Ltr.d), o] μ = if allB b ls = true then some (.ok (.str (ls.map writT).flatten) [.lst (ls.map Ltr.d), o] μ) else some (.ex "NoLetter" [] [.lst (ls.map Ltr.d), o] μ) := by
  have e1 := each_eq ho hd hv (.lst (ls.map Ltr.d)) (μ := μ) ls fun l hl => by
    obtain ⟨h1, h2⟩ := hs l hl
    omega
  obtain ⟨x', e2⟩ := rest_loop (.lst (ls.map Ltr.d)) o (μ := μ) (ls.take (ls.length - 1)) .un
  rw [List.map_take] at e2
  have f1 := flat_len ls fun l hl => (hs l hl).1
  have j1 := join_lst (f := writT) (l := ls) (by omega)
  have dd : dataL (ls.map Ltr.d) = true := by
    rw [dataL_all, List.all_map, List.all_eq_true]
    exact fun l _ => data_lt l
  have ll : (ls.map Ltr.d).length = ls.length := List.length_map ..
  have u2 := isUn_of hd
  have f2 := fl_of hd
  have dw : dataL (ls.map fun l => D.str (writT l)) = true := by
    rw [dataL_all, List.all_map, List.all_eq_true]
    exact fun l _ => rfl
  unfold allB
  generalize (ls.map fun l => D.str (writT l)) = WS at *
  generalize ls.map Ltr.d = LS at *
  by_cases hr : (ls.take (ls.length - 1)).any restB = true
  · rw [if_pos hr] at e2
    rw [hr, if_neg (by simp)]
    unfold r_written_all f_written_all
    walk_at "km"
  · rw [if_neg hr] at e2
    rw [Bool.eq_false_iff.mpr hr]
    by_cases ha : ls.all (keepsB b) = true
    · rw [if_pos ha] at e1
      rw [ha, if_pos (by simp)]
      unfold r_written_all f_written_all
      walk_at "km"
    · rw [if_neg ha] at e1
      rw [Bool.eq_false_iff.mpr ha, if_neg (by simp)]
      unfold r_written_all f_written_all
      walk_at "km"
local macro_rules | `(tactic| walk_at "kn") => `(tactic| simp (disch := walk_at "d") only [lset, kset30, kset27, kset, kset2, kset5, kset6, kset10, kset11, kset12, kset13, kset14, kset15, kset16, kset17, kset18, kset19, kset20, kset21, kset22, kset23, klaw, Option.bind_some, Option.map_some, Option.bind_none, Option.map_none, List.getElem?_cons_zero, List.getElem?_cons_succ, List.set_cons_zero, List.set_cons_succ, List.cons_append, List.nil_append, List.append_nil, List.length_cons, List.length_nil, List.length_map, List.replicate_zero, List.replicate_succ, Bool.and_true, Bool.true_and, Bool.not_true, Bool.not_false, Bool.false_eq_true, Bool.not_eq_true', decide_eq_true_eq, decide_eq_false_iff_not, Bool.and_eq_true, Bool.or_eq_true, Nat.reduceAdd, Nat.reduceSub, Nat.reduceLeDiff, Nat.reduceLT, Nat.reduceEqDiff, List.take_succ_cons, Bool.or_false, Bool.or_true, Bool.false_or, Bool.true_or, Bool.and_false, Bool.false_and, List.take_zero, List.take_nil, Int.reduceLT, Int.reduceLE, Int.reduceNeg, Int.reduceAdd, Int.reduceSub, Int.reduceMul, Int.reduceEq, Int.reduceToNat, Int.reducePow, and_true, true_and, and_false, false_and, or_true, true_or, or_false, false_or, not_true_eq_false, not_false_eq_true, eq_self, if_true, if_false, ite_self, decide_true, decide_false, ite_not, List.map_cons, List.map_nil, List.cons.injEq, reduceCtorEq, List.isEmpty_cons, Int.natCast_one, Int.cast_ofNat_Int, Int.natCast_zero, Int.toNat_natCast, *])
/-! ### the law: what it looks for behind each cell -/
def tl_law : FS :=
    (fSeq (fSet 5 (q2 dIx (qN (aData (aCons (qC .non) (aCons (qTup (aCons (qC (.int 8)) (aCons (qC (.int 12)) (aCons (qC (.int 40)) (aCons (qC (.int 12)) (aCons (qC (.int 400)) (aCons (qC (.int 12)) (aCons (qC (.int 6)) (aNil))))))))) (aCons (qTup (aCons (qC (.int 4)) (aCons (qC (.int 4)) (aCons (qC (.int 3)) (aCons (qC (.int 2)) (aCons (qC (.int 9)) (aCons (qC (.int 0)) (aCons (qC (.int 0)) (aNil))))))))) (aNil)))))) (q2 dMod (qRun 2 [] r__law_drawn (aCons (qVar 2) (aCons (qC (.int 7)) (aNil)))) (qC (.int 3)))))
    (fSeq (fPf 6 (fSetN 6 (qLc (aQ (qVar 1)) (tgN 10) [10] (ct1_law) (qVar 10))))
    (fSeq (fPf 7 (fSetN 7 (qLc (aQ (qSl (qVar 1) oNone (oSome (q1 dNeg (qC (.int 1)))))) (tgN 10) [10] (ct2_law) (qVar 10))))
    (fSeq (fSet 8 (qC .non))
    (fSeq (fIf (bAnd (qB (q2 dEq (qCall (o1 dLen) (aCons (qVar 6) (aNil))) (qCall (o1 dLen) (aCons (qVar 1) (aNil))))) (qB (q2 dEq (qVar 7) (qN (aData (aNil)))))) (fSet 8 (qM1 oJoin (qC (.str (ofS ""))) (qN (qLc (aQ (qVar 1)) (tgN 10) [10] (bYes) (ce1_law))))) (fNext))
    (fSeq (fSet 9 (qN (qListOf (qVar 1))))
    (fSeq (fIf (bOr (qB (q2 dNe (qRunF 2 [] r__law_many (aCons (qVar 9) (aCons (qVar 5) (aNil)))) (qVar 8))) (qB (q2 dNe (qVar 9) (qVar 1)))) (fRet (qC (.bl false))) (fNext))
    (fIf (bAnd (qB (q2 dIs (qVar 5) (qC .non))) (bAnd (qB (q2 dIsNot (qVar 8) (qC .non))) (qB (q2 dNe (qRun 2 [.non] r_written_all_n (aCons (qVar 9) (aNil))) (qVar 8))))) (fRet (qC (.bl false))) (fNext)))))))))
theorem lb1_split : lb1_law =
  fWp [2, 3, 4, 5, 6, 7, 8, 9] (fSeq (fSet 3 (qRun 1 [] r__law_letter (aCons (qVar 2) (aNil))))
    (fSeq (fSet 4 (q2 dMod (qRun 2 [] r__law_drawn (aCons (qVar 2) (aCons (qC (.int 5)) (aNil)))) (qC (.int 8))))
    (fSeq (fIf (qB (q2 dEq (qVar 4) (qC (.int 1)))) (fSet 3 (qTup (aCons (qC (.str (ofS "toolongaword"))) (aCons (q2 dIx (qVar 3) (qC (.int 1))) (aCons (q2 dIx (qVar 3) (qC (.int 2))) (aNil)))))) (fNext))
    (fSeq (fApp 1 (qVar 3))
    (fSeq (fIf (bAnd (qB (q2 dEq (q2 dIx (q2 dIx (qVar 3) (qC (.int 2))) (qC (.int 0))) (qC (.str (ofS "rest"))))) (qB (q2 dEq (q2 dMod (qRun 2 [] r__law_drawn (aCons (qVar 2) (aCons (qC (.int 6)) (aNil)))) (qC (.int 2))) (qC (.int 0))))) (fSetN 1 (aSl (qVar 1) (oSome (q1 dNeg (qC (.int 3)))) oNone)) (fNext))
    (fSeq (fIf (qB (q2 dEq (qVar 4) (qC (.int 2)))) (fSetN 1 (aData (aNil))) (fNext))
    tl_law)))))) := rfl
theorem all_n_eq {b : Bk} {o : D} (ho : r_book_of [o] = some (.tup b.l)) (hd : data o = true) (hv : varK (some o) = some o) (ls : List Ltr) (hs : ∀ l ∈ ls, l.sz ≤ 700 ∧ l.b.dp = 0) (hn : ls.length ≤ 30) (ha : allB b ls = true) : r_written_all_n [.lst (ls.map Ltr.d), o] = some (.str (ls.map writT).flatten) := by
  unfold allB at ha
  rw [Bool.and_eq_true, Bool.not_eq_true'] at ha
  obtain ⟨a1, a2⟩ := ha
  have dd : dataL (ls.map Ltr.d) = true := by
    rw [dataL_all, List.all_map, List.all_eq_true]
    exact fun l _ => data_lt l
  have ll : (ls.map Ltr.d).length = ls.length := List.length_map ..
  have u2 := isUn_of hd
  have f2 := fl_of hd
  have lc : ∀ a0 : D, lcL (tgN 2) bYes ce1_written_all_n [a0, o, .un] [] (ls.map Ltr.d) = some (ls.map fun l => D.str (writT l)) := by
    intro a0
    refine lc_all Ltr.d (fun l => D.str (writT l)) ls fun l hl => ⟨[a0, o, l.d], ?_, ?_, rfl⟩
    · unfold tgN
      rw [if_pos (data_lt l)]
      rfl
    · have w := written_n_eq ho hd hv l (by have := hs l hl; omega) (by have := hs l hl; omega) (List.all_eq_true.mp a2 l hl)
      have dl := data_lt l
      have vl := varK_of dl
      unfold ce1_written_all_n
      walk_at "kn"
  have lp : ∀ (ks : List Ltr) (a0 x : D), (∀ l ∈ ks, restB l = false) → ∃ x', forL (tgN 2) lb1_written_all_n [a0, o, x] [] (ks.map Ltr.d) = some (.nx [a0, o, x'] []) := by
    intro ks
    induction ks with
    | nil => exact fun a0 x _ => ⟨x, rfl⟩
    | cons l ks ih =>
      intro a0 x hk
      obtain ⟨x', h⟩ := ih a0 l.d fun y hy => hk y (List.mem_cons_of_mem _ hy)
      refine ⟨x', ?_⟩
      have hr := hk l (List.mem_cons_self ..)
      have dl := data_lt l
      have vl := varK_of dl
      have e6 := lt_ix2 l
      have e7 := tag_ix l.b
      have hg : tgN 2 l.d [a0, o, x] = some [a0, o, l.d] := by
        unfold tgN
        rw [if_pos dl]
        rfl
      have hb : lb1_written_all_n [a0, o, l.d] [] = some (.nx [a0, o, l.d] []) := by
        unfold restB at hr
        have hr := of_decide_eq_false hr
        generalize l.d = LD at *
        generalize l.b.d = BD at *
        unfold lb1_written_all_n
        walk_at "kn"
      rw [List.map_cons]
      exact (forL_turn hg hb).trans h
  obtain ⟨x', e2⟩ := lp (ls.take (ls.length - 1)) (.lst (ls.map Ltr.d)) .un fun l hl => by
    have := List.any_eq_false.mp a1 l hl
    exact Bool.eq_false_iff.mpr this
  rw [List.map_take] at e2
  have f1 := flat_len ls fun l hl => (hs l hl).1
  have j1 := join_lst (f := writT) (l := ls) (by omega)
  have dw : dataL (ls.map fun l => D.str (writT l)) = true := by
    rw [dataL_all, List.all_map, List.all_eq_true]
    exact fun l _ => rfl
  have lw : (ls.map fun l => D.str (writT l)).length = ls.length := List.length_map ..
  have e1 := lc (.lst (ls.map Ltr.d))
  generalize (ls.map fun l => D.str (writT l)) = WS at *
  generalize ls.map Ltr.d = LS at *
  unfold r_written_all_n f_written_all_n
  walk_at "kn"
theorem many_eq {b : Bk} {o : D} (ho : r_book_of [o] = some (.tup b.l)) (hd : data o = true) (hv : varK (some o) = some o) (ls : List Ltr) (hs : ∀ l ∈ ls, l.sz ≤ 700 ∧ l.b.dp = 0) (hn : ls.length ≤ 30) {μ : List D} : r__law_many [.lst (ls.map Ltr.d), o] μ = some (if allB b ls = true then .str (ls.map writT).flatten else .non) := by
  have e1 := all_eq ho hd hv ls hs hn (μ := μ)
  have dd : dataL (ls.map Ltr.d) = true := by
    rw [dataL_all, List.all_map, List.all_eq_true]
    exact fun l _ => data_lt l
  have u2 := isUn_of hd
  have f2 := fl_of hd
  generalize ls.map Ltr.d = LS at *
  by_cases ha : allB b ls = true
  · rw [if_pos ha] at e1 ⊢
    unfold r__law_many f__law_many tb1__law_many tj1__law_many
    walk_at "kn"
  · rw [if_neg ha] at e1 ⊢
    unfold r__law_many f__law_many tb1__law_many tj1__law_many
    walk_at "kn"
def BkO (o : D) (b : Bk) : Prop := (o = .non ∧ b = .usual) ∨ (o = .tup b.l ∧ (b = .usual ∨ b = .small))
theorem bko (o : D) (b : Bk) (h : BkO o b) : r_book_of [o] = some (.tup b.l) ∧ data o = true ∧ varK (some o) = some o ∧ (b = .usual ∨ b = .small) := by
  rcases h with ⟨rfl, rfl⟩ | ⟨rfl, h⟩
  · exact ⟨book_of_non, rfl, rfl, .inl rfl⟩
  · exact ⟨book_of_eq b, rfl, rfl, h⟩
theorem lt_word (l : Ltr) (h : SmL l) : l.w.length ≤ 1000 := by
  have q1 : ∀ w ∈ W4, w.length ≤ 12 := by decide
  have := q1 _ h.w
  omega
theorem ct1_eq {o : D} {b : Bk} (h : BkO o b) (l : Ltr) (hl : SmL l) (a0 a1 a2 a3 a4 a6 a7 a8 a9 : D) {μ : List D} : ct1_law [a0, a1, a2, a3, a4, o, a6, a7, a8, a9, l.d] μ = some (keepsB b l) := by
  obtain ⟨_, _, _, hb⟩ := bko o b h
  rw [sm_keeps hl hb]
  have vl := varK_of (data_lt l)
  have e4 := lt_ix0 l
  have lw := lt_word l hl
  generalize l.d = LD at *
  rcases h with ⟨rfl, rfl⟩ | ⟨rfl, rfl | rfl⟩
  · have hw : Bk.usual.w = 8 := rfl
    rw [hw]
    unfold ct1_law
    walk_at "kn"
  · have hw : Bk.usual.w = 8 := rfl
    rw [hw]
    unfold ct1_law
    walk_at "kn"
    rw [Bool.and_self]
  · have hw : Bk.small.w = 4 := rfl
    rw [hw]
    unfold ct1_law
    walk_at "kn"
    rw [← Bool.decide_and]
    exact congrArg some (decide_eq_decide.mpr (by omega))
theorem ct2_eq (l : Ltr) (a0 a1 a2 a3 a4 a5 a6 a7 a8 a9 : D) {μ : List D} : ct2_law [a0, a1, a2, a3, a4, a5, a6, a7, a8, a9, l.d] μ = some (restB l) := by
  have vl := varK_of (data_lt l)
  have e6 := lt_ix2 l
  have e7 := tag_ix l.b
  unfold restB
  generalize l.d = LD at *
  generalize l.b.d = BD at *
  unfold ct2_law
  walk_at "kn"
theorem dSl_mlK {ds : List D} {lo hi : Option Int} (h : dataL ds = true) : dSl (.ml ds) lo hi = some (.lst (cut ds lo hi)) := by
  show (asL (.ml ds)).map _ = _
  rw [asL_ml h]
  rfl
theorem pl_sm {l : Ltr} (h : SmL l) : pl 49 l.d = true := by
  have q1 : ∀ w ∈ W4, cok w = true := by decide +kernel
  have q2 : ∀ f ∈ F3, pl 48 (fsD f) = true := by decide +kernel
  have q3 : ∀ y : Bd, (∃ n : Nat, y ∈ B4 (tx9.take n)) → pl 48 y.d = true := by
    rintro y ⟨n, hn⟩
    have hT : cok (tx9.take n) = true := cok_of fun c hc => by
      have q : ∀ c ∈ tx9, c < 1114112 := by decide
      exact q c (List.mem_of_mem_take hc)
    have hS : plL 46 ((tx9.take n).map fun c => D.str [c]) = true := plL_map fun c hc => by
      rw [pl_str]
      refine cok_of fun x hx => ?_
      rw [List.mem_singleton.mp hx]
      have q : ∀ c ∈ tx9, c < 1114112 := by decide
      exact q c (List.mem_of_mem_take hc)
    generalize tx9.take n = T at hn hT hS
    simp only [List.mem_cons, List.not_mem_nil, or_false] at hn
    rcases hn with rfl | rfl | rfl | rfl
    · rw [bd_non]; rfl
    · rw [bd_len, pl_tup, plL_cons, plL_cons, plL_nil, pl_str, pl_str, hT]; rfl
    · rw [bd_pcs, pl_tup, plL_cons, plL_cons, plL_cons, plL_nil, pl_str, pl_tup, List.map_map]
      have : plL 46 (T.map (D.str ∘ fun c => [c])) = true := hS
      rw [this]
      rfl
    · rw [bd_rest, pl_tup, plL_cons, plL_cons, plL_nil, pl_str, pl_str, hT]; rfl
  show pl 49 (.tup [.str l.w, fsD l.fs, l.b.d]) = true
  rw [pl_tup, plL_cons, plL_cons, plL_cons, plL_nil, pl_str, q1 _ h.w, q2 _ h.f, q3 _ h.b]
  rfl
theorem dNe_lmK {x y : List D} (hx : pl 50 (.lst x) = true) (hy : pl 50 (.lst y) = true) : dNe (.lst x) (.ml y) = some (.bl (!eqT (.lst x) (.lst y))) := dNe_lstK hx hy
local macro_rules | `(tactic| walk_at "ko") => `(tactic| simp (disch := walk_at "d") only [lset, kset30, kset27, dSl_mlK, eqT_self, dNe_lmK, kset, kset2, kset5, kset6, kset10, kset11, kset12, kset13, kset14, kset15, kset16, kset17, kset18, kset19, kset20, kset21, kset22, kset23, klaw, Option.bind_some, Option.map_some, Option.bind_none, Option.map_none, List.getElem?_cons_zero, List.getElem?_cons_succ, List.set_cons_zero, List.set_cons_succ, List.cons_append, List.nil_append, List.append_nil, List.length_cons, List.length_nil, List.length_map, List.replicate_zero, List.replicate_succ, Bool.and_true, Bool.true_and, Bool.not_true, Bool.not_false, Bool.false_eq_true, Bool.not_eq_true', decide_eq_true_eq, decide_eq_false_iff_not, Bool.and_eq_true, Bool.or_eq_true, Nat.reduceAdd, Nat.reduceSub, Nat.reduceLeDiff, Nat.reduceLT, Nat.reduceEqDiff, List.take_succ_cons, Bool.or_false, Bool.or_true, Bool.false_or, Bool.true_or, Bool.and_false, Bool.false_and, List.take_zero, List.take_nil, Int.reduceLT, Int.reduceLE, Int.reduceNeg, Int.reduceAdd, Int.reduceSub, Int.reduceMul, Int.reduceEq, Int.reduceToNat, Int.reducePow, and_true, true_and, and_false, false_and, or_true, true_or, or_false, false_or, not_true_eq_false, not_false_eq_true, eq_self, if_true, if_false, ite_self, decide_true, decide_false, ite_not, List.map_cons, List.map_nil, List.cons.injEq, reduceCtorEq, List.isEmpty_cons, Int.natCast_one, Int.cast_ofNat_Int, Int.natCast_zero, Int.toNat_natCast, *])
/-- behind the book -/
theorem tail_eq (ns : List D) (c bad : Int) (ld : D) (ls : List Ltr) (hs : ∀ l ∈ ls, SmL l) (hn : ls.length ≤ 30) {μ : List D} : ∃ x5 x6 x7 x8 x9, tl_law [.lst ns, .ml (ls.map Ltr.d), .int c, ld, .int bad, .un, .un, .un, .un, .un, .un] μ = some (.nx [.lst ns, .ml (ls.map Ltr.d), .int c, ld, .int bad, x5, x6, x7, x8, x9, .un] μ) := by
  have e := drawn_eq
  have d7 := drw_lt c 7
  obtain ⟨o, b, ob, hx⟩ : ∃ o b, BkO o b ∧ dIx (.lst [.non, .tup [.int 8, .int 12, .int 40, .int 12, .int 400, .int 12, .int 6], .tup [.int 4, .int 4, .int 3, .int 2, .int 9, .int 0, .int 0]]) (.int (drw c 7 % 3)) = some o := by
    have : drw c 7 % 3 = 0 ∨ drw c 7 % 3 = 1 ∨ drw c 7 % 3 = 2 := by omega
    rcases this with h | h | h <;> rw [h]
    · exact ⟨.non, .usual, .inl ⟨rfl, rfl⟩, rfl⟩
    · exact ⟨_, .usual, .inr ⟨rfl, .inl rfl⟩, rfl⟩
    · exact ⟨_, .small, .inr ⟨rfl, .inr rfl⟩, rfl⟩
  obtain ⟨ho, hd, hv, hb⟩ := bko o b ob
  have sz : ∀ l ∈ ls, l.sz ≤ 700 ∧ l.b.dp = 0 := fun l hl => sm_sz (hs l hl)
  have dA : ∀ ks : List Ltr, dataL (ks.map Ltr.d) = true := fun ks => by
    rw [dataL_all, List.all_map, List.all_eq_true]
    exact fun l _ => data_lt l
  have tg : ∀ (l : Ltr) (a0 a1 a2 a3 a4 a5 a6 a7 a8 a9 : D), tgN 10 l.d [a0, a1, a2, a3, a4, a5, a6, a7, a8, a9, .un] = some [a0, a1, a2, a3, a4, a5, a6, a7, a8, a9, l.d] := by
    intros
    unfold tgN
    rw [if_pos (data_lt _)]
    rfl
  have lc1 : ∀ a0 a1 a2 a3 a4 a6 a7 a8 a9 : D, lcL (tgN 10) ct1_law (qVar 10) [a0, a1, a2, a3, a4, o, a6, a7, a8, a9, .un] μ (ls.map Ltr.d) = some ((ls.filter (keepsB b)).map Ltr.d) := by
    intro a0 a1 a2 a3 a4 a6 a7 a8 a9
    exact lcL_map Ltr.d (keepsB b) Ltr.d ls fun l hl => ⟨_, tg l .., ct1_eq ob l (hs l hl) .., fun _ => ⟨varK_of (data_lt l), data_lt l⟩⟩
  have lc2 : ∀ a0 a1 a2 a3 a4 a5 a6 a7 a8 a9 : D, lcL (tgN 10) ct2_law (qVar 10) [a0, a1, a2, a3, a4, a5, a6, a7, a8, a9, .un] μ ((ls.take (ls.length - 1)).map Ltr.d) = some (((ls.take (ls.length - 1)).filter restB).map Ltr.d) := by
    intro a0 a1 a2 a3 a4 a5 a6 a7 a8 a9
    exact lcL_map Ltr.d restB Ltr.d (ls.take (ls.length - 1)) fun l hl => ⟨_, tg l .., ct2_eq l .., fun _ => ⟨varK_of (data_lt l), data_lt l⟩⟩
  have lc3 : ls.all (keepsB b) = true → ∀ a0 a1 a2 a3 a4 a6 a7 a8 a9 : D, lcL (tgN 10) bYes ce1_law [a0, a1, a2, a3, a4, o, a6, a7, a8, a9, .un] μ (ls.map Ltr.d) = some (ls.map fun l => D.str (writT l)) := by
    intro a a0 a1 a2 a3 a4 a6 a7 a8 a9
    refine lc_all Ltr.d (fun l => D.str (writT l)) ls fun l hl => ⟨_, tg l .., ?_, rfl⟩
    have w := written_n_eq ho hd hv l (by have := sz l hl; omega) (by have := sz l hl; omega) (List.all_eq_true.mp a l hl)
    have dl := data_lt l
    have vl := varK_of dl
    unfold ce1_law
    walk_at "kn"
  rw [List.map_take] at lc2
  have m1 := fun μ => many_eq ho hd hv ls sz hn (μ := μ)
  have z1 := fzL_data _ (dA ls)
  have nn : dNe .non .non = some (.bl false) := rfl
  have f1 := flat_len ls fun l hl => (sz l hl).1
  have j1 := join_lst (f := writT) (l := ls) (by omega)
  have dw : dataL (ls.map fun l => D.str (writT l)) = true := by
    rw [dataL_all, List.all_map, List.all_eq_true]
    exact fun l _ => rfl
  have lw : (ls.map fun l => D.str (writT l)).length = ls.length := List.length_map ..
  have ll : (ls.map Ltr.d).length = ls.length := List.length_map ..
  have d1 := dA ls
  have d2 := dA (ls.filter (keepsB b))
  have d3 := dA ((ls.take (ls.length - 1)).filter restB)
  have l2 : ((ls.filter (keepsB b)).map Ltr.d).length = (ls.filter (keepsB b)).length := List.length_map ..
  have pA : ∀ ks : List Ltr, (∀ l ∈ ks, SmL l) → pl 50 (.lst (ks.map Ltr.d)) = true := fun ks hk => by
    rw [pl_lst]
    exact plL_map fun l hl => pl_sm (hk l hl)
  have p1 := pA ls hs
  have p2 := pA ((ls.take (ls.length - 1)).filter restB) fun l hl => hs l (List.mem_of_mem_take (List.mem_filter.mp hl).1)
  have p0 : pl 50 (.lst []) = true := rfl
  by_cases ha : ls.all (keepsB b) = true
  · have fa : ls.filter (keepsB b) = ls := List.filter_eq_self.mpr fun l hl => List.all_eq_true.mp ha l hl
    rw [fa] at lc1 l2 d2
    have lc3 := lc3 ha
    by_cases hr : (ls.take (ls.length - 1)).any restB = true
    · have al : allB b ls = false := by
        unfold allB
        rw [hr]
        rfl
      have nr : (ls.take (ls.length - 1)).filter restB ≠ [] := by
        obtain ⟨l, h1, h2⟩ := List.any_eq_true.mp hr
        exact List.ne_nil_of_mem (List.mem_filter.mpr ⟨h1, h2⟩)
      simp only [al, Bool.false_eq_true, if_false] at m1
      have nr2 : eqT (.lst (((ls.take (ls.length - 1)).filter restB).map Ltr.d)) (.lst []) = false := eqT_neg fun z => nr (List.map_eq_nil_iff.mp (D.lst.inj z))
      generalize (ls.map fun l => D.str (writT l)) = WS at *
      generalize ((ls.take (ls.length - 1)).filter restB).map Ltr.d = RS at *
      generalize ls.map Ltr.d = LS at *
      refine ⟨o, .lst LS, .lst RS, .non, .lst LS, ?_⟩
      rcases ob with ⟨rfl, rfl⟩ | ⟨rfl, rfl | rfl⟩
      all_goals
        unfold tl_law
        walk_at "ko"
    · have al : allB b ls = true := by
        unfold allB
        rw [Bool.eq_false_iff.mpr hr, ha]
        rfl
      have nr : (ls.take (ls.length - 1)).filter restB = [] := List.filter_eq_nil_iff.mpr fun l hl z => hr (List.any_eq_true.mpr ⟨l, hl, z⟩)
      rw [nr, List.map_nil] at lc2 p2
      simp only [al, if_true] at m1
      have wn := fun h => all_n_eq (b := .usual) book_of_non rfl rfl ls sz hn h
      have n1 : ∀ J : List Nat, dIsNot (.str J) .non = some (.bl true) := fun _ => rfl
      generalize (ls.map writT).flatten = J at *
      generalize (ls.map fun l => D.str (writT l)) = WS at *
      generalize ls.map Ltr.d = LS at *
      refine ⟨o, .lst LS, .lst [], .str J, .lst LS, ?_⟩
      rcases ob with ⟨rfl, rfl⟩ | ⟨rfl, rfl | rfl⟩
      · have wn := wn al
        unfold tl_law
        walk_at "ko"
      all_goals
        clear wn
        unfold tl_law
        walk_at "ko"
  · have al : allB b ls = false := by
      unfold allB
      rw [Bool.eq_false_iff.mpr ha, Bool.and_false]
    have nl : (ls.filter (keepsB b)).length ≠ ls.length := fun z => ha (List.all_eq_true.mpr (List.filter_eq_self.mp (List.Sublist.eq_of_length (List.filter_sublist) z)))
    simp only [al, Bool.false_eq_true, if_false] at m1
    clear lc3
    generalize (ls.map fun l => D.str (writT l)) = WS at *
    generalize ((ls.take (ls.length - 1)).filter restB).map Ltr.d = RS at *
    generalize (ls.filter (keepsB b)).map Ltr.d = GS at *
    generalize ls.map Ltr.d = LS at *
    refine ⟨o, .lst GS, .lst RS, .non, .lst LS, ?_⟩
    have nl2 : ¬ ((ls.filter (keepsB b)).length : Int) = ls.length := by omega
    rcases ob with ⟨rfl, rfl⟩ | ⟨rfl, rfl | rfl⟩
    all_goals
      unfold tl_law
      walk_at "ko"
theorem slK_mlK {ds : List D} (h : dataL ds = true) (l k : Option Int) : slK (.ml ds) l k = some (cut ds l k) := by
  unfold slK
  rw [asL_ml h]
  rfl
local macro_rules | `(tactic| walk_at "kt") => `(tactic| simp (disch := walk_at "d") only [lset, kset30, kset27, kset28, dSl_mlK, slK_mlK, kset, kset2, kset5, kset6, kset10, kset11, kset12, kset13, kset14, kset15, kset16, kset17, kset18, kset19, kset20, kset21, kset22, kset23, klaw, Option.bind_some, Option.map_some, Option.bind_none, Option.map_none, List.getElem?_cons_zero, List.getElem?_cons_succ, List.set_cons_zero, List.set_cons_succ, List.cons_append, List.nil_append, List.append_nil, List.length_cons, List.length_nil, List.length_map, List.replicate_zero, List.replicate_succ, Bool.and_true, Bool.true_and, Bool.not_true, Bool.not_false, Bool.false_eq_true, Bool.not_eq_true', decide_eq_true_eq, decide_eq_false_iff_not, Bool.and_eq_true, Bool.or_eq_true, Nat.reduceAdd, Nat.reduceSub, Nat.reduceLeDiff, Nat.reduceLT, Nat.reduceEqDiff, List.take_succ_cons, Bool.or_false, Bool.or_true, Bool.false_or, Bool.true_or, Bool.and_false, Bool.false_and, List.take_zero, List.take_nil, Int.reduceLT, Int.reduceLE, Int.reduceNeg, Int.reduceAdd, Int.reduceSub, Int.reduceMul, Int.reduceEq, Int.reduceToNat, Int.reducePow, and_true, true_and, and_false, false_and, or_true, true_or, or_false, false_or, not_true_eq_false, not_false_eq_true, eq_self, if_true, if_false, ite_self, decide_true, decide_false, ite_not, List.map_cons, List.map_nil, List.cons.injEq, reduceCtorEq, List.isEmpty_cons, Int.natCast_one, Int.cast_ofNat_Int, Int.natCast_zero, Int.toNat_natCast, *])
/-- one cell -/
theorem turn_eq (ns : List D) (c : Int) (ls : List Ltr) (hs : ∀ l ∈ ls, SmL l) (hn : ls.length ≤ 29) {μ : List D} : ∃ ls' : List Ltr, lb1_law [.lst ns, .ml (ls.map Ltr.d), .int c, .un, .un, .un, .un, .un, .un, .un, .un] μ = some (.nx [.lst ns, .ml (ls'.map Ltr.d), .un, .un, .un, .un, .un, .un, .un, .un, .un] μ) ∧ (∀ l ∈ ls', SmL l) ∧ ls'.length ≤ ls.length + 1 := by
  have e := drawn_eq
  have d5 := drw_lt c 5
  have d6 := drw_lt c 6
  obtain ⟨l0, e0, s0⟩ := letter_eq c
  have x1 := lt_ix1 l0
  have x2 := lt_ix2 l0
  obtain ⟨l1, hl1⟩ : ∃ l1 : Ltr, l1 = if drw c 5 % 8 = 1 then ⟨[116, 111, 111, 108, 111, 110, 103, 97, 119, 111, 114, 100], l0.fs, l0.b⟩ else l0 := ⟨_, rfl⟩
  have s1 : SmL l1 := by
    rw [hl1]
    split
    · exact ⟨(by decide : [116, 111, 111, 108, 111, 110, 103, 97, 119, 111, 114, 100] ∈ W4), s0.f, s0.b⟩
    · exact s0
  have t1 : drw c 5 % 8 = 1 → D.tup [.str [116, 111, 111, 108, 111, 110, 103, 97, 119, 111, 114, 100], fsD l0.fs, l0.b.d] = l1.d := by
    intro h
    rw [hl1, if_pos h]
    rfl
  have t2 : drw c 5 % 8 ≠ 1 → l0.d = l1.d := by
    intro h
    rw [hl1, if_neg h]
  have y2 := lt_ix2 l1
  have y3 := tag_ix l1.b
  have dl1 := data_lt l1
  have vl1 := varK_of dl1
  have dl0 := data_lt l0
  have vl0 := varK_of dl0
  have df := data_fs l0.fs
  have vf := varK_of df
  have db := data_bd l0.b
  have vb := varK_of db
  have dA : ∀ ks : List Ltr, dataL (ks.map Ltr.d) = true := fun ks => by
    rw [dataL_all, List.all_map, List.all_eq_true]
    exact fun l _ => data_lt l
  have dd := dA ls
  have ll : (ls.map Ltr.d).length = ls.length := List.length_map ..
  obtain ⟨ls', hls⟩ : ∃ ls', ls' = if drw c 5 % 8 = 2 then [] else if l1.b.tag = restN ∧ drw c 6 % 2 = 0 then (ls ++ [l1]).drop (ls.length + 1 - 3) else ls ++ [l1] := ⟨_, rfl⟩
  have sA : ∀ l ∈ ls ++ [l1], SmL l := by
    intro l hl
    rcases List.mem_append.mp hl with hl | hl
    · exact hs l hl
    · rw [List.mem_singleton.mp hl]
      exact s1
  have sL : ∀ l ∈ ls', SmL l := by
    intro l hl
    rw [hls] at hl
    split at hl
    · cases hl
    · split at hl
      · exact sA l (List.mem_of_mem_drop hl)
      · exact sA l hl
  have lL : ls'.length ≤ ls.length + 1 := by
    rw [hls]
    split
    · exact Nat.zero_le _
    · split
      · rw [List.length_drop, List.length_append, List.length_singleton]; omega
      · rw [List.length_append, List.length_singleton]; exact Nat.le_refl _
  obtain ⟨x5, x6, x7, x8, x9, T⟩ := tail_eq ns c (drw c 5 % 8) l1.d ls' sL (by omega) (μ := μ)
  refine ⟨ls', ?_, sL, lL⟩
  have dA1 : dataL (ls.map Ltr.d ++ [l1.d]) = true := by
    have := dA (ls ++ [l1])
    rwa [List.map_append] at this
  have m0 : drw c 5 % 8 = 2 → ls'.map Ltr.d = [] := fun h => by rw [hls, if_pos h]; rfl
  have m1 : drw c 5 % 8 ≠ 2 → l1.b.tag = restN → drw c 6 % 2 = 0 → ls'.map Ltr.d = (ls.map Ltr.d ++ [l1.d]).drop (ls.length + 1 - 3) := fun h h1 h2 => by
    rw [hls, if_neg h, if_pos ⟨h1, h2⟩, List.map_drop, List.map_append]
    rfl
  have m2 : drw c 5 % 8 ≠ 2 → ¬ (l1.b.tag = restN ∧ drw c 6 % 2 = 0) → ls'.map Ltr.d = ls.map Ltr.d ++ [l1.d] := fun h h1 => by
    rw [hls, if_neg h, if_neg h1, List.map_append]
    rfl
  clear hls hl1 sL lL sA s0 s1 hs dA
  have lA : (ls.map Ltr.d ++ [l1.d]).length = ls.length + 1 := by rw [List.length_append, ll]; rfl
  generalize ls'.map Ltr.d = LS' at *
  generalize ls.map Ltr.d = LS at *
  generalize l1.b.d = B1 at *
  generalize l1.d = LD1 at *
  generalize l0.b.d = B0 at *
  generalize l0.d = LD0 at *
  generalize fsD l0.fs = F0 at *
  obtain ⟨bad, hbad⟩ : ∃ bad, drw c 5 % 8 = bad := ⟨_, rfl⟩
  obtain ⟨q, hq⟩ : ∃ q, drw c 6 % 2 = q := ⟨_, rfl⟩
  rw [hbad] at T t1 t2 m0 m1 m2
  rw [hq] at m1 m2
  have hq2 : q = 0 ∨ q = 1 := by omega
  rw [lb1_split]
  by_cases b1 : bad = 1
  · have t1 := t1 b1
    subst b1
    have m1 := m1 (by decide)
    have m2 := m2 (by decide)
    clear m0 t2
    by_cases r : l1.b.tag = restN
    · have m1 := m1 r
      rcases hq2 with rfl | rfl
      · have m1 := m1 rfl
        rw [r] at y3
        subst m1
        clear m2
        walk_at "kt"
      · have m2 := m2 (fun z => absurd z.2 (by decide))
        rw [r] at y3
        subst m2
        clear m1
        walk_at "kt"
    · have m2 := m2 (fun z => r z.1)
      subst m2
      clear m1
      walk_at "kt"
  · have t2 := t2 b1
    subst t2
    clear t1 x1 x2
    by_cases b2 : bad = 2
    · have m3 := m0 b2
      subst b2
      subst m3
      clear m1 m2
      by_cases r : l1.b.tag = restN
      · rw [r] at y3
        rcases hq2 with rfl | rfl
        · walk_at "kt"
        · walk_at "kt"
      · walk_at "kt"
    · have m1 := m1 b2
      have m2 := m2 b2
      clear m0
      by_cases r : l1.b.tag = restN
      · have m1 := m1 r
        rcases hq2 with rfl | rfl
        · have m1 := m1 rfl
          rw [r] at y3
          subst m1
          clear m2
          walk_at "kt"
        · have m2 := m2 (fun z => absurd z.2 (by decide))
          rw [r] at y3
          subst m2
          clear m1
          walk_at "kt"
      · have m2 := m2 (fun z => r z.1)
        subst m2
        clear m1
        walk_at "kt"
theorem law_true (ns : List Int) (h : ns.length ≤ 63) : r_law [.lst (ns.map D.int)] [] = some (.bl true) := by
  obtain ⟨ls, h1, _⟩ := forL_ex (g := tgN 2) (b := lb1_law) (μ := []) D.int (fun ls : List Ltr => [.lst (ns.map D.int), .ml (ls.map Ltr.d), .un, .un, .un, .un, .un, .un, .un, .un, .un]) (fun ls rest => (∀ l ∈ ls, SmL l) ∧ ls.length + rest.length ≤ 24) (by
    rintro ls c rest ⟨i1, i2⟩
    rw [List.length_cons] at i2
    obtain ⟨ls', t, s, l⟩ := turn_eq (.map D.int ns) c ls i1 (by omega) (μ := [])
    exact ⟨_, ls', rfl, t, s, by omega⟩) (ns.take 24) [] ⟨(fun _ z => nomatch z), by rw [List.length_take]; show 0 + _ ≤ 24; omega⟩
  have dl : dataL (ls.map Ltr.d) = true := by
    rw [dataL_all, List.all_map, List.all_eq_true]
    exact fun l _ => data_lt l
  generalize ls.map Ltr.d = LS at *
  rw [List.map_nil] at h1
  unfold r_law f_law
  walk_at "kt"
end G
namespace G
open PySem PySem.Spec PyProof.Rows L2 Fw
end G
open PySem PySem.W PySem.Calls PyProof.Rows
set_option maxRecDepth 100000 in
set_option maxHeartbeats 0 in
theorem PySem.Challenge.cw_framepost_k14_one_behind_the_other_holds : PySem.Challenge.rw_framepost_k14_one_behind_the_other.Holds := by
  w_on; o_law
  refine HandSHeadRun.head_any (r := OpenLaw.row PySem.Challenge.rw_framepost_k14_one_behind_the_other) (q := view (OpenLaw.row PySem.Challenge.rw_framepost_k14_one_behind_the_other).prog [35]) (H := G.hk) (ob := G.ob) (M := 20000) (loose := G.loose) (d := HandSHeadRun.topDef (OpenLaw.row PySem.Challenge.rw_framepost_k14_one_behind_the_other).prog 35) (kwd := []) G.ob_eq
    (by kernel_rfl) (fun s => by kernel_rfl) G.run (by kernel_rfl) (by kernel_rfl) (by kernel_rfl) (by rfl) (by first | assumption | decide +kernel) (by decide +kernel) ⟨rfl, rfl, rfl, rfl, rfl, by decide +kernel⟩ ?hw ?hc
  case hw => w_witness2
  case hc =>
    refine L2.walk_ofE (l := PySem.Challenge.rw_framepost_k14_one_behind_the_other) (n := 63) (k := 89) (x := "_law_script") (CX := Fw.CXw) rfl (by decide) (by kernel_rfl) ⟨rfl, by decide, by decide⟩ ?F (fun _ _ _ _ z => Fw.cxw_none z)
    intro w mg fa h Y G0 hmg0
    obtain ⟨K, KX, c⟩ := Y
    have hmg : mg ("law" : PySem.Str) = some (.ref fa) := by
      have e : (HandSHeadRun.topDef (OpenLaw.row PySem.Challenge.rw_framepost_k14_one_behind_the_other).prog 35).name = ("law" : PySem.Str) := by kernel_rfl
      rw [← e]
      exact hmg0
    obtain ⟨fd, F⟩ := (G.facts (P := (PySem.Challenge.rw_framepost_k14_one_behind_the_other).prog) (w := w) (base := h) KX G0 c).d_law
    have em := (G.facts (P := (PySem.Challenge.rw_framepost_k14_one_behind_the_other).prog) (w := w) (base := h) KX G0 c).m_law
    rw [hmg] at em
    cases em
    refine ⟨K, fd, Fw.spF K 1 G.r_law, KX, fun s u => L2.FunD.bindsA (ps := ["_law_script"]) F (fun _ _ _ _ _ _ us hl => match us, hl with | [_], _ => rfl) s [u] rfl, fun H a ns hl _ hS => Fw.law_spF hS (G.law_true ns hl), fun base hb hn => ?_⟩
    exact Fw.cx_wide (G.fn_law (G.facts (P := (PySem.Challenge.rw_framepost_k14_one_behind_the_other).prog) (w := w) (base := base) KX G0 c) F)
#print axioms PySem.Challenge.cw_framepost_k14_one_behind_the_other_holds

