import PyProof.Rows.All
import Wide.All
import OpenK.AllK
import Wide.FinOn
import HandS.ForMost
import HandS.ForExc
import HandS.Walk
import HandS.IsInst
import HandS.ExcInit
import HandS.ExcValue
import HandS.DictTup
import HandS.Defaults
import HandS.TupAny
import HandS.Deep
import HandS.Wide
import HandS.WideBits
import HandS.Conv
import KE.KExcIs
import HandS.HeadHook1
import HandS.HeadHook2
import HandS.Head0
import HandS.Head1
import HandS.Head2
import HandS.HeadEnd
import Lean
import PySem.Challenge.RW_campwebs_k99_errors_whole
set_option Elab.async false
set_option linter.all false
-- DL1
set_option maxRecDepth 100000
set_option maxHeartbeats 4000000
/-! DL1: values as data, the relation to the abstract heap, expressions. -/
namespace DL
open PySem PySem.Spec PyProof.Rows L2

/-- a Python value as data -/
inductive D where
  | non | bl (b : Bool) | int (i : Int) | str (x : Str)
  | tup (xs : List D) | lst (xs : List D)
  | dcK (ks : List Key) (xs : List D) | dcT (ks : List (List Key)) (xs : List D)
  | web (n fr fo : D) | exc0 (c : Str) | exc1 (c f : Str) (v : D)
  /-- the n-th thing of the store; an instance that stands there -/
  | ptr (n : Nat) | obj (c : Str) (ks : List Str) (xs : List D)
  /-- the script -/
  | scr (is : List Int)

/-- what is fixed: the written part, the module's names -/
structure Stt where
  K : PySem.W.Frag
  mg : Str → Option Value

def Dic : HO → Prop
  | .dK _ => True
  | .dT _ => True
  | _ => False
/-- the heap H' holds what H holds, dicts perhaps locked -/
def Lr (G H : Hp) : Prop := ∀ a u, G a = some u → H a = some u ∨ (Dic u ∧ ∃ ob, H a = some (.frz ob u))
/-- H holds what G holds, dicts perhaps locked; where G has a mark of the store, H has something -/
def Le (G H : Hp) : Prop := ∀ a u, G a = some u → H a = some u ∨ (Dic u ∧ ∃ ob, H a = some (.frz ob u)) ∨ ∃ n w, u = .own n ∧ H a = some w ∧ ∀ xs, w ≠ .tup xs
theorem Lr.refl (G : Hp) : Lr G G := fun _ _ h => .inl h
theorem Lr.trans {G H I : Hp} (a : Lr G H) (b : Lr H I) : Lr G I := fun c u h => by
  rcases a c u h with h1 | ⟨d, ob, h1⟩
  · exact b c u h1
  · rcases b c _ h1 with h2 | ⟨d2, _⟩
    · exact .inr ⟨d, ob, h2⟩
    · exact d2.elim
theorem Lr.of {G H : Hp} (h : Same G H) : Lr G H := fun a u e => .inl (h a u e)
theorem Lr.same_trans {G H I : Hp} (a : Lr G H) (b : Same H I) : Lr G I := a.trans (.of b)
theorem Le.refl (G : Hp) : Le G G := fun _ _ h => .inl h
theorem Le.of_same {G G2 H : Hp} (g : Same G G2) (l : Le G2 H) : Le G H := fun a u h => l a u (g a u h)
theorem Le.of {G H : Hp} (h : Same G H) : Le G H := fun a u e => .inl (h a u e)
theorem Le.lr {G H I : Hp} (a : Le G H) (b : Lr H I) : Le G I := fun c u h => by
  rcases a c u h with h1 | ⟨d, ob, h1⟩ | ⟨n, w, m, h1, nt⟩
  · rcases b c u h1 with h2 | ⟨d, ob, h2⟩
    · exact .inl h2
    · exact .inr (.inl ⟨d, ob, h2⟩)
  · rcases b c _ h1 with h2 | ⟨d2, _⟩
    · exact .inr (.inl ⟨d, ob, h2⟩)
    · exact d2.elim
  · rcases b c _ h1 with h2 | ⟨_, ob, h2⟩
    · exact .inr (.inr ⟨n, w, m, h2, nt⟩)
    · exact .inr (.inr ⟨n, _, m, h2, fun _ z => nomatch z⟩)
theorem Le.same_trans {G H I : Hp} (a : Le G H) (b : Same H I) : Le G I := a.lr (.of b)
theorem Le.none {G H : Hp} (l : Le G H) {a : Addr} (n : H a = none) : G a = none := by
  cases q : G a with
  | none => rfl
  | some u => rcases l a u q with y | ⟨_, ob, y⟩ | ⟨_, w, _, y, _⟩ <;> rw [n] at y <;> cases y
def Fix : HO → Prop
  | .dK _ => False
  | .dT _ => False
  | .own _ => False
  | _ => True
theorem Le.nd {G H : Hp} (l : Le G H) {a : Addr} {u : HO} (h : G a = some u) (n : Fix u) : H a = some u := by
  rcases l a u h with h | ⟨d, _⟩ | ⟨m, w, e, _⟩
  · exact h
  · cases u <;> first | exact d.elim | exact n.elim
  · subst e; exact n.elim
theorem Le.rd {G H : Hp} (l : Le G H) {a : Addr} {u : HO} (nm : ∀ n, u ≠ .own n) (h : Rd G a u) : Rd H a u := by
  rcases h with h | ⟨o, h⟩
  · rcases l a u h with h | ⟨d, ob, h⟩ | ⟨m, w, e, _⟩
    · exact .inl h
    · exact .inr ⟨ob, h⟩
    · exact (nm m e).elim
  · exact .inr ⟨o, l.nd h True.intro⟩
theorem Le.sqL {K : PySem.W.Frag} {G H : Hp} (l : Le G H) {a : Addr} {xs : List V} (h : SqL K G a xs) : SqL K H a xs := by
  rcases h with h | h
  · exact .inl (l.rd (fun _ z => nomatch z) h)
  · exact .inr h
theorem Le.sqT {K : PySem.W.Frag} {G H : Hp} (l : Le G H) {a : Addr} {xs : List V} (h : SqT K G a xs) : SqT K H a xs := by
  rcases h with h | h
  · exact .inl (l.rd (fun _ z => nomatch z) h)
  · exact .inr h

abbrev webF (vn vr vo vk : V) : List (Str × V) := [("people", vn), ("friends", vr), ("foes", vo), ("kept", vk)]

mutual
/-- the value v is the data d, all its parts standing in G -/
inductive VRel (T : Stt) (G : Hp) : V → D → Prop
  | non : VRel T G .non .non
  | bl (b : Bool) : VRel T G (.bl b) (.bl b)
  | int (i : Int) : VRel T G (.int i) (.int i)
  | str (x : Str) : VRel T G (.str x) (.str x)
  | tup {a : Addr} {vs : List V} {ds : List D} (h : G a = some (.tup vs)) (r : VRels T G vs ds) : VRel T G (.ref a) (.tup ds)
  | lst {a : Addr} {vs : List V} {ds : List D} (h : G a = some (.lst vs)) (r : VRels T G vs ds) : VRel T G (.ref a) (.lst ds)
  | dcK {a : Addr} {kvs : List (Key × V)} {ds : List D} (h : G a = some (.dK kvs)) (r : VRels T G (kvs.map (·.2)) ds) : VRel T G (.ref a) (.dcK (kvs.map (·.1)) ds)
  | dcT {a : Addr} {kvs : List (List Key × V)} {ds : List D} (h : G a = some (.dT kvs)) (r : VRels T G (kvs.map (·.2)) ds) : VRel T G (.ref a) (.dcT (kvs.map (·.1)) ds)
  | web {a C dx : Addr} {vn vr vo vk : V} {n fr fo : D} (c : T.mg "Web" = some (.ref C)) (h : G a = some (.ins C dx (webF vn vr vo vk))) (r1 : VRel T G vn n) (r2 : VRel T G vr fr) (r3 : VRel T G vo fo) : VRel T G (.ref a) (.web n fr fo)
  | exc0 {a C : Addr} {c : Str} (hc : T.mg c = some (.ref C)) (h : G a = some (ExO (.ref C) a)) : VRel T G (.ref a) (.exc0 c)
  | ptr {a : Addr} {n : Nat} (h : G a = some (.own n)) : VRel T G (.ref a) (.ptr n)
  | scr {a : Addr} {is : List Int} (h : SqL T.K G a (is.map V.int)) : VRel T G (.ref a) (.scr is)
  | exc1 {a C d : Addr} {c f : Str} {v : V} {x : D} (hc : T.mg c = some (.ref C)) (h : G a = some (exo a C (some d))) (h2 : G d = some (exd d [(f, v)])) (r : VRel T G v x) : VRel T G (.ref a) (.exc1 c f x)
inductive VRels (T : Stt) (G : Hp) : List V → List D → Prop
  | nil : VRels T G [] []
  | cons {v : V} {vs : List V} {d : D} {ds : List D} (r : VRel T G v d) (rs : VRels T G vs ds) : VRels T G (v :: vs) (d :: ds)
end

mutual
theorem VRel.same {T : Stt} {G G' : Hp} (l : Same G G') : ∀ {v : V} {d : D}, VRel T G v d → VRel T G' v d
  | _, _, .non => .non
  | _, _, .bl b => .bl b
  | _, _, .int i => .int i
  | _, _, .str x => .str x
  | _, _, .tup h r => .tup (l _ _ h) (VRels.same l r)
  | _, _, .lst h r => .lst (l _ _ h) (VRels.same l r)
  | _, _, .dcK h r => .dcK (l _ _ h) (VRels.same l r)
  | _, _, .dcT h r => .dcT (l _ _ h) (VRels.same l r)
  | _, _, .web c h r1 r2 r3 => .web c (l _ _ h) (VRel.same l r1) (VRel.same l r2) (VRel.same l r3)
  | _, _, .exc0 c h => .exc0 c (l _ _ h)
  | _, _, .ptr h => .ptr (l _ _ h)
  | _, _, .scr h => .scr ((Le.of l).sqL h)
  | _, _, .exc1 c h h2 r => .exc1 c (l _ _ h) (l _ _ h2) (VRel.same l r)
theorem VRels.same {T : Stt} {G G' : Hp} (l : Same G G') : ∀ {vs : List V} {ds : List D}, VRels T G vs ds → VRels T G' vs ds
  | _, _, .nil => .nil
  | _, _, .cons r rs => .cons (VRel.same l r) (VRels.same l rs)
end
theorem VRels.length {T : Stt} {G : Hp} : ∀ {vs : List V} {ds : List D}, VRels T G vs ds → vs.length = ds.length
  | _, _, .nil => rfl
  | _, _, .cons _ rs => by simp [VRels.length rs]
theorem VRels.get {T : Stt} {G : Hp} : ∀ {vs : List V} {ds : List D} {i : Nat} {v : V}, VRels T G vs ds → vs[i]? = some v → ∃ d, ds[i]? = some d ∧ VRel T G v d
  | _, _, _, _, .nil, e => by simp at e
  | _, _, 0, _, .cons r _, e => by simp at e; subst e; exact ⟨_, rfl, r⟩
  | _, _, i + 1, v, .cons _ t, e => by
    obtain ⟨u, h1, h2⟩ := VRels.get (i := i) (v := v) t (by simpa using e)
    exact ⟨u, by simpa using h1, h2⟩
theorem VRels.get' {T : Stt} {G : Hp} : ∀ {vs : List V} {ds : List D} {i : Nat} {d : D}, VRels T G vs ds → ds[i]? = some d → ∃ v, vs[i]? = some v ∧ VRel T G v d
  | _, _, _, _, .nil, e => by simp at e
  | _, _, 0, _, .cons r _, e => by simp at e; subst e; exact ⟨_, rfl, r⟩
  | _, _, i + 1, d, .cons _ t, e => by
    obtain ⟨u, h1, h2⟩ := VRels.get' (i := i) (d := d) t (by simpa using e)
    exact ⟨u, by simpa using h1, h2⟩
theorem VRels.append {T : Stt} {G : Hp} : ∀ {xs ys : List V} {us ws : List D}, VRels T G xs us → VRels T G ys ws → VRels T G (xs ++ ys) (us ++ ws)
  | _, _, _, _, .nil, s => s
  | _, _, _, _, .cons r t, s => .cons r (VRels.append t s)
theorem VRels.take {T : Stt} {G : Hp} : ∀ {xs : List V} {us : List D} (n : Nat), VRels T G xs us → VRels T G (xs.take n) (us.take n)
  | _, _, 0, _ => by simp; exact .nil
  | _, _, n + 1, .nil => .nil
  | _, _, n + 1, .cons r t => .cons r (VRels.take n t)
theorem VRels.drop {T : Stt} {G : Hp} : ∀ {xs : List V} {us : List D} (n : Nat), VRels T G xs us → VRels T G (xs.drop n) (us.drop n)
  | _, _, 0, r => r
  | _, _, n + 1, .nil => .nil
  | _, _, n + 1, .cons r t => VRels.drop n t

/-! ### the state -/
inductive Slot where
  | no | val (d : D) | own (d : D) | sto (M : List D)
abbrev Ev := List Slot
abbrev St := L2.St
/-- a container at p that may be written: its parts stand in G -/
def CRel (T : Stt) (G H : Hp) (p : Addr) : D → Prop
  | .lst ds => ∃ vs, H p = some (.lst vs) ∧ VRels T G vs ds
  | .dcK ks ds => ∃ kvs, H p = some (.dK kvs) ∧ kvs.map (·.1) = ks ∧ VRels T G (kvs.map (·.2)) ds
  | .dcT ks ds => ∃ kvs, H p = some (.dT kvs) ∧ kvs.map (·.1) = ks ∧ VRels T G (kvs.map (·.2)) ds
  | _ => False
theorem CRel.same {T : Stt} {G G' H H' : Hp} {p : Addr} (g : Same G G') (h : ∀ u, H p = some u → H' p = some u) : ∀ {d : D}, CRel T G H p d → CRel T G' H' p d
  | .lst _, ⟨vs, e, r⟩ => ⟨vs, h _ e, r.same g⟩
  | .dcK _ _, ⟨vs, e, k, r⟩ => ⟨vs, h _ e, k, r.same g⟩
  | .dcT _ _, ⟨vs, e, k, r⟩ => ⟨vs, h _ e, k, r.same g⟩
/-- what stands at p, for the heap in which it may be read alone -/
theorem CRel.some {T : Stt} {G H : Hp} {p : Addr} : ∀ {d : D}, CRel T G H p d → ∃ u, H p = some u ∧ Mut (some u)
  | .lst _, ⟨vs, e, r⟩ => ⟨_, e, True.intro⟩
  | .dcK _ _, ⟨vs, e, k, r⟩ => ⟨_, e, True.intro⟩
  | .dcT _ _, ⟨vs, e, k, r⟩ => ⟨_, e, True.intro⟩
theorem CRel.frz {T : Stt} {G H : Hp} {p : Addr} (n : G p = Option.none) : ∀ {d : D}, CRel T G H p d → ∃ u, H p = Option.some u ∧ VRel T (upd G p u) (.ref p) d
  | .lst _, ⟨vs, e, r⟩ => ⟨_, e, .lst upd_same (r.same fun a u h => by rw [upd_ne (ne_of_none h n)]; exact h)⟩
  | .dcK _ _, ⟨vs, e, k, r⟩ => ⟨_, e, k ▸ .dcK upd_same (r.same fun a u h => by rw [upd_ne (ne_of_none h n)]; exact h)⟩
  | .dcT _ _, ⟨vs, e, k, r⟩ => ⟨_, e, k ▸ .dcT upd_same (r.same fun a u h => by rw [upd_ne (ne_of_none h n)]; exact h)⟩

def Pin : HO → Prop
  | .lst _ => True
  | .dK _ => True
  | .dT _ => True
  | _ => False
/-- no mark of the store -/
def NM (u : HO) : Prop := ∀ n, u ≠ .own n
/-- what the def's arguments stand in; the heap at its entry, but the store; what is locked by the loops around; whether there is a store -/
structure Bse where
  g : Hp
  h : Hp
  lk : Hp
  pu : Bool
def stoOf (env : Ev) : Option (List D) := match env.getLast? with
  | some (.sto M) => some M
  | _ => none
def setSto (env : Ev) (M : List D) : Ev := env.set (env.length - 1) (.sto M)
/-- a thing of the store at p -/
def MRel (T : Stt) (G H : Hp) (p : Addr) (d : D) : Prop := CRel T G H p d ∨ ∃ c ks xs C dx kvs, d = .obj c ks xs ∧ T.mg c = some (.ref C) ∧ H p = some (.ins C dx kvs) ∧ kvs.map (·.1) = ks ∧ VRels T G (kvs.map (·.2)) xs
theorem MRel.same {T : Stt} {G G' H H' : Hp} {p : Addr} (g : Same G G') (h : ∀ u, H p = some u → H' p = some u) {d : D} (m : MRel T G H p d) : MRel T G' H' p d := by
  rcases m with m | ⟨c, ks, xs, C, dx, kvs, e, m, hp, k, r⟩
  · exact .inl (m.same g h)
  · exact .inr ⟨c, ks, xs, C, dx, kvs, e, m, h _ hp, k, r.same g⟩
theorem MRel.some {T : Stt} {G H : Hp} {p : Addr} {d : D} (m : MRel T G H p d) : ∃ u, H p = Option.some u ∧ Mut (Option.some u) := by
  rcases m with m | ⟨c, ks, xs, C, dx, kvs, e, m, hp, k, r⟩
  · exact m.some
  · exact ⟨_, hp, True.intro⟩
structure StoR (T : Stt) (B : Bse) (G H : Hp) (M : List D) : Prop where
  pu : B.pu = false
  at_ : ∀ (n : Nat) d, M[n]? = some d → ∃ p, G p = some (.own n) ∧ B.h p = none ∧ B.lk p = none ∧ MRel T G H p d
  lt : ∀ (p : Addr) n, G p = some (.own n) → n < M.length
  inj : ∀ (p q : Addr) n, G p = some (.own n) → G q = some (.own n) → p = q
structure StR (T : Stt) (B : Bse) (G H : Hp) (σ : St) (env : Ev) : Prop where
  gh : Le G H
  g0 : Same B.1 G
  h0 : Lr B.2 H
  lk : ∀ a u, B.3 a = some u → H a = some u ∧ True ∧ ((∃ o w, u = .frz o w) ∨ (G a = none ∧ Pin u))
  add : ∀ a u, G a = some u → B.1 a = some u ∨ (B.2 a = none ∧ (B.4 = true → NM u)) ∨ ∃ xs, u = .tup xs
  len : σ.length ≤ env.length
  top : ∀ (i : Nat) s, env[i]? = some s → (σ.length ≤ i ↔ ∃ M, s = .sto M)
  sto : ∀ M, stoOf env = some M → StoR T B G H M
  val : ∀ (i : Nat) d, env[i]? = some (.val d) → ∃ v, σ[i]? = some (some v) ∧ VRel T G v d
  own : ∀ (i : Nat) d, env[i]? = some (.own d) → ∃ p, σ[i]? = some (some (.ref p)) ∧ (B.2 p = none ∧ B.3 p = none) ∧ G p = none ∧ CRel T G H p d
  dis : ∀ (i j : Nat) d e p, env[i]? = some (.own d) → env[j]? = some (.own e) → σ[i]? = some (some (.ref p)) → σ[j]? = some (some (.ref p)) → i = j
/-- G gets something that is no mark -/
theorem StoR.mark {T : Stt} {B : Bse} {G H : Hp} {M : List D} {p : Addr} {u : HO} (S : StoR T B G H M) (hg : G p = none) (nm : NM u) : StoR T B (upd G p u) H M := by
  obtain ⟨s1, s2, s3, s4⟩ := S
  have old : ∀ q n, upd G p u q = some (.own n) → G q = some (.own n) := fun q n e => by
    by_cases z : q = p
    · subst z; rw [upd_same] at e; cases e; exact (nm n rfl).elim
    · rw [upd_ne z] at e; exact e
  refine ⟨s1, fun n d e => ?_, fun q n e => s3 q n (old q n e), fun q r n e1 e2 => s4 q r n (old q n e1) (old r n e2)⟩
  obtain ⟨q, a1, a2, a3, a4⟩ := s2 n d e
  have nq : q ≠ p := fun z => by rw [z, hg] at a1; cases a1
  exact ⟨q, by rw [upd_ne nq]; exact a1, a2, a3, a4.same (fun a w h => by rw [upd_ne (fun z => by rw [z, hg] at h; cases h)]; exact h) fun _ z => z⟩
theorem CRel.nm {T : Stt} {G H : Hp} {p : Addr} {u : HO} : ∀ {d : D}, CRel T G H p d → H p = Option.some u → NM u
  | .lst _, ⟨vs, e, r⟩, h => by rw [e] at h; cases h; exact fun _ z => nomatch z
  | .dcK _ _, ⟨vs, e, k, r⟩, h => by rw [e] at h; cases h; exact fun _ z => nomatch z
  | .dcT _ _, ⟨vs, e, k, r⟩, h => by rw [e] at h; cases h; exact fun _ z => nomatch z
theorem StR.lt {T : Stt} {B : Bse} {G H : Hp} {σ : St} {env : Ev} (S : StR T B G H σ env) {i : Nat} {s : Slot} (e : env[i]? = some s) (n : ∀ M, s ≠ .sto M) : i < σ.length := by
  rcases Nat.lt_or_ge i σ.length with h | h
  · exact h
  · obtain ⟨M, z⟩ := (S.top i s e).mp h
    exact (n M z).elim
/-- a slot that is no store, set to no store -/
theorem sto_set {env : Ev} {i : Nat} {s s' : Slot} (e : env[i]? = some s) (n : ∀ M, s ≠ .sto M) (n' : ∀ M, s' ≠ .sto M) : stoOf (env.set i s') = stoOf env := by
  unfold stoOf
  rw [List.getLast?_eq_getElem?, List.getLast?_eq_getElem?, List.length_set]
  by_cases h : i = env.length - 1
  · subst h
    have hl := (List.getElem?_eq_some_iff.mp e).1
    rw [List.getElem?_set_self hl, e]
    cases s with
    | sto M => exact (n M rfl).elim
    | _ => cases s' with
      | sto M => exact (n' M rfl).elim
      | _ => rfl
  · rw [List.getElem?_set_ne h]
theorem top_set {σ : St} {env : Ev} {i : Nat} {s s' : Slot} (t : ∀ (i : Nat) s, env[i]? = some s → (σ.length ≤ i ↔ ∃ M, s = .sto M)) (e : env[i]? = some s) (n : (∃ M, s = .sto M) ↔ ∃ M, s' = .sto M) :
    ∀ (j : Nat) r, (env.set i s')[j]? = some r → (σ.length ≤ j ↔ ∃ M, r = .sto M) := fun j r h => by
  by_cases z : i = j
  · subst z
    rw [List.getElem?_set_self (List.getElem?_eq_some_iff.mp e).1] at h
    cases h
    exact (t i s e).trans n
  · rw [List.getElem?_set_ne z] at h; exact t j r h
theorem StR.ng {T : Stt} {B : Bse} {G H : Hp} {σ : St} {env : Ev} {p : Addr} (S : StR T B G H σ env) (n : H p = none) : G p = none := S.gh.none n
theorem StR.nl {T : Stt} {B : Bse} {G H : Hp} {σ : St} {env : Ev} {p : Addr} (S : StR T B G H σ env) (n : H p = none) : B.3 p = none := by
  cases q : B.3 p with
  | none => rfl
  | some u => rw [(S.lk p u q).1] at n; cases n
theorem StR.nb {T : Stt} {B : Bse} {G H : Hp} {σ : St} {env : Ev} {p : Addr} (S : StR T B G H σ env) (n : H p = none) : B.2 p = none := by
  cases q : B.2 p with
  | none => rfl
  | some u => rcases S.h0 p u q with y | ⟨_, ob, y⟩ <;> rw [n] at y <;> cases y
/-- what G' has more than G: new things, and tuples -/
abbrev Adds (G H G' : Hp) : Prop := ∀ a u, G' a = some u → G a = some u ∨ (H a = none ∧ NM u) ∨ ∃ xs, u = .tup xs
/-- an operation that reads and makes new things alone -/
theorem StR.ext {T : Stt} {B : Bse} {G H G' H' : Hp} {σ : St} {env : Ev} (S : StR T B G H σ env) (g : Same G G') (gh : Le G' H') (h : Same H H') (ad : Adds G H G') : StR T B G' H' σ env where
  gh := gh
  g0 := S.g0.trans g
  h0 := S.h0.same_trans h
  lk := fun a u e => by
    obtain ⟨x1, x2, x3⟩ := S.lk a u e
    refine ⟨h a u x1, x2, ?_⟩
    rcases x3 with x3 | x3
    · exact .inl x3
    · refine .inr ⟨?_, x3.2⟩
      cases q : G' a with
      | none => rfl
      | some w =>
        rcases ad a w q with z | z | ⟨xs, z⟩
        · rw [x3.1] at z; cases z
        · rw [x1] at z; cases z.1
        · subst z
          have y := h a u x1
          have y2 := gh.nd q True.intro
          rw [y] at y2
          cases y2
          exact x3.2.elim
  add := fun a u e => by
    rcases ad a u e with z | z | z
    · exact S.add a u z
    · exact .inr (.inl ⟨S.nb z.1, fun _ => z.2⟩)
    · exact .inr (.inr z)
  len := S.len
  top := S.top
  sto := fun M e => by
    obtain ⟨s1, s2, s3, s4⟩ := S.sto M e
    have old : ∀ p n, G' p = some (.own n) → G p = some (.own n) := fun p n e => by
      rcases ad p _ e with z | z | ⟨xs, z⟩
      · exact z
      · exact (z.2 n rfl).elim
      · cases z
    refine ⟨s1, fun n d e => ?_, fun p n e => s3 p n (old p n e), fun p q n e1 e2 => s4 p q n (old p n e1) (old q n e2)⟩
    obtain ⟨p, a1, a2, a3, a4⟩ := s2 n d e
    exact ⟨p, g _ _ a1, a2, a3, a4.same g fun u q => h _ _ q⟩
  val := fun i d e => let ⟨v, h1, h2⟩ := S.val i d e; ⟨v, h1, h2.same g⟩
  own := fun i d e => by
    obtain ⟨p, h1, h2, h3, h4⟩ := S.own i d e
    refine ⟨p, h1, h2, ?_, h4.same g fun u q => h _ _ q⟩
    cases q : G' p with
    | none => rfl
    | some u =>
      obtain ⟨w, hw, mw⟩ := h4.some
      rcases ad p u q with z | z | ⟨xs, z⟩
      · rw [h3] at z; cases z
      · rw [hw] at z; cases z.1
      · subst z
        have q1 := h p w hw
        have y := gh.nd q True.intro
        rw [q1] at y; cases y; exact mw.elim
  dis := S.dis
theorem upd_same_none {H : Hp} {p : Addr} {o : HO} (n : H p = none) : Same H (upd H p o) := fun a u h => by rw [upd_ne (ne_of_none h n)]; exact h
/-- one new thing in both -/
theorem StR.new {T : Stt} {B : Bse} {G H : Hp} {σ : St} {env : Ev} {p : Addr} {o : HO} (S : StR T B G H σ env) (n : H p = none) (nm : NM o := by intro _ z; exact nomatch z) : StR T B (upd G p o) (upd H p o) σ env ∧ Same G (upd G p o) := by
  have ng : G p = none := S.gh.none n
  refine ⟨S.ext (upd_same_none ng) (fun a u h => ?_) (upd_same_none n) fun a u h => ?_, upd_same_none ng⟩
  · by_cases e : a = p
    · subst e
      rw [upd_same] at h
      rw [upd_same]
      exact .inl h
    · rw [upd_ne e] at h
      rw [upd_ne e]
      exact S.gh a u h
  · by_cases e : a = p
    · subst e; rw [upd_same] at h; cases h; exact .inr (.inl ⟨n, nm⟩)
    · rw [upd_ne e] at h; exact .inl h
/-- one new thing in the heap alone -/
theorem StR.newH {T : Stt} {B : Bse} {G H : Hp} {σ : St} {env : Ev} {p : Addr} {o : HO} (S : StR T B G H σ env) (n : H p = none) : StR T B G (upd H p o) σ env :=
  S.ext (Same.refl G) (S.gh.same_trans (upd_same_none n)) (upd_same_none n) fun a u h => .inl h

theorem StR.weak {T : Stt} {B B' : Bse} {G H : Hp} {σ : St} {env : Ev} (S : StR T B' G H σ env) (h1 : B'.1 = B.1) (h2 : B'.2 = B.2) (h3 : Same B.3 B'.3) (h4 : B'.4 = B.4) : StR T B G H σ env where
  gh := S.gh
  g0 := h1 ▸ S.g0
  h0 := h2 ▸ S.h0
  lk := fun a u e => S.lk a u (h3 a u e)
  add := fun a u e => h1 ▸ h2 ▸ h4 ▸ S.add a u e
  len := S.len
  top := S.top
  sto := fun M e => by
    obtain ⟨s1, s2, s3, s4⟩ := S.sto M e
    refine ⟨h4 ▸ s1, fun n d e => ?_, s3, s4⟩
    obtain ⟨p, a1, a2, a3, a4⟩ := s2 n d e
    refine ⟨p, a1, h2 ▸ a2, ?_, a4⟩
    cases q : B.3 p with
    | none => rfl
    | some u => have y := h3 p u q; have a3' : B'.3 p = none := a3; rw [a3'] at y; cases y
  val := S.val
  own := fun i d e => by
    obtain ⟨p, a1, a2, a3, a4⟩ := S.own i d e
    refine ⟨p, a1, ⟨h2 ▸ a2.1, ?_⟩, a3, a4⟩
    cases q : B.3 p with
    | none => rfl
    | some u => rw [h3 p u q] at a2; cases a2.2
  dis := S.dis
/-- an expression's value: data, or the own container of a slot -/
inductive EV where
  | dv (d : D) | ow (i : Nat)
def ERel (T : Stt) (G : Hp) (σ : St) (v : V) : EV → Prop
  | .dv d => VRel T G v d
  | .ow i => σ[i]? = some (some v)
def lookP (n : Nat) : Option D → Option D
  | some (.obj _ _ _) => some (.ptr n)
  | some d => some d
  | none => none
def lookM (n : Nat) : Option (List D) → Option D
  | some M => lookP n M[n]?
  | none => some (.ptr n)
def look (env : Ev) : D → Option D
  | .ptr n => lookM n (stoOf env)
  | d => some d
def rd (env : Ev) : EV → Option D
  | .dv d => look env d
  | .ow i => match env[i]? with
    | some (.own d) => some d
    | some (.val d) => some d
    | _ => none
/-- what may be read as d: its parts stand in G, itself in H -/
def ORel (T : Stt) (G H : Hp) (v : V) (d : D) : Prop := VRel T G v d ∨ ∃ p, v = .ref p ∧ CRel T G H p d
theorem ERel.same {T : Stt} {G G' : Hp} {σ : St} {v : V} (g : Same G G') : ∀ {ev : EV}, ERel T G σ v ev → ERel T G' σ v ev
  | .dv _, r => VRel.same g r
  | .ow _, r => r
theorem StR.orel {T : Stt} {B : Bse} {G H : Hp} {σ : St} {env : Ev} {v : V} {d : D} (S : StR T B G H σ env) : ∀ {ev : EV}, ERel T G σ v ev → rd env ev = some d → ORel T G H v d
  | .dv d0, r, e => by
    have r' : VRel T G v d0 := r
    cases d0 with
    | ptr n =>
      unfold rd look at e
      dsimp only at e
      cases hM : stoOf env with
      | none => rw [hM] at e; cases e; exact .inl r'
      | some M =>
        rw [hM] at e
        unfold lookM at e
        dsimp only at e
        obtain ⟨_, s2, _, s4⟩ := S.sto M hM
        cases hd : M[n]? with
        | none => rw [hd] at e; cases e
        | some d1 =>
          rw [hd] at e
          cases r' with
          | ptr h =>
            obtain ⟨p, a1, _, _, a4⟩ := s2 n d1 hd
            obtain rfl := s4 _ _ n h a1
            rcases a4 with a4 | ⟨c, ks, xs, C, dx, kvs, z, _⟩
            · cases d1 with
              | obj _ _ _ => exact a4.elim
              | _ => cases e; exact .inr ⟨_, rfl, a4⟩
            · subst z
              cases e
              exact .inl (.ptr h)
    | _ => cases e; exact .inl r'
  | .ow i, r, e => by
    have r' : σ[i]? = some (some v) := r
    unfold rd at e
    cases q : env[i]? with
    | none => simp [q] at e
    | some sl =>
      cases sl with
      | no => simp [q] at e
      | sto M => simp [q] at e
      | val x =>
        simp only [q, Option.some.injEq] at e
        subst e
        obtain ⟨u, h1, h2⟩ := S.val i _ q
        rw [r'] at h1; cases h1
        exact .inl h2
      | own x =>
        simp only [q, Option.some.injEq] at e
        subst e
        obtain ⟨p, h1, _, _, h2⟩ := S.own i _ q
        rw [r'] at h1; cases h1
        exact .inr ⟨p, rfl, h2⟩
/-- the container of a slot is let go: from now on it is not written -/
def frz (env : Ev) : EV → Option (D × Ev)
  | .dv d => some (d, env)
  | .ow i => match env[i]? with
    | some (.own d) => some (d, env.set i (.val d))
    | some (.val d) => some (d, env)
    | _ => none
theorem StR.frz {T : Stt} {B : Bse} {G H : Hp} {σ : St} {env e' : Ev} {v : V} {d : D} (S : StR T B G H σ env) : ∀ {ev : EV}, ERel T G σ v ev → frz env ev = some (d, e') → ∃ G', StR T B G' H σ e' ∧ Same G G' ∧ VRel T G' v d
  | .dv _, r, e => by cases e; exact ⟨G, S, Same.refl G, r⟩
  | .ow i, r, e => by
    have r' : σ[i]? = some (some v) := r
    unfold DL.frz at e
    cases q : env[i]? with
    | none => simp [q] at e
    | some sl =>
      cases sl with
      | no => simp [q] at e
      | sto M => simp [q] at e
      | val x =>
        simp only [q, Option.some.injEq, Prod.mk.injEq] at e
        obtain ⟨rfl, rfl⟩ := e
        obtain ⟨u, h1, h2⟩ := S.val i _ q
        rw [r'] at h1; cases h1
        exact ⟨G, S, Same.refl G, h2⟩
      | own x =>
        simp only [q, Option.some.injEq, Prod.mk.injEq] at e
        obtain ⟨rfl, rfl⟩ := e
        obtain ⟨p, h1, hb, hg, hc⟩ := S.own i _ q
        rw [r'] at h1; cases h1
        obtain ⟨u, hu, hv⟩ := hc.frz hg
        have sg : Same G (upd G p u) := upd_same_none hg
        have hi : i < env.length := (List.getElem?_eq_some_iff.mp q).1
        have nb3 : ∀ a w, B.3 a = some w → a ≠ p := fun a w e z => by rw [z, hb.2] at e; cases e
        have nm : NM u := hc.nm hu
        refine ⟨upd G p u, ⟨fun a w h => ?_, S.g0.trans sg, S.h0, fun a w e => by obtain ⟨x1, x2, x3⟩ := S.lk a w e; exact ⟨x1, x2, x3.imp id fun x => ⟨by rw [upd_ne (nb3 a w e)]; exact x.1, x.2⟩⟩, fun a w h => ?_, by rw [List.length_set]; exact S.len,
          top_set S.top q ⟨fun ⟨_, z⟩ => (nomatch z), fun ⟨_, z⟩ => (nomatch z)⟩, fun M e => (S.sto M (by rw [← sto_set (s := .own x) (s' := .val x) q (fun _ z => (nomatch z)) (fun _ z => (nomatch z))]; exact e)).mark hg nm, fun j y h => ?_, fun j y h => ?_, fun j k y z b h1 h2 h3 h4 => ?_⟩, sg, hv⟩
        · by_cases e : a = p
          · subst e; rw [upd_same] at h; cases h; exact .inl hu
          · rw [upd_ne e] at h; exact S.gh a w h
        · by_cases e : a = p
          · subst e; rw [upd_same] at h; cases h; exact .inr (.inl ⟨hb.1, fun _ => nm⟩)
          · rw [upd_ne e] at h; exact S.add a w h
        · by_cases e : i = j
          · subst e
            rw [List.getElem?_set_self hi] at h
            cases h
            exact ⟨_, r', hv⟩
          · rw [List.getElem?_set_ne e] at h
            obtain ⟨v2, a1, a2⟩ := S.val j y h
            exact ⟨v2, a1, a2.same sg⟩
        · by_cases e : i = j
          · subst e
            rw [List.getElem?_set_self hi] at h
            cases h
          · rw [List.getElem?_set_ne e] at h
            obtain ⟨p2, a1, a2, a3, a4⟩ := S.own j y h
            have np : p2 ≠ p := fun z => e (S.dis i j _ _ p q h r' (by rw [← z]; exact a1))
            exact ⟨p2, a1, a2, by rw [upd_ne np]; exact a3, a4.same sg fun _ z => z⟩
        · by_cases e1 : i = j
          · subst e1
            rw [List.getElem?_set_self hi] at h1
            cases h1
          · by_cases e2 : i = k
            · subst e2
              rw [List.getElem?_set_self hi] at h2
              cases h2
            · rw [List.getElem?_set_ne e1] at h1
              rw [List.getElem?_set_ne e2] at h2
              exact S.dis j k y z b h1 h2 h3 h4

/-! ### what an expression does -/
inductive Xn where
  | x0 (c : Str) | x1 (c f : Str) (v : D)
def XRel (T : Stt) (G H : Hp) (x : Xn) (cls : Value) (d : Option Addr) : Prop :=
  match x with
  | .x0 c => ∃ C, T.mg c = some (.ref C) ∧ cls = .ref C ∧ d = none
  | .x1 c f y => ∃ C dd v, T.mg c = some (.ref C) ∧ cls = .ref C ∧ d = some dd ∧ H dd = some (.xd [(f, v)]) ∧ VRel T G v y
inductive Out (α : Type) where
  | ok (a : α) (e : Ev) | exc (x : Xn) (e : Ev) | stk
def Out.bind {α β : Type} (o : Out α) (k : α → Ev → Out β) : Out β := match o with
  | .ok a e => k a e
  | .exc x e => .exc x e
  | .stk => .stk
@[simp] theorem Out.bind_ok {α β : Type} (a : α) (e : Ev) (k : α → Ev → Out β) : (Out.ok a e).bind k = k a e := rfl
@[simp] theorem Out.bind_exc {α β : Type} (x : Xn) (e : Ev) (k : α → Ev → Out β) : (Out.exc x e : Out α).bind k = .exc x e := rfl
@[simp] theorem Out.bind_stk {α β : Type} (k : α → Ev → Out β) : (Out.stk : Out α).bind k = .stk := rfl
abbrev FE := Ev → Out EV

/-- the reading of an outcome: ok, exception, never stuck -/
def oE {α : Type} (T : Stt) (B : Bse) (W : WX) (σ : St) (G : Hp) (o : Out α) (R : α → Ev → Hp → Hp → Prop) : Prop := match o with
  | .ok a e' => ∀ G' H', StR T B G' H' σ e' → Same G G' → R a e' G' H'
  | .exc x e' => ∀ cls d G' H', StR T B G' H' σ e' → Same G G' → XRel T G' H' x cls d → W cls d σ H'
  | .stk => False
def tE (T : Stt) (B : Bse) (W : WX) (f : FE) : TE := fun σ H Q => ∃ G env, StR T B G H σ env ∧ oE T B W σ G (f env) fun ev e' G' H' => ∀ v, ERel T G' σ v ev → Q v H'
structure DE (X : Cx) (e : Expr) (f : FE) : Prop where
  run : ∀ (B : Bse) (W : WX), Takes X W → PE X e (tE ⟨X.K, X.mg⟩ B W f)
theorem oE.mono {α : Type} {T : Stt} {B : Bse} {W : WX} {σ : St} {G G2 : Hp} {o : Out α} {R R' : α → Ev → Hp → Hp → Prop} (h : oE T B W σ G o R) (s : Same G G2) (m : ∀ a e' G' H', Same G2 G' → R a e' G' H' → R' a e' G' H') : oE T B W σ G2 o R' := by
  cases o with
  | ok a e' => exact fun G' H' S l => m a e' G' H' l (h G' H' S (s.trans l))
  | exc x e' => exact fun cls d G' H' S l => h cls d G' H' S (s.trans l)
  | stk => exact h
theorem _root_.L2.PE.imp {X : Cx} {e : Expr} {t t' : TE} (h : PE X e t) (w : ∀ σ H Q, t' σ H Q → t σ H Q) : PE X e t' := ⟨fun pins s σ H Q I q => h.run pins s σ H Q I (w σ H Q q)⟩
theorem _root_.L2.PT.imp {X : Cx} {e : Expr} {t t' : TT} (h : PT X e t) (w : ∀ σ H Q, t' σ H Q → t σ H Q) : PT X e t' := ⟨fun pins s σ H Q I q => h.run pins s σ H Q I (w σ H Q q)⟩
theorem _root_.L2.PA.imp {X : Cx} {e : List Expr} {t t' : TA} (h : PA X e t) (w : ∀ σ H Q, t' σ H Q → t σ H Q) : PA X e t' := ⟨fun p pins s σ H Q I q => h.run p pins s σ H Q I (w σ H Q q)⟩
theorem _root_.L2.PS.imp {X : Cx} {e : Stmt} {t t' : TS} (h : PS X e t) (w : ∀ D σ H, t' D σ H → t D σ H) : PS X e t' := ⟨fun pins s σ H D I q => h.run pins s σ H D I (w D σ H q)⟩
theorem _root_.L2.PSs.imp {X : Cx} {e : List Stmt} {t t' : TS} (h : PSs X e t) (w : ∀ D σ H, t' D σ H → t D σ H) : PSs X e t' := ⟨fun pins s σ H D I q => h.run pins s σ H D I (w D σ H q)⟩

/-! ### names, constants -/
def E.var (i : Nat) : FE := fun env => match env[i]? with
  | some (.val d) => .ok (.dv d) env
  | some (.own _) => .ok (.ow i) env
  | _ => .stk
def E.cst (d : D) : FE := fun env => .ok (.dv d) env
section
variable {X : Cx}
theorem tE_var {T : Stt} {B : Bse} {W : WX} {i : Nat} {σ : St} {H : Hp} {Q : VK} (h : tE T B W (E.var i) σ H Q) : tVar i σ H Q := by
  obtain ⟨G, env, S, h⟩ := h
  unfold E.var at h
  cases q : env[i]? with
  | none => simp [q, oE] at h
  | some sl =>
    cases sl with
    | no => simp [q, oE] at h
    | sto M => simp [q, oE] at h
    | val d =>
      simp only [q, oE] at h
      obtain ⟨v, h1, h2⟩ := S.val i d q
      exact ⟨v, h1, h G H S (Same.refl G) v h2⟩
    | own d =>
      simp only [q, oE] at h
      obtain ⟨p, h1, _⟩ := S.own i d q
      exact ⟨_, h1, h G H S (Same.refl G) _ h1⟩
theorem de_var (i : Nat) {x : Str} {pos : Pos} (hN : X.N[i]? = some x := by rfl) (hv : Vis X.env.scope x := by first | exact Or.inl rfl | exact Or.inr (Or.inl rfl) | exact Or.inr (Or.inr rfl)) (hd : (x == ("__debug__" : Str)) = false := by decide)
    (hcd : (x == ("__classdict__" : Str)) = false := by decide) : DE X (.Name x pos) (E.var i) := ⟨fun B W tk => (pe_var hN hv hd hcd).imp fun σ H Q h => tE_var h⟩
theorem de_cst {e : Expr} {v : V} {d : D} (h : PE X e (tC v)) (r : ∀ G, VRel ⟨X.K, X.mg⟩ G v d) : DE X e (E.cst d) := ⟨fun B W tk => h.imp fun σ H Q ⟨G, env, S, h⟩ => h G H S (Same.refl G) v (r G)⟩
theorem de_int {i j pos} : DE X (.Constant (.int i) j pos) (E.cst (.int i)) := de_cst pe_int fun G => .int i
theorem de_bl {b j pos} : DE X (.Constant (.bool b) j pos) (E.cst (.bl b)) := de_cst pe_bl fun G => .bl b
theorem de_non {j pos} : DE X (.Constant .none j pos) (E.cst .non) := de_cst pe_non fun G => .non
theorem de_str {x j pos} : DE X (.Constant (.str x) j pos) (E.cst (.str x)) := de_cst pe_str fun G => .str x
theorem de_gint {x : Str} {i : Int} {t : Tok} {pos : Pos} (hm : X.mg x = some (.int i t)) (hg : Gl X x := by rfl) (hd : (x == ("__debug__" : Str)) = false := by decide) : DE X (.Name x pos) (E.cst (.int i)) := de_cst (v := .int i) (pe_glob hg hm ⟨t, rfl⟩ hd) fun G => .int i
theorem de_gstr {x y : Str} {t : Tok} {pos : Pos} (hm : X.mg x = some (.str y t)) (hg : Gl X x := by rfl) (hd : (x == ("__debug__" : Str)) = false := by decide) : DE X (.Name x pos) (E.cst (.str y)) := de_cst (v := .str y) (pe_glob hg hm ⟨t, rfl⟩ hd) fun G => .str y
end

/-! ### two operands -/
def E.bin (op : D → D → Option D) (f g : FE) : FE := fun env => (f env).bind fun a e1 => (g e1).bind fun b e2 =>
  match rd e2 a, rd e2 b with
  | some x, some y => match op x y with
    | some z => .ok (.dv z) e2
    | none => .stk
  | _, _ => .stk
/-- the reading of an operation on data -/
def rD (T : Stt) (op : D → D → Option D) : R2 := fun x y H Q => ∃ G d e z, Le G H ∧ ORel T G H x d ∧ ORel T G H y e ∧ op d e = some z ∧
  ∀ v G' H', Same G G' → Le G' H' → Same H H' → Adds G H G' → VRel T G' v z → Q v H'
def OpD (X : Cx) (F : Value → Value → Sem Value) (op : D → D → Option D) : Prop := OpR X F (rD ⟨X.K, X.mg⟩ op)
theorem tE_bin {T : Stt} {B : Bse} {W : WX} {op : D → D → Option D} {f g : FE} {σ : St} {H : Hp} {Q : VK} (h : tE T B W (E.bin op f g) σ H Q) : tOp (rD T op) (tE T B W f) (tE T B W g) σ H Q := by
  obtain ⟨G, env, S, h⟩ := h
  refine ⟨G, env, S, ?_⟩
  unfold E.bin at h
  cases q : f env with
  | stk => simp [q, oE] at h
  | exc x e' => simp only [q, Out.bind_exc] at h; exact h
  | ok a e1 =>
    simp only [q, Out.bind_ok] at h
    refine fun G1 H1 S1 l1 v1 r1 => ⟨G1, e1, S1, ?_⟩
    cases q2 : g e1 with
    | stk => simp [q2, oE] at h
    | exc x e' =>
      simp only [q2, Out.bind_exc] at h
      exact fun cls d G' H' S' l' => h cls d G' H' S' (l1.trans l')
    | ok b e2 =>
      simp only [q2, Out.bind_ok] at h
      refine fun G2 H2 S2 l2 v2 r2 => ?_
      cases qa : rd e2 a with
      | none => simp [qa, oE] at h
      | some x =>
        cases qb : rd e2 b with
        | none => simp [qa, qb, oE] at h
        | some y =>
          simp only [qa, qb] at h
          cases qz : op x y with
          | none => simp [qz, oE] at h
          | some z =>
            simp only [qz] at h
            refine ⟨G2, x, y, z, S2.gh, S2.orel (r1.same l2) qa, S2.orel r2 qb, qz, fun v G' H' g gh hh ad rv => ?_⟩
            exact h G' H' (S2.ext g gh hh ad) ((l1.trans l2).trans g) v rv
theorem de_bin {X : Cx} {a b : Expr} {f g : FE} {op : D → D → Option D} {o : Operator} {pos : Pos} (ho : OpD X (binaryOp o) op) (ha : DE X a f) (hb : DE X b g) : DE X (.BinOp a o b pos) (E.bin op f g) :=
  ⟨fun B W tk => (pe_op ho (ha.run B W tk) (hb.run B W tk)).imp fun σ H Q h => tE_bin h⟩
theorem de_cmp {X : Cx} {a b : Expr} {f g : FE} {op : D → D → Option D} {o : CmpOp} {pos : Pos} (ho : OpD X (compareOp o) op) (ha : DE X a f) (hb : DE X b g) (hm : behindInMarks o b = false := by first | exact nobehind _ (by decide) (by decide) | rfl) : DE X (.Compare a [o] [b] pos) (E.bin op f g) :=
  ⟨fun B W tk => (pe_cmpR ho (ha.run B W tk) (hb.run B W tk) hm).imp fun σ H Q h => tE_bin h⟩
end DL
-- DL2
set_option maxRecDepth 100000
set_option maxHeartbeats 4000000
/-! DL2: operations on data. -/
namespace DL
open PySem PySem.Spec PyProof.Rows L2

/-! ### what is read -/
section
variable {T : Stt} {G H : Hp} {v : V}
theorem ORel.non (r : ORel T G H v .non) : v = .non := by
  rcases r with r | ⟨p, _, c⟩
  · cases r; rfl
  · exact c.elim
theorem ORel.bl {b : Bool} (r : ORel T G H v (.bl b)) : v = .bl b := by
  rcases r with r | ⟨p, _, c⟩
  · cases r; rfl
  · exact c.elim
theorem ORel.int {i : Int} (r : ORel T G H v (.int i)) : v = .int i := by
  rcases r with r | ⟨p, _, c⟩
  · cases r; rfl
  · exact c.elim
theorem ORel.str {x : Str} (r : ORel T G H v (.str x)) : v = .str x := by
  rcases r with r | ⟨p, _, c⟩
  · cases r; rfl
  · exact c.elim
theorem ORel.tup {ds : List D} (l : Le G H) (r : ORel T G H v (.tup ds)) : ∃ a vs, v = .ref a ∧ H a = some (.tup vs) ∧ G a = some (.tup vs) ∧ VRels T G vs ds := by
  rcases r with r | ⟨p, _, c⟩
  · cases r with
    | tup h r => exact ⟨_, _, rfl, l.nd h True.intro, h, r⟩
  · exact c.elim
theorem ORel.lst {ds : List D} (l : Le G H) (r : ORel T G H v (.lst ds)) : ∃ a vs, v = .ref a ∧ H a = some (.lst vs) ∧ VRels T G vs ds := by
  rcases r with r | ⟨p, e, c⟩
  · cases r with
    | lst h r => exact ⟨_, _, rfl, l.nd h True.intro, r⟩
  · obtain ⟨vs, h, r⟩ := c
    exact ⟨p, vs, e, h, r⟩
theorem ORel.dcK {ks : List Key} {ds : List D} (l : Le G H) (r : ORel T G H v (.dcK ks ds)) : ∃ a kvs, v = .ref a ∧ Rd H a (.dK kvs) ∧ kvs.map (·.1) = ks ∧ VRels T G (kvs.map (·.2)) ds := by
  rcases r with r | ⟨p, e, c⟩
  · cases r with
    | dcK h r => exact ⟨_, _, rfl, l.rd (fun _ z => nomatch z) (.inl h), rfl, r⟩
  · obtain ⟨kvs, h, k, r⟩ := c
    exact ⟨p, kvs, e, .inl h, k, r⟩
theorem ORel.dcT {ks : List (List Key)} {ds : List D} (l : Le G H) (r : ORel T G H v (.dcT ks ds)) : ∃ a kvs, v = .ref a ∧ Rd H a (.dT kvs) ∧ kvs.map (·.1) = ks ∧ VRels T G (kvs.map (·.2)) ds := by
  rcases r with r | ⟨p, e, c⟩
  · cases r with
    | dcT h r => exact ⟨_, _, rfl, l.rd (fun _ z => nomatch z) (.inl h), rfl, r⟩
  · obtain ⟨kvs, h, k, r⟩ := c
    exact ⟨p, kvs, e, .inl h, k, r⟩
theorem ORel.scr {is : List Int} (l : Le G H) (r : ORel T G H v (.scr is)) : ∃ a, v = .ref a ∧ SqL T.K H a (is.map V.int) := by
  rcases r with r | ⟨p, _, c⟩
  · cases r with
    | scr h => exact ⟨_, rfl, l.sqL h⟩
  · exact c.elim
theorem ints_rel (is : List Int) : VRels T G (is.map V.int) (is.map .int) := by
  induction is with
  | nil => exact .nil
  | cons i is ih => exact .cons (.int i) ih
theorem VRels.ints : ∀ {vs : List V} {is : List Int}, VRels T G vs (is.map .int) → vs = is.map V.int
  | _, [], .nil => rfl
  | _, i :: is, .cons r t => by
    cases r
    rw [VRels.ints t]
    rfl
theorem VRels.bls : ∀ {vs : List V} {is : List Bool}, VRels T G vs (is.map .bl) → vs = is.map V.bl
  | _, [], .nil => rfl
  | _, i :: is, .cons r t => by
    cases r
    rw [VRels.bls t]
    rfl
theorem VRels.strs : ∀ {vs : List V} {is : List Str}, VRels T G vs (is.map .str) → vs = is.map V.str
  | _, [], .nil => rfl
  | _, i :: is, .cons r t => by
    cases r
    rw [VRels.strs t]
    rfl
end

/-! ### plain data -/
mutual
def toPy : D → Option PyData
  | .non => some .none
  | .bl b => some (.bool b)
  | .int i => some (.int i)
  | .str x => some (.str x)
  | .tup xs => (toPys xs).map .tuple
  | .lst xs => (toPys xs).map .list
  | .dcK _ _ => none
  | .dcT _ _ => none
  | .web _ _ _ => none
  | .exc0 _ => none
  | .exc1 _ _ _ => none
  | .ptr _ => none
  | .obj _ _ _ => none
  | .scr _ => none
def toPys : List D → Option (List PyData)
  | [] => some []
  | x :: xs => match toPy x, toPys xs with
    | some p, some q => some (p :: q)
    | _, _ => none
end
mutual
theorem VRel.dp {T : Stt} {G H : Hp} (l : Le G H) : ∀ {v : V} {d : D} {p : PyData}, VRel T G v d → toPy d = some p → Dp T.K H v p
  | _, _, _, .non, e => by rw [toPy] at e; cases e; exact .non
  | _, _, _, .bl b, e => by rw [toPy] at e; cases e; exact .bl b
  | _, _, _, .int i, e => by rw [toPy] at e; cases e; exact .int i
  | _, _, _, .str x, e => by rw [toPy] at e; cases e; exact .str x
  | _, _, p, .tup (ds := ds) h r, e => by
    rw [toPy] at e
    cases q : toPys ds with
    | none => rw [q] at e; cases e
    | some ps =>
      rw [q] at e
      cases e
      exact .tup (SqT.of (l.nd h True.intro)) (VRels.dp l r q)
  | _, _, p, .lst (ds := ds) h r, e => by
    rw [toPy] at e
    cases q : toPys ds with
    | none => rw [q] at e; cases e
    | some ps =>
      rw [q] at e
      cases e
      exact .lst (SqL.of (l.nd h True.intro)) (VRels.dp l r q)
  | _, _, _, .dcK _ _, e => by rw [toPy] at e; cases e
  | _, _, _, .dcT _ _, e => by rw [toPy] at e; cases e
  | _, _, _, .web _ _ _ _ _, e => by rw [toPy] at e; cases e
  | _, _, _, .exc0 _ _, e => by rw [toPy] at e; cases e
  | _, _, _, .exc1 _ _ _ _, e => by rw [toPy] at e; cases e
  | _, _, _, .ptr _, e => by rw [toPy] at e; cases e
  | _, _, _, .scr _, e => by rw [toPy] at e; cases e
theorem VRels.dp {T : Stt} {G H : Hp} (l : Le G H) : ∀ {v : List V} {d : List D} {p : List PyData}, VRels T G v d → toPys d = some p → DpAll T.K H v p
  | _, _, _, .nil, e => by rw [toPys] at e; cases e; exact .nil
  | _, _, _, .cons (d := d) (ds := ds) r rs, e => by
    rw [toPys] at e
    cases q : toPy d with
    | none => simp [q] at e
    | some p1 =>
      cases q2 : toPys ds with
      | none => simp [q, q2] at e
      | some p2 =>
        simp only [q, q2, Option.some.injEq] at e
        subst e
        exact .cons (VRel.dp l r q) (VRels.dp l rs q2)
end
theorem ORel.dp {T : Stt} {G H : Hp} (l : Le G H) {v : V} {d : D} {p : PyData} (r : ORel T G H v d) (e : toPy d = some p) : Dp T.K H v p := by
  rcases r with r | ⟨a, rfl, c⟩
  · exact r.dp l e
  · cases d with
    | lst ds =>
      obtain ⟨vs, h, r⟩ := c
      rw [toPy] at e
      cases q : toPys ds with
      | none => rw [q] at e; cases e
      | some ps =>
        rw [q] at e
        cases e
        exact .lst (SqL.of h) (r.dp l q)
    | dcK _ _ => rw [toPy] at e; cases e
    | dcT _ _ => rw [toPy] at e; cases e
    | _ => exact c.elim

/-! ### an operation's end -/
abbrev Kont (T : Stt) (G H : Hp) (z : D) (Q : VK) : Prop := ∀ v G' H', Same G G' → Le G' H' → Same H H' → Adds G H G' → VRel T G' v z → Q v H'
theorem Kont.same {T : Stt} {G H : Hp} {z : D} {Q : VK} (k : Kont T G H z Q) (l : Le G H) {v : V} (r : VRel T G v z) : Q v H := k v G H (Same.refl G) l (Same.refl H) (fun a u e => .inl e) r
theorem ng_of {G H : Hp} (l : Le G H) {p : Addr} (n : H p = none) : G p = none := l.none n
theorem le_new {G H : Hp} (l : Le G H) {p : Addr} {o : HO} : Le (upd G p o) (upd H p o) := fun a u h => by
  by_cases e : a = p
  · subst e; rw [upd_same] at h; rw [upd_same]; exact .inl h
  · rw [upd_ne e] at h; rw [upd_ne e]; exact l a u h
theorem ad_new {G H : Hp} {p : Addr} {o : HO} (n : H p = none) (nm : NM o) : Adds G H (upd G p o) := fun a u h => by
  by_cases e : a = p
  · subst e; rw [upd_same] at h; cases h; exact .inr (.inl ⟨n, nm⟩)
  · rw [upd_ne e] at h; exact .inl h
theorem Kont.new {T : Stt} {G H : Hp} {z : D} {Q : VK} (k : Kont T G H z Q) (l : Le G H) {p : Addr} {o : HO} (n : H p = none) (r : VRel T (upd G p o) (.ref p) z) (nm : NM o := by intro _ z; exact nomatch z) : Q (.ref p) (upd H p o) :=
  k _ _ _ (upd_same_none (ng_of l n)) (le_new l) (upd_same_none n) (ad_new n nm) r
theorem Kont.tup {T : Stt} {G H : Hp} {ds : List D} {Q : VK} (k : Kont T G H (.tup ds) Q) (l : Le G H) {p : Addr} {vs : List V} (n : H p = none) (r : VRels T G vs ds) : Q (.ref p) (upd H p (.tup vs)) :=
  k.new l n (.tup upd_same (r.same (upd_same_none (ng_of l n))))
theorem Kont.lst {T : Stt} {G H : Hp} {ds : List D} {Q : VK} (k : Kont T G H (.lst ds) Q) (l : Le G H) {p : Addr} {vs : List V} (n : H p = none) (r : VRels T G vs ds) : Q (.ref p) (upd H p (.lst vs)) :=
  k.new l n (.lst upd_same (r.same (upd_same_none (ng_of l n))))

/-! ### the operators -/
def addD : D → D → Option D
  | .int i, .int j => some (.int (i + j))
  | .str x, .str y => if x.length + y.length ≤ sizeLine then some (.str (x ++ y)) else none
  | .tup xs, .tup ys => if xs.length + ys.length ≤ sizeLine then some (.tup (xs ++ ys)) else none
  | .lst xs, .lst ys => if xs.length + ys.length ≤ sizeLine then some (.lst (xs ++ ys)) else none
  | .int i, .bl b => some (.int (i + b2i b))
  | _, _ => none
section
variable {X : Cx}
theorem op_addD : OpD X (binaryOp .Add) addD := by
  intro pins s σ H x y v u Q I rx ry h
  obtain ⟨G, d, e, z, l, ox, oy, hz, k⟩ := h
  unfold addD at hz
  split at hz
  · cases hz
    obtain rfl := ox.int
    obtain rfl := oy.int
    exact op_add pins s σ H _ _ v u Q I rx ry ⟨_, _, rfl, rfl, Kont.same k l (.int _)⟩
  · split at hz
    · rename_i hl
      cases hz
      obtain rfl := ox.str
      obtain rfl := oy.str
      exact op_add_str pins s σ H _ _ v u Q I rx ry ⟨_, _, rfl, rfl, hl, Kont.same k l (.str _)⟩
    · cases hz
  · split at hz
    · rename_i xs ys hl
      cases hz
      obtain ⟨a, vs, rfl, h1, g1, r1⟩ := ox.tup l
      obtain ⟨b, ws, rfl, h2, g2, r2⟩ := oy.tup l
      refine op_catA pins s σ H _ _ v u Q I rx ry ⟨a, b, vs, ws, rfl, rfl, SqT.of h1, SqT.of h2, by rw [r1.length, r2.length]; exact hl, fun e => ?_, fun _ e => ?_, fun _ _ p hp => ?_⟩
      · subst e
        cases r1
        exact Kont.same k l (.tup g2 r2)
      · subst e
        cases r2
        rw [List.append_nil] at k
        exact Kont.same k l (.tup g1 r1)
      · exact Kont.tup k l hp (r1.append r2)
    · cases hz
  · split at hz
    · rename_i xs ys hl
      cases hz
      obtain ⟨a, vs, rfl, h1, r1⟩ := ox.lst l
      obtain ⟨b, ws, rfl, h2, r2⟩ := oy.lst l
      exact op_cat pins s σ H _ _ v u Q I rx ry ⟨a, b, vs, ws, rfl, rfl, h1, h2, by rw [r1.length, r2.length]; exact hl, fun p hp => Kont.lst k l hp (r1.append r2)⟩
    · cases hz
  · cases hz
    obtain rfl := ox.int
    obtain rfl := oy.bl
    exact op_add_ib pins s σ H _ _ v u Q I rx ry ⟨_, _, rfl, rfl, Kont.same k l (.int _)⟩
  · cases hz
/-- an operator on two ints -/
def iiD (c : Int → Int → Bool) (f : Int → Int → Int) : D → D → Option D
  | .int i, .int j => if c i j = true then some (.int (f i j)) else none
  | _, _ => none
theorem op_iiD {F : Value → Value → Sem Value} {C : Int → Int → Prop} {c : Int → Int → Bool} {f : Int → Int → Int} (h : OpR X F (rI C fun i j => .int (f i j))) (hc : ∀ i j, c i j = true → C i j) : OpD X F (iiD c f) := by
  intro pins s σ H x y v u Q I rx ry h2
  obtain ⟨G, d, e, z, l, ox, oy, hz, k⟩ := h2
  unfold iiD at hz
  split at hz
  · split at hz
    · rename_i q
      cases hz
      obtain rfl := ox.int
      obtain rfl := oy.int
      exact h pins s σ H _ _ v u Q I rx ry ⟨_, _, rfl, rfl, hc _ _ q, Kont.same k l (.int _)⟩
    · cases hz
  · cases hz
def subD : D → D → Option D := iiD (fun _ _ => true) fun i j => i - j
theorem op_subD : OpD X (binaryOp .Sub) subD := op_iiD (C := fun _ _ => True) (fun pins s σ H x y v u Q I rx ry ⟨i, j, a, b, _, q⟩ => op_sub pins s σ H x y v u Q I rx ry ⟨i, j, a, b, q⟩) fun _ _ _ => True.intro
def mulD : D → D → Option D := iiD (fun i j => decide (-(2 ^ 64) < i ∧ i < 2 ^ 64) || decide (-(2 ^ 64) < j ∧ j < 2 ^ 64)) fun i j => i * j
theorem op_mulD : OpD X (binaryOp .Mult) mulD := op_iiD op_mul fun i j h => by
  rcases Bool.or_eq_true_iff.mp h with h | h
  · exact .inl (of_decide_eq_true h)
  · exact .inr (of_decide_eq_true h)
def fdivD : D → D → Option D := iiD (fun _ j => decide (j ≠ 0 ∧ j.natAbs < 1073741824)) fun i j => i.fdiv j
theorem op_fdivD : OpD X (binaryOp .FloorDiv) fdivD := op_iiD op_fdivN fun i j h => of_decide_eq_true (p := j ≠ 0 ∧ j.natAbs < 1073741824) h
def modD : D → D → Option D := iiD (fun _ j => decide (j ≠ 0)) fun i j => i.fmod j
theorem op_modD : OpD X (binaryOp .Mod) modD := op_iiD op_modN fun i j h => of_decide_eq_true h
/-- a comparison of two ints -/
def cmD (p : Int → Int → Bool) : D → D → Option D
  | .int i, .int j => some (.bl (p i j))
  | _, _ => none
theorem op_cmD {F : Value → Value → Sem Value} {p : Int → Int → Bool} (h : OpR X F (rI0 fun i j => .bl (p i j))) : OpD X F (cmD p) := by
  intro pins s σ H x y v u Q I rx ry h2
  obtain ⟨G, d, e, z, l, ox, oy, hz, k⟩ := h2
  unfold cmD at hz
  split at hz
  · cases hz
    obtain rfl := ox.int
    obtain rfl := oy.int
    exact h pins s σ H _ _ v u Q I rx ry ⟨_, _, rfl, rfl, Kont.same k l (.bl _)⟩
  · cases hz
def leD : D → D → Option D := cmD fun i j => decide (i ≤ j)
def gtD : D → D → Option D := cmD fun i j => decide (j < i)
def geD : D → D → Option D := cmD fun i j => decide (j ≤ i)
theorem op_leD : OpD X (compareOp .LtE) leD := op_cmD op_le
theorem op_gtD : OpD X (compareOp .Gt) gtD := op_cmD op_gt
theorem op_geD : OpD X (compareOp .GtE) geD := op_cmD op_ge
def intsOf : List D → Option (List Int)
  | [] => some []
  | .int i :: r => (intsOf r).map (i :: ·)
  | _ :: _ => none
theorem intsOf_eq : ∀ {ds : List D} {is : List Int}, intsOf ds = some is → ds = is.map .int
  | [], is, h => by rw [intsOf] at h; cases h; rfl
  | .int i :: r, is, h => by
    rw [intsOf] at h
    cases q : intsOf r with
    | none => rw [q] at h; cases h
    | some js =>
      rw [q] at h
      cases h
      rw [intsOf_eq q]
      rfl
  | .non :: _, _, h => by simp [intsOf] at h
  | .bl _ :: _, _, h => by simp [intsOf] at h
  | .str _ :: _, _, h => by simp [intsOf] at h
  | .tup _ :: _, _, h => by simp [intsOf] at h
  | .lst _ :: _, _, h => by simp [intsOf] at h
  | .dcK _ _ :: _, _, h => by simp [intsOf] at h
  | .dcT _ _ :: _, _, h => by simp [intsOf] at h
  | .web _ _ _ :: _, _, h => by simp [intsOf] at h
  | .exc0 _ :: _, _, h => by simp [intsOf] at h
  | .exc1 _ _ _ :: _, _, h => by simp [intsOf] at h
@[simp] theorem intsOf_map : ∀ is : List Int, intsOf (is.map .int) = some is
  | [] => rfl
  | i :: is => by
    show (intsOf (is.map .int)).map (i :: ·) = some (i :: is)
    rw [intsOf_map is]
    rfl
def ltD : D → D → Option D
  | .int i, .int j => some (.bl (decide (i < j)))
  | .tup xs, .tup ys => match intsOf xs, intsOf ys with
    | some a, some b => some (.bl (HT.lexLt a b))
    | _, _ => none
  | .str x, .str y => some (.bl (decide (x.cps.toList < y.cps.toList)))
  | _, _ => none
theorem op_ltD (hu : X.A.units < cLine) : OpD X (compareOp .Lt) ltD := by
  intro pins s σ H x y v u Q I rx ry h2
  obtain ⟨G, d, e, z, l, ox, oy, hz, k⟩ := h2
  unfold ltD at hz
  split at hz
  · cases hz
    obtain rfl := ox.int
    obtain rfl := oy.int
    exact op_lt pins s σ H _ _ v u Q I rx ry ⟨_, _, rfl, rfl, Kont.same k l (.bl _)⟩
  · split at hz
    · rename_i q1 q2
      cases hz
      obtain ⟨a, vs, rfl, h1, g1, r1⟩ := ox.tup l
      obtain ⟨b, ws, rfl, h2, g2, r2⟩ := oy.tup l
      rw [intsOf_eq q1] at r1
      rw [intsOf_eq q2] at r2
      rw [r1.ints] at h1
      rw [r2.ints] at h2
      exact op_ltT hu pins s σ H _ _ v u Q I rx ry ⟨a, b, _, _, rfl, rfl, SqT.of h1, SqT.of h2, Kont.same k l (.bl _)⟩
    · cases hz
  · cases hz
    obtain rfl := ox.str
    obtain rfl := oy.str
    exact op_lt_str pins s σ H _ _ v u Q I rx ry ⟨_, _, rfl, rfl, Kont.same k l (.bl _)⟩
  · cases hz
/-- == of data -/
def eqB (d e : D) : Option Bool := match toPy d, toPy e with
  | some p, some q => if SeqAt.shaped p = true ∧ SeqAt.shaped q = true then some (PyData.eqv p q) else none
  | _, _ => none
def eqS : D → D → Option Bool
  | .str x, .str y => some (decide (x = y))
  | _, _ => none
def eqE (d e : D) : Option Bool := match eqS d e with
  | some b => some b
  | none => eqB d e
def eqD (d e : D) : Option D := (eqE d e).map .bl
def neD (d e : D) : Option D := (eqE d e).map fun b => .bl (!b)
theorem eqS_some {d e : D} {b : Bool} (h : eqS d e = some b) : ∃ x y, d = .str x ∧ e = .str y ∧ b = decide (x = y) := by
  unfold eqS at h
  split at h
  · cases h; exact ⟨_, _, rfl, rfl, rfl⟩
  · cases h
theorem eqB_some {d e : D} {b : Bool} (h : eqB d e = some b) : ∃ p q, toPy d = some p ∧ toPy e = some q ∧ SeqAt.shaped p = true ∧ SeqAt.shaped q = true ∧ b = PyData.eqv p q := by
  unfold eqB at h
  split at h
  · split at h
    · rename_i p q e1 e2 hs
      cases h
      exact ⟨p, q, e1, e2, hs.1, hs.2, rfl⟩
    · cases h
  · cases h
theorem op_eqDD (hu : X.A.units + 64 < cLine) : OpD X (compareOp .Eq) eqD := by
  intro pins s σ H x y v u Q I rx ry h2
  obtain ⟨G, d, e, z, l, ox, oy, hz, k⟩ := h2
  unfold eqD eqE at hz
  cases q0 : eqS d e with
  | some b =>
    rw [q0] at hz
    cases hz
    obtain ⟨x, y, rfl, rfl, rfl⟩ := eqS_some q0
    obtain rfl := ox.str
    obtain rfl := oy.str
    refine op_eq pins s σ H _ _ v u Q I rx ry ⟨rfl, ?_⟩
    have := Kont.same k l (v := .bl _) (.bl _)
    simpa using this
  | none =>
  rw [q0] at hz
  cases q : eqB d e with
  | none => dsimp only at hz; rw [q] at hz; cases hz
  | some b =>
    dsimp only at hz
    rw [q] at hz
    cases hz
    obtain ⟨p, r, e1, e2, s1, s2, rfl⟩ := eqB_some q
    exact op_eqD hu pins s σ H _ _ v u Q I rx ry ⟨p, r, ox.dp l e1, oy.dp l e2, s1, s2, Kont.same k l (.bl _)⟩
theorem op_neDD (hu : X.A.units + 64 < cLine) : OpD X (compareOp .NotEq) neD := by
  intro pins s σ H x y v u Q I rx ry h2
  obtain ⟨G, d, e, z, l, ox, oy, hz, k⟩ := h2
  unfold neD eqE at hz
  cases q0 : eqS d e with
  | some b =>
    rw [q0] at hz
    cases hz
    obtain ⟨x, y, rfl, rfl, rfl⟩ := eqS_some q0
    obtain rfl := ox.str
    obtain rfl := oy.str
    refine op_ne pins s σ H _ _ v u Q I rx ry ⟨rfl, ?_⟩
    have := Kont.same k l (v := .bl _) (.bl _)
    simpa using this
  | none =>
  rw [q0] at hz
  cases q : eqB d e with
  | none => dsimp only at hz; rw [q] at hz; cases hz
  | some b =>
    dsimp only at hz
    rw [q] at hz
    cases hz
    obtain ⟨p, r, e1, e2, s1, s2, rfl⟩ := eqB_some q
    exact op_neD hu pins s σ H _ _ v u Q I rx ry ⟨p, r, ox.dp l e1, oy.dp l e2, s1, s2, Kont.same k l (.bl _)⟩
/-! `in` -/
def keyOf : D → Option Key
  | .int i => some (.inl i)
  | .str x => some (.inr x)
  | _ => none
def keysOf : List D → Option (List Key)
  | [] => some []
  | d :: r => match keyOf d, keysOf r with
    | some k, some ks => some (k :: ks)
    | _, _ => none
/-- a dict's key that is a tuple -/
def keyT : D → Option (List Key)
  | .tup xs => keysOf xs
  | _ => none
theorem keyOf_v {T : Stt} {G H : Hp} {v : V} {d : D} {k : Key} (o : ORel T G H v d) (h : keyOf d = some k) : v = kV k := by
  cases d with
  | int i => cases h; exact o.int
  | str x => cases h; exact o.str
  | _ => simp [keyOf] at h
theorem keysOf_v {T : Stt} {G : Hp} : ∀ {vs : List V} {ds : List D} {ks : List Key}, VRels T G vs ds → keysOf ds = some ks → vs = ks.map kV
  | _, _, _, .nil, h => by cases h; rfl
  | _, _, _, .cons (d := d) (ds := ds) r rs, h => by
    rw [keysOf] at h
    cases q : keyOf d with
    | none => simp [q] at h
    | some k =>
      cases q2 : keysOf ds with
      | none => simp [q, q2] at h
      | some ks =>
        simp only [q, q2, Option.some.injEq] at h
        subst h
        rw [keyOf_v (H := G) (.inl r) q, keysOf_v rs q2]
        rfl
theorem keyT_v {T : Stt} {G H : Hp} {v : V} {d : D} {k : List Key} (l : Le G H) (o : ORel T G H v d) (h : keyT d = some k) : ∃ b, v = .ref b ∧ H b = some (.tup (k.map kV)) := by
  cases d with
  | tup xs =>
    obtain ⟨a, vs, rfl, h1, _, r⟩ := o.tup l
    rw [keysOf_v r h] at h1
    exact ⟨a, rfl, h1⟩
  | _ => simp [keyT] at h
/-- what a dict's lists hold at a key -/
def lookD {κ : Type} [DecidableEq κ] : List κ → List D → κ → Option D
  | k :: ks, d :: ds, x => if k = x then some d else lookD ks ds x
  | _, _, _ => none
theorem valV_look {κ : Type} [DecidableEq κ] {T : Stt} {G : Hp} : ∀ {kvs : List (κ × V)} {ds : List D} {k : κ}, VRels T G (kvs.map (·.2)) ds →
    (∀ d, lookD (kvs.map (·.1)) ds k = some d → ∃ v, valV kvs k = some v ∧ VRel T G v d) ∧ (lookD (kvs.map (·.1)) ds k = none → valV kvs k = none)
  | [], ds, k, r => ⟨fun d h => by simp [lookD] at h, fun _ => rfl⟩
  | (k0, v0) :: kvs, _, k, .cons (d := d0) (ds := ds) r rs => by
    obtain ⟨ih1, ih2⟩ := valV_look (k := k) rs
    by_cases e : k0 = k
    · subst e
      refine ⟨fun d h => ?_, fun h => ?_⟩
      · simp [lookD] at h
        subst h
        exact ⟨v0, by simp [valV], r⟩
      · simp [lookD] at h
    · refine ⟨fun d h => ?_, fun h => ?_⟩
      · simp only [List.map_cons, lookD, if_neg e] at h
        obtain ⟨v, h1, h2⟩ := ih1 d h
        exact ⟨v, by simpa [valV, e] using h1, h2⟩
      · simp only [List.map_cons, lookD, if_neg e] at h
        simpa [valV, e] using ih2 h
def inB (d e : D) : Option Bool := match e with
  | .tup xs => match toPy d, toPys xs with
    | some p, some qs => if SeqAt.shaped p = true ∧ SeqAt.shaped (.tuple qs) = true then some (qs.any fun z => PyData.eqv z p) else none
    | _, _ => none
  | .lst xs => match toPy d, toPys xs with
    | some p, some qs => if SeqAt.shaped p = true ∧ SeqAt.shaped (.list qs) = true then some (qs.any fun z => PyData.eqv z p) else none
    | _, _ => none
  | .str y => match d with
    | .str x => some (!(Builtin.Str.occurrences y x 0 y.length 1).isEmpty)
    | _ => none
  | .dcK ks ds => (keyOf d).map fun k => (lookD ks ds k).isSome
  | .dcT ks ds => (keyT d).map fun k => (lookD ks ds k).isSome
  | _ => none
def inD (d e : D) : Option D := (inB d e).map .bl
def ninD (d e : D) : Option D := (inB d e).map fun b => .bl (!b)
theorem op_inBD {neg : Bool} (hu : X.A.units + 65 < cLine) : OpD X (compareOp (if neg then .NotIn else .In)) (fun d e => (inB d e).map fun b => .bl (if neg then !b else b)) := by
  intro pins s σ H x y v u Q I rx ry h2
  obtain ⟨G, d, e, z, l, ox, oy, hz, k⟩ := h2
  dsimp only at hz
  cases q : inB d e with
  | none => rw [q] at hz; cases hz
  | some b =>
    simp only [q, Option.map_some, Option.some.injEq] at hz
    subst hz
    have kb : Q (.bl (if neg then !b else b)) H := Kont.same k l (.bl _)
    unfold inB at q
    split at q
    · rename_i xs
      split at q
      · rename_i p qs e1 e2
        split at q
        · rename_i hs
          simp only [Option.some.injEq] at q
          subst q
          obtain ⟨as, r1⟩ := Dp.reads I p x v (ox.dp l e1) rx
          have e3 : toPy (.tup xs) = some (.tuple qs) := by rw [toPy, e2]; rfl
          obtain ⟨bs, r2⟩ := Dp.reads I (.tuple qs) y u (oy.dp l e3) ry
          cases neg with
          | false => exact SeqAt.in_tuple_reads r2 r1 (SeqAt.canLay_of_shaped hs.2) (SeqAt.canLay_of_shaped hs.1) (room_in_shaped hs.1 hu) ⟨.bl _, H, I, rfl, kb⟩
          | true => exact SeqAt.notIn_tuple_reads r2 r1 (SeqAt.canLay_of_shaped hs.2) (SeqAt.canLay_of_shaped hs.1) (room_in_shaped hs.1 hu) ⟨.bl _, H, I, rfl, kb⟩
        · cases q
      · cases q
    · rename_i xs
      split at q
      · rename_i p qs e1 e2
        split at q
        · rename_i hs
          simp only [Option.some.injEq] at q
          subst q
          have e3 : toPy (.lst xs) = some (.list qs) := by rw [toPy, e2]; rfl
          cases neg with
          | false => exact op_inD hu pins s σ H _ _ v u Q I rx ry ⟨p, qs, ox.dp l e1, oy.dp l e3, hs.1, hs.2, kb⟩
          | true => exact op_notInD hu pins s σ H _ _ v u Q I rx ry ⟨p, qs, ox.dp l e1, oy.dp l e3, hs.1, hs.2, kb⟩
        · cases q
      · cases q
    · rename_i yy
      split at q
      · simp only [Option.some.injEq] at q
        subst q
        obtain rfl := ox.str
        obtain rfl := oy.str
        cases neg with
        | false => exact op_in_str pins s σ H _ _ v u Q I rx ry ⟨_, _, rfl, rfl, kb⟩
        | true => exact op_notin_str pins s σ H _ _ v u Q I rx ry ⟨_, _, rfl, rfl, kb⟩
      · cases q
    · rename_i ks ds
      cases qk : keyOf d with
      | none => rw [qk] at q; cases q
      | some kk =>
        simp only [qk, Option.map_some, Option.some.injEq] at q
        subst q
        obtain rfl := keyOf_v ox qk
        obtain ⟨a, kvs, rfl, hr, rfl, rv⟩ := oy.dcK l
        obtain rfl : u = Value.ref a := ry
        have hv : (valV kvs kk).isSome = (lookD (kvs.map (·.1)) ds kk).isSome := by
          obtain ⟨h1, h2⟩ := valV_look (k := kk) rv
          cases w : lookD (kvs.map (·.1)) ds kk with
          | none => rw [h2 w]; rfl
          | some dd => obtain ⟨v, e, _⟩ := h1 dd w; rw [e]; rfl
        have g : DGet H a (kV kk) (valV kvs kk) := .inl ⟨kvs, kk, hr, rfl, rfl⟩
        cases neg with
        | false => exact d_in (by omega) I g rx fun s3 I3 => ⟨.bl _, H, I3, rfl, by rw [hv]; exact kb⟩
        | true => exact d_notIn (by omega) I g rx fun s3 I3 => ⟨.bl _, H, I3, rfl, by rw [hv]; exact kb⟩
    · rename_i ks ds
      cases qk : keyT d with
      | none => rw [qk] at q; cases q
      | some kk =>
        simp only [qk, Option.map_some, Option.some.injEq] at q
        subst q
        obtain ⟨b, rfl, hb⟩ := keyT_v l ox qk
        obtain ⟨a, kvs, rfl, hr, rfl, rv⟩ := oy.dcT l
        obtain rfl : u = Value.ref a := ry
        have hv : (valV kvs kk).isSome = (lookD (kvs.map (·.1)) ds kk).isSome := by
          obtain ⟨h1, h2⟩ := valV_look (k := kk) rv
          cases w : lookD (kvs.map (·.1)) ds kk with
          | none => rw [h2 w]; rfl
          | some dd => obtain ⟨v, e, _⟩ := h1 dd w; rw [e]; rfl
        have g : DGet H a (.ref b) (valV kvs kk) := .inr ⟨kvs, kk, b, hr, rfl, hb, rfl⟩
        cases neg with
        | false => exact d_in (by omega) I g rx fun s3 I3 => ⟨.bl _, H, I3, rfl, by rw [hv]; exact kb⟩
        | true => exact d_notIn (by omega) I g rx fun s3 I3 => ⟨.bl _, H, I3, rfl, by rw [hv]; exact kb⟩
    · cases q
theorem op_inDD (hu : X.A.units + 65 < cLine) : OpD X (compareOp .In) inD := op_inBD (neg := false) hu
theorem op_ninDD (hu : X.A.units + 65 < cLine) : OpD X (compareOp .NotIn) ninD := op_inBD (neg := true) hu
/-- x is None -/
def isNone : D → Bool
  | .non => true
  | _ => false
theorem ORel.isN {T : Stt} {G H : Hp} {v : V} {d : D} (o : ORel T G H v d) : decide (v = .non) = isNone d := by
  rcases o with o | ⟨p, rfl, c⟩
  · cases o <;> simp [isNone]
  · cases d <;> first | exact c.elim | simp [isNone]
def isND : D → D → Option D
  | d, .non => some (.bl (isNone d))
  | _, _ => none
def ntND : D → D → Option D
  | d, .non => some (.bl (!isNone d))
  | _, _ => none
theorem op_isND : OpD X (compareOp .Is) isND := by
  intro pins s σ H x y v u Q I rx ry h2
  obtain ⟨G, d, e, z, l, ox, oy, hz, k⟩ := h2
  unfold isND at hz
  split at hz
  · cases hz
    obtain rfl := oy.non
    exact op_isN pins s σ H _ _ v u Q I rx ry ⟨rfl, by rw [ox.isN]; exact Kont.same k l (.bl _)⟩
  · cases hz
theorem op_ntND : OpD X (compareOp .IsNot) ntND := by
  intro pins s σ H x y v u Q I rx ry h2
  obtain ⟨G, d, e, z, l, ox, oy, hz, k⟩ := h2
  unfold ntND at hz
  split at hz
  · cases hz
    obtain rfl := oy.non
    exact op_notN pins s σ H _ _ v u Q I rx ry ⟨rfl, by rw [ox.isN]; exact Kont.same k l (.bl _)⟩
  · cases hz
end
end DL
-- DL3
set_option maxRecDepth 100000
set_option maxHeartbeats 4000000
/-! DL3: arguments, displays, tests, calls of built-ins and of defs. -/
namespace DL
open PySem PySem.Spec PyProof.Rows L2

/-! ### arguments: each one let go -/
abbrev FA := Ev → Out (List D)
def A.nil : FA := fun env => .ok [] env
def A.cons (f : FE) (g : FA) : FA := fun env => (f env).bind fun a e1 => match frz e1 a with
  | some (d, e2) => (g e2).bind fun ds e3 => .ok (d :: ds) e3
  | none => .stk
def tAr (T : Stt) (B : Bse) (W : WX) (f : FA) : TA := fun σ H Q => ∃ G env, StR T B G H σ env ∧ oE T B W σ G (f env) fun ds e' G' H' => ∀ vs, VRels T G' vs ds → Q vs H'
structure DA (X : Cx) (es : List Expr) (f : FA) : Prop where
  run : ∀ (B : Bse) (W : WX), Takes X W → PA X es (tAr ⟨X.K, X.mg⟩ B W f)
section
variable {X : Cx}
theorem da_nil : DA X [] A.nil := ⟨fun B W tk => pa_nil.imp fun σ H Q ⟨G, env, S, h⟩ => h G H S (Same.refl G) [] .nil⟩
theorem tA_cons {T : Stt} {B : Bse} {W : WX} {f : FE} {g : FA} {σ : St} {H : Hp} {Q : List V → Hp → Prop} (h : tAr T B W (A.cons f g) σ H Q) : tCons (tE T B W f) (tAr T B W g) σ H Q := by
  obtain ⟨G, env, S, h⟩ := h
  refine ⟨G, env, S, ?_⟩
  unfold A.cons at h
  cases q : f env with
  | stk => simp [q, oE] at h
  | exc x e' => simp only [q, Out.bind_exc] at h; exact h
  | ok a e1 =>
    simp only [q, Out.bind_ok] at h
    refine fun G1 H1 S1 l1 v1 r1 => ?_
    cases qf : frz e1 a with
    | none => simp [qf, oE] at h
    | some p =>
      obtain ⟨d, e2⟩ := p
      simp only [qf] at h
      obtain ⟨G2, S2, l2, rv⟩ := S1.frz r1 qf
      refine ⟨G2, e2, S2, ?_⟩
      cases q2 : g e2 with
      | stk => simp [q2, oE] at h
      | exc x e' =>
        simp only [q2, Out.bind_exc] at h
        exact fun cls d G' H' S' l' => h cls d G' H' S' ((l1.trans l2).trans l')
      | ok ds e3 =>
        simp only [q2, Out.bind_ok] at h
        exact fun G3 H3 S3 l3 vs rvs => h G3 H3 S3 ((l1.trans l2).trans l3) (v1 :: vs) (.cons (rv.same l3) rvs)
theorem da_cons {e : Expr} {es : List Expr} {f : FE} {g : FA} (ha : DE X e f) (hr : DA X es g) (hs : starEach (e :: es) X.env = (false, eval e X.env) :: starEach es X.env := by rfl) : DA X (e :: es) (A.cons f g) :=
  ⟨fun B W tk => (pa_cons (ha.run B W tk) (hr.run B W tk) hs).imp fun σ H Q h => tA_cons h⟩
end

/-! ### a call on data -/
/-- a call's reading: the arguments let go, the answer data -/
def rCD (T : Stt) (op : List D → Option D) : List V → Hp → VK → Prop := fun vs H Q => ∃ G ds z, Le G H ∧ VRels T G vs ds ∧ op ds = some z ∧ Kont T G H z Q
def CallD (X : Cx) (f : Value) (op : List D → Option D) : Prop := CallR X f (rCD ⟨X.K, X.mg⟩ op)
def E.cb (op : List D → Option D) (g : FA) : FE := fun env => (g env).bind fun ds e => match op ds with
  | some z => .ok (.dv z) e
  | none => .stk
theorem tE_cb {T : Stt} {B : Bse} {W : WX} {op : List D → Option D} {g : FA} {σ : St} {H : Hp} {Q : VK} (h : tE T B W (E.cb op g) σ H Q) : tCB (rCD T op) (tAr T B W g) σ H Q := by
  obtain ⟨G, env, S, h⟩ := h
  refine ⟨G, env, S, ?_⟩
  unfold E.cb at h
  cases q : g env with
  | stk => simp [q, oE] at h
  | exc x e' => simp only [q, Out.bind_exc] at h; exact h
  | ok ds e1 =>
    simp only [q, Out.bind_ok] at h
    refine fun G1 H1 S1 l1 vs r1 => ?_
    cases qz : op ds with
    | none => simp [qz, oE] at h
    | some z =>
      simp only [qz] at h
      exact ⟨G1, ds, z, S1.gh, r1, qz, fun v G' H' g1 gh hh ad rv => h G' H' (S1.ext g1 gh hh ad) (l1.trans g1) v rv⟩
/-- one argument, not let go: len(x), x own -/
def E.c1 (op : D → Option D) (f : FE) : FE := fun env => (f env).bind fun a e1 => match rd e1 a with
  | some x => match op x with
    | some z => .ok (.dv z) e1
    | none => .stk
  | none => .stk
def r1D (T : Stt) (op : D → Option D) : V → Hp → VK → Prop := fun x H Q => ∃ G d z, Le G H ∧ ORel T G H x d ∧ op d = some z ∧ Kont T G H z Q
def Call1 (X : Cx) (f : Value) (op : D → Option D) : Prop := CallR X f (fun vs H Q => ∃ v, vs = [v] ∧ r1D ⟨X.K, X.mg⟩ op v H Q)
theorem tE_u1 {T : Stt} {B : Bse} {W : WX} {op : D → Option D} {f : FE} {σ : St} {H : Hp} {Q : VK} (h : tE T B W (E.c1 op f) σ H Q) : tE T B W f σ H fun v H1 => r1D T op v H1 Q := by
  obtain ⟨G, env, S, h⟩ := h
  refine ⟨G, env, S, ?_⟩
  unfold E.c1 at h
  cases q : f env with
  | stk => simp [q, oE] at h
  | exc x e' => simp only [q, Out.bind_exc] at h; exact h
  | ok a e1 =>
    simp only [q, Out.bind_ok] at h
    refine fun G1 H1 S1 l1 v1 r1 => ?_
    cases qa : rd e1 a with
    | none => simp [qa, oE] at h
    | some x =>
      simp only [qa] at h
      cases qz : op x with
      | none => simp [qz, oE] at h
      | some z =>
        simp only [qz] at h
        exact ⟨G1, x, z, S1.gh, S1.orel r1 qa, qz, fun v G' H' g1 gh hh ad rv => h G' H' (S1.ext g1 gh hh ad) (l1.trans g1) v rv⟩
section
variable {X : Cx} {x id : Str} {p pos : Pos} {e : Expr} {es : List Expr} {b : String}
theorem de_cb {op : List D → Option D} {g : FA} (hc : CallD X (.builtin b) op) (hm : X.mg x = none) (hv : bootBuiltins x = some (.builtin b)) (ha : DA X (e :: es) g) (hg : Gl X x := by rfl) (hn : x ≠ "__name__" := by decide) (hdb : (x == ("__debug__" : Str)) = false := by decide)
    (he : starEach (e :: es) X.env = (false, eval e X.env) :: starEach es X.env := by rfl) (hpl : (backTo pos (starEach es X.env)).any (·.1) = false := by rfl) : DE X (.Call (.Name x p) (e :: es) [] pos) (E.cb op g) :=
  ⟨fun B W tk => (pe_callB hc hg hm hv (ha.run B W tk) hn hdb he hpl).imp fun σ H Q h => tE_cb h⟩
theorem de_ct {op : List D → Option D} {g : FA} (hc : CallD X (.type b) op) (hm : X.mg x = none) (hv : bootBuiltins x = some (.type b)) (ha : DA X (e :: es) g) (hg : Gl X x := by rfl) (hn : x ≠ "__name__" := by decide) (hdb : (x == ("__debug__" : Str)) = false := by decide)
    (he : starEach (e :: es) X.env = (false, eval e X.env) :: starEach es X.env := by rfl) (hpl : (backTo pos (starEach es X.env)).any (·.1) = false := by rfl) : DE X (.Call (.Name x p) (e :: es) [] pos) (E.cb op g) :=
  ⟨fun B W tk => (pe_callTy hc hg hm hv (ha.run B W tk) hn hdb he hpl).imp fun σ H Q h => tE_cb h⟩
theorem t1_call {T : Stt} {B : Bse} {W : WX} {op : D → Option D} {f : FE} {σ : St} {H : Hp} {Q : VK} (h : tE T B W (E.c1 op f) σ H Q) : tCB (fun vs H Q => ∃ v, vs = [v] ∧ r1D T op v H Q) (tCons (tE T B W f) tNil) σ H Q := by
  obtain ⟨G, env, S, h2⟩ := tE_u1 h
  refine ⟨G, env, S, h2.mono (Same.refl G) fun a e' G' H' l k v r => ⟨v, rfl, k v r⟩⟩
theorem de_b1 {op : D → Option D} {f : FE} (hc : Call1 X (.builtin b) op) (hm : X.mg x = none) (hv : bootBuiltins x = some (.builtin b)) (ha : DE X e f) (hg : Gl X x := by rfl) (hn : x ≠ "__name__" := by decide) (hdb : (x == ("__debug__" : Str)) = false := by decide)
    (hs : starEach (e :: []) X.env = (false, eval e X.env) :: starEach [] X.env := by rfl) (hpl : (backTo pos (starEach [] X.env)).any (·.1) = false := by rfl) : DE X (.Call (.Name x p) [e] [] pos) (E.c1 op f) :=
  ⟨fun B W tk => (pe_callB hc hg hm hv (pa_cons (ha.run B W tk) pa_nil hs) hn hdb hs hpl).imp fun σ H Q h => t1_call h⟩
theorem de_t1 {op : D → Option D} {f : FE} (hc : Call1 X (.type b) op) (hm : X.mg x = none) (hv : bootBuiltins x = some (.type b)) (ha : DE X e f) (hg : Gl X x := by rfl) (hn : x ≠ "__name__" := by decide) (hdb : (x == ("__debug__" : Str)) = false := by decide)
    (hs : starEach (e :: []) X.env = (false, eval e X.env) :: starEach [] X.env := by rfl) (hpl : (backTo pos (starEach [] X.env)).any (·.1) = false := by rfl) : DE X (.Call (.Name x p) [e] [] pos) (E.c1 op f) :=
  ⟨fun B W tk => (pe_callTy hc hg hm hv (pa_cons (ha.run B W tk) pa_nil hs) hn hdb hs hpl).imp fun σ H Q h => t1_call h⟩
theorem de_un {op : D → Option D} {f : FE} {o : UnaryOp} (ho : UnR X (unaryOp o) (r1D ⟨X.K, X.mg⟩ op)) (ha : DE X e f) : DE X (.UnaryOp o e pos) (E.c1 op f) :=
  ⟨fun B W tk => (pe_un ho (ha.run B W tk)).imp fun σ H Q h => tE_u1 h⟩
end

/-! ### the built-ins -/
def lenD : D → Option D
  | .lst xs => some (.int xs.length)
  | .tup xs => some (.int xs.length)
  | .str x => if x.length ≤ sizeLine then some (.int x.length) else none
  | .scr is => some (.int is.length)
  | _ => none
section
variable {X : Cx}
theorem c_len : Call1 X (.builtin "len") lenD := by
  intro pins s σ H xs us Q I r ⟨v, e, G, d, z, l, o, hz, k⟩
  unfold lenD at hz
  split at hz
  · cases hz
    obtain ⟨a, vs, rfl, h, rv⟩ := o.lst l
    exact call_len pins s σ H xs us Q I r ⟨_, vs.length, e, .inl ⟨vs, SqL.of h, rfl⟩, by rw [rv.length]; exact Kont.same k l (.int _)⟩
  · cases hz
    obtain ⟨a, vs, rfl, h, _, rv⟩ := o.tup l
    exact call_len pins s σ H xs us Q I r ⟨_, vs.length, e, .inr ⟨vs, SqT.of h, rfl⟩, by rw [rv.length]; exact Kont.same k l (.int _)⟩
  · split at hz
    · rename_i hl
      cases hz
      obtain rfl := o.str
      exact call_len pins s σ H xs us Q I r ⟨_, _, e, ⟨hl, rfl⟩, Kont.same k l (.int _)⟩
    · cases hz
  · rename_i is
    cases hz
    obtain ⟨a, rfl, h⟩ := o.scr l
    exact call_len pins s σ H xs us Q I r ⟨_, (is.map V.int).length, e, .inl ⟨_, h, rfl⟩, by rw [List.length_map]; exact Kont.same k l (.int _)⟩
  · cases hz
def absD : D → Option D
  | .int i => some (.int (if i < 0 then -i else i))
  | _ => none
theorem c_abs : Call1 X (.builtin "abs") absD := by
  intro pins s σ H xs us Q I r ⟨v, e, G, d, z, l, o, hz, k⟩
  unfold absD at hz
  split at hz
  · cases hz
    obtain rfl := o.int
    exact call_abs pins s σ H xs us Q I r ⟨_, e, Kont.same k l (.int _)⟩
  · cases hz
def max2D : List D → Option D
  | [.int i, .int j] => some (.int (if j > i then j else i))
  | _ => none
def min2D : List D → Option D
  | [.int i, .int j] => some (.int (if j < i then j else i))
  | _ => none
theorem two_ints {T : Stt} {G : Hp} {vs : List V} {i j : Int} (r : VRels T G vs [.int i, .int j]) : vs = [.int i, .int j] := by
  cases r with
  | cons r1 r =>
    cases r with
    | cons r2 r =>
      cases r; cases r1; cases r2; rfl
theorem c_max2 (hc : X.calm = true) : CallD X (.builtin "max") max2D := by
  intro pins s σ H xs us Q I r ⟨G, ds, z, l, o, hz, k⟩
  unfold max2D at hz
  split at hz
  · cases hz
    obtain rfl := two_ints o
    exact call_max2 hc pins s σ H _ us Q I r ⟨_, _, rfl, Kont.same k l (.int _)⟩
  · cases hz
theorem c_min2 (hc : X.calm = true) : CallD X (.builtin "min") min2D := by
  intro pins s σ H xs us Q I r ⟨G, ds, z, l, o, hz, k⟩
  unfold min2D at hz
  split at hz
  · cases hz
    obtain rfl := two_ints o
    exact call_min2 hc pins s σ H _ us Q I r ⟨_, _, rfl, Kont.same k l (.int _)⟩
  · cases hz
def intD : D → Option D
  | .int i => some (.int i)
  | .bl b => some (.int (if b then 1 else 0))
  | _ => none
theorem c_int : Call1 X (.type "int") intD := by
  intro pins s σ H xs us Q I r ⟨v, e, G, d, z, l, o, hz, k⟩
  unfold intD at hz
  split at hz
  · cases hz
    obtain rfl := o.int
    exact call_int1 pins s σ H xs us Q I r (.inl ⟨_, e, Kont.same k l (.int _)⟩)
  · cases hz
    obtain rfl := o.bl
    exact call_int1 pins s σ H xs us Q I r (.inr ⟨_, e, Kont.same k l (.int _)⟩)
  · cases hz
def strD : D → Option D
  | .int i => if i.natAbs.log2 < 1920 then some (.str (toString i)) else none
  | _ => none
theorem c_str : Call1 X (.type "str") strD := by
  intro pins s σ H xs us Q I r ⟨v, e, G, d, z, l, o, hz, k⟩
  unfold strD at hz
  split at hz
  · split at hz
    · rename_i hl
      cases hz
      obtain rfl := o.int
      exact call_str_int pins s σ H xs us Q I r ⟨_, e, hl, Kont.same k l (.str _)⟩
    · cases hz
  · cases hz
def tupD : D → Option D
  | .lst xs => some (.tup xs)
  | .tup xs => some (.tup xs)
  | _ => none
theorem c_tup : Call1 X (.type "tuple") tupD := by
  intro pins s σ H xs us Q I r ⟨v, e, G, d, z, l, o, hz, k⟩
  unfold tupD at hz
  split at hz
  · cases hz
    obtain ⟨a, vs, rfl, h, rv⟩ := o.lst l
    exact call_tuple_of pins s σ H xs us Q I r ⟨a, vs, e, .inl ⟨SqL.of h, fun p hp => Kont.tup k l hp rv⟩⟩
  · cases hz
    obtain ⟨a, vs, rfl, h, g, rv⟩ := o.tup l
    exact call_tuple_of pins s σ H xs us Q I r ⟨a, vs, e, .inr ⟨SqT.of h, Kont.same k l (.tup g rv)⟩⟩
  · cases hz
def listD : D → Option D
  | .lst xs => some (.lst xs)
  | .tup xs => some (.lst xs)
  | _ => none
theorem c_list : Call1 X (.type "list") listD := by
  intro pins s σ H xs us Q I r ⟨v, e, G, d, z, l, o, hz, k⟩
  unfold listD at hz
  split at hz
  · cases hz
    obtain ⟨a, vs, rfl, h, rv⟩ := o.lst l
    exact call_list_of pins s σ H xs us Q I r ⟨a, vs, e, .inl (SqL.of h), fun p hp => Kont.lst k l hp rv⟩
  · cases hz
    obtain ⟨a, vs, rfl, h, g, rv⟩ := o.tup l
    exact call_list_of pins s σ H xs us Q I r ⟨a, vs, e, .inr (SqT.of h), fun p hp => Kont.lst k l hp rv⟩
  · cases hz
def blsOf : List D → Option (List Bool)
  | [] => some []
  | .bl i :: r => (blsOf r).map (i :: ·)
  | _ :: _ => none
theorem blsOf_eq : ∀ {ds : List D} {is : List Bool}, blsOf ds = some is → ds = is.map .bl
  | [], is, h => by rw [blsOf] at h; cases h; rfl
  | .bl i :: r, is, h => by
    rw [blsOf] at h
    cases q : blsOf r with
    | none => rw [q] at h; cases h
    | some js =>
      rw [q] at h
      cases h
      rw [blsOf_eq q]
      rfl
  | .non :: _, _, h => by simp [blsOf] at h
  | .int _ :: _, _, h => by simp [blsOf] at h
  | .str _ :: _, _, h => by simp [blsOf] at h
  | .tup _ :: _, _, h => by simp [blsOf] at h
  | .lst _ :: _, _, h => by simp [blsOf] at h
  | .dcK _ _ :: _, _, h => by simp [blsOf] at h
  | .dcT _ _ :: _, _, h => by simp [blsOf] at h
  | .web _ _ _ :: _, _, h => by simp [blsOf] at h
  | .exc0 _ :: _, _, h => by simp [blsOf] at h
  | .exc1 _ _ _ :: _, _, h => by simp [blsOf] at h
@[simp] theorem blsOf_map : ∀ is : List Bool, blsOf (is.map .bl) = some is
  | [] => rfl
  | i :: is => by
    show (blsOf (is.map .bl)).map (i :: ·) = some (i :: is)
    rw [blsOf_map is]
    rfl
def allD : D → Option D
  | .lst xs => (blsOf xs).map fun bs => .bl (bs.all id)
  | _ => none
def anyD : D → Option D
  | .lst xs => (blsOf xs).map fun bs => .bl (bs.any id)
  | _ => none
def sumD : D → Option D
  | .lst xs => (intsOf xs).map fun is => .int is.sum
  | _ => none
theorem c_all (hc : X.calm = true) : Call1 X (.builtin "all") allD := by
  intro pins s σ H xs us Q I r ⟨v, e, G, d, z, l, o, hz, k⟩
  unfold allD at hz
  split at hz
  · rename_i ys
    cases q : blsOf ys with
    | none => rw [q] at hz; cases hz
    | some bs =>
      rw [q] at hz
      cases hz
      obtain ⟨a, vs, rfl, h, rv⟩ := o.lst l
      rw [blsOf_eq q] at rv
      rw [rv.bls] at h
      exact cr_all hc pins s σ H xs us Q I r ⟨a, bs, e, SqL.of h, Kont.same k l (.bl _)⟩
  · cases hz
theorem c_any (hc : X.calm = true) : Call1 X (.builtin "any") anyD := by
  intro pins s σ H xs us Q I r ⟨v, e, G, d, z, l, o, hz, k⟩
  unfold anyD at hz
  split at hz
  · rename_i ys
    cases q : blsOf ys with
    | none => rw [q] at hz; cases hz
    | some bs =>
      rw [q] at hz
      cases hz
      obtain ⟨a, vs, rfl, h, rv⟩ := o.lst l
      rw [blsOf_eq q] at rv
      rw [rv.bls] at h
      exact cr_any hc pins s σ H xs us Q I r ⟨a, bs, e, SqL.of h, Kont.same k l (.bl _)⟩
  · cases hz
theorem c_sum (hc : X.calm = true) : Call1 X (.builtin "sum") sumD := by
  intro pins s σ H xs us Q I r ⟨v, e, G, d, z, l, o, hz, k⟩
  unfold sumD at hz
  split at hz
  · rename_i ys
    cases q : intsOf ys with
    | none => rw [q] at hz; cases hz
    | some bs =>
      rw [q] at hz
      cases hz
      obtain ⟨a, vs, rfl, h, rv⟩ := o.lst l
      rw [intsOf_eq q] at rv
      rw [rv.ints] at h
      exact cr_sum hc pins s σ H xs us Q I r ⟨a, bs, e, SqL.of h, Kont.same k l (.int _)⟩
  · cases hz
def negD : D → Option D
  | .int i => some (.int (-i))
  | _ => none
theorem u_neg : UnR X (unaryOp .USub) (r1D ⟨X.K, X.mg⟩ negD) := by
  intro pins s σ H x v Q I r ⟨G, d, z, l, o, hz, k⟩
  unfold negD at hz
  split at hz
  · cases hz
    obtain rfl := o.int
    exact un_neg pins s σ H _ v Q I r ⟨_, rfl, Kont.same k l (.int _)⟩
  · cases hz
end
end DL
-- DL4
set_option maxRecDepth 100000
set_option maxHeartbeats 4000000
/-! DL4: displays, tests, subscripts, attributes, calls of defs. -/
namespace DL
open PySem PySem.Spec PyProof.Rows L2

/-! ### displays -/
def E.tup (g : FA) : FE := fun env => (g env).bind fun ds e => if ds.length ≤ sizeLine then .ok (.dv (.tup ds)) e else .stk
section
variable {X : Cx} {es : List Expr} {pos : Pos} {k : Nat}
theorem de_tup {g : FA} (ha : DA X es g)
    (mk : ∀ t, PA X es t → PE X (.Tuple es k pos) (tTup t) := by intro t h; exact pe_tup h) : DE X (.Tuple es k pos) (E.tup g) := by
  refine ⟨fun B W tk => (mk _ (ha.run B W tk)).imp fun σ H Q h => ?_⟩
  obtain ⟨G, env, S, h⟩ := h
  refine ⟨G, env, S, ?_⟩
  unfold E.tup at h
  cases q : g env with
  | stk => simp [q, oE] at h
  | exc x e' => simp only [q, Out.bind_exc] at h; exact h
  | ok ds e1 =>
    simp only [q, Out.bind_ok] at h
    refine fun G1 H1 S1 l1 vs r1 => ?_
    split at h
    · rename_i hl
      refine ⟨by rw [r1.length]; exact hl, fun p hp => ?_⟩
      obtain ⟨S2, l2⟩ := S1.new (o := .tup vs) hp
      exact h _ _ S2 (l1.trans l2) _ (.tup upd_same (r1.same l2))
    · exact h.elim
end

/-! ### what makes a new container -/
abbrev FD := Ev → Out D
def tF (T : Stt) (B : Bse) (W : WX) (f : FD) : TE := fun σ H Q => ∃ G env, StR T B G H σ env ∧ oE T B W σ G (f env) fun d e' G' H' =>
  ∀ p, (B.2 p = none ∧ B.3 p = none) → G' p = none → (∀ (j : Nat) d', e'[j]? = some (.own d') → σ[j]? ≠ some (some (.ref p))) → CRel T G' H' p d → Q (.ref p) H'
/-- an expression that makes a new container -/
structure DF (X : Cx) (e : Expr) (f : FD) : Prop where
  run : ∀ (B : Bse) (W : WX), Takes X W → PE X e (tF ⟨X.K, X.mg⟩ B W f)
/-- what stands at p is let go: G has it -/
theorem StR.gfz {T : Stt} {B : Bse} {G1 H1 : Hp} {σ : St} {e1 : Ev} {p : Addr} {u : HO} (S1 : StR T B G1 H1 σ e1) (hb : B.2 p = none ∧ B.3 p = none) (hg : G1 p = none) (ho : ∀ (j : Nat) d', e1[j]? = some (.own d') → σ[j]? ≠ some (some (.ref p))) (hu : H1 p = some u) (nm : NM u) :
    StR T B (upd G1 p u) H1 σ e1 := by
  have sg : Same G1 (upd G1 p u) := upd_same_none hg
  have nb3 : ∀ a w, B.3 a = some w → a ≠ p := fun a w e z => by rw [z, hb.2] at e; cases e
  refine ⟨fun a w e => ?_, S1.g0.trans sg, S1.h0, fun a w e => by obtain ⟨x1, x2, x3⟩ := S1.lk a w e; exact ⟨x1, x2, x3.imp id fun x => ⟨by rw [upd_ne (nb3 a w e)]; exact x.1, x.2⟩⟩, fun a w e => ?_, S1.len, S1.top, fun M e => (S1.sto M e).mark hg nm, fun i d' e => ?_, fun i d' e => ?_, S1.dis⟩
  · by_cases z : a = p
    · subst z; rw [upd_same] at e; cases e; exact .inl hu
    · rw [upd_ne z] at e; exact S1.gh a w e
  · by_cases z : a = p
    · subst z; rw [upd_same] at e; cases e; exact .inr (.inl ⟨hb.1, fun _ => nm⟩)
    · rw [upd_ne z] at e; exact S1.add a w e
  · obtain ⟨v, a1, a2⟩ := S1.val i d' e
    exact ⟨v, a1, a2.same sg⟩
  · obtain ⟨p2, a1, a2, a3, a4⟩ := S1.own i d' e
    have np : p2 ≠ p := fun z => ho i d' e (by rw [← z]; exact a1)
    exact ⟨p2, a1, a2, by rw [upd_ne np]; exact a3, a4.same sg fun _ z => z⟩
/-- what stands at p becomes the next thing of the store -/
theorem StR.gmk {T : Stt} {B : Bse} {G1 H1 : Hp} {σ : St} {e1 : Ev} {p : Addr} {d : D} {M : List D} (S1 : StR T B G1 H1 σ e1) (hM : stoOf e1 = some M) (hb : B.2 p = none ∧ B.3 p = none) (hg : G1 p = none) (ho : ∀ (j : Nat) d', e1[j]? = some (.own d') → σ[j]? ≠ some (some (.ref p))) (hc : MRel T G1 H1 p d) :
    StR T B (upd G1 p (.own M.length)) H1 σ (setSto e1 (M ++ [d])) ∧ Same G1 (upd G1 p (.own M.length)) := by
  have sg : Same G1 (upd G1 p (.own M.length)) := upd_same_none hg
  have nb3 : ∀ a w, B.3 a = some w → a ≠ p := fun a w e z => by rw [z, hb.2] at e; cases e
  obtain ⟨u, hu, mu⟩ := hc.some
  obtain ⟨s1, s2, s3, s4⟩ := S1.sto M hM
  have hl : e1[e1.length - 1]? = some (.sto M) := by
    unfold stoOf at hM
    split at hM
    · rename_i q; cases hM; rw [List.getLast?_eq_getElem?] at q; exact q
    · cases hM
  have hi := (List.getElem?_eq_some_iff.mp hl).1
  have other : ∀ {j : Nat} {s : Slot}, (setSto e1 (M ++ [d]))[j]? = some s → (∀ M, s ≠ .sto M) → e1[j]? = some s := fun {j s} e n => by
    unfold setSto at e
    by_cases z : e1.length - 1 = j
    · subst z; rw [List.getElem?_set_self hi] at e; cases e; exact (n _ rfl).elim
    · rw [List.getElem?_set_ne z] at e; exact e
  refine ⟨⟨fun a w e => ?_, S1.g0.trans sg, S1.h0, fun a w e => by obtain ⟨x1, x2, x3⟩ := S1.lk a w e; exact ⟨x1, x2, x3.imp id fun x => ⟨by rw [upd_ne (nb3 a w e)]; exact x.1, x.2⟩⟩, fun a w e => ?_, by unfold setSto; rw [List.length_set]; exact S1.len, ?_, fun M' e => ?_, fun i d' e => ?_, fun i d' e => ?_, fun i j x y q h1 h2 => S1.dis i j x y q (other h1 fun _ z => nomatch z) (other h2 fun _ z => nomatch z)⟩, sg⟩
  · by_cases z : a = p
    · subst z; rw [upd_same] at e; cases e; exact .inr (.inr ⟨_, u, rfl, hu, fun xs z => by subst z; exact mu⟩)
    · rw [upd_ne z] at e; exact S1.gh a w e
  · by_cases z : a = p
    · subst z; exact .inr (.inl ⟨hb.1, fun y => by have y' : B.pu = true := y; rw [s1] at y'; cases y'⟩)
    · rw [upd_ne z] at e; exact S1.add a w e
  · exact top_set S1.top hl ⟨fun ⟨_, z⟩ => ⟨_, rfl⟩, fun ⟨_, z⟩ => ⟨_, rfl⟩⟩
  · have eM : M' = M ++ [d] := by
      unfold stoOf setSto at e
      rw [List.getLast?_eq_getElem?, List.length_set, List.getElem?_set_self hi] at e
      cases e
      rfl
    subst eM
    refine ⟨s1, fun n d1 e => ?_, fun q n e => ?_, fun q r n e1 e2 => ?_⟩
    · by_cases hn : n < M.length
      · rw [List.getElem?_append_left hn] at e
        obtain ⟨q, a1, a2, a3, a4⟩ := s2 n d1 e
        have nq : q ≠ p := fun z => by rw [z, hg] at a1; cases a1
        exact ⟨q, by rw [upd_ne nq]; exact a1, a2, a3, a4.same sg fun _ z => z⟩
      · have en : n = M.length := by
          have := (List.getElem?_eq_some_iff.mp e).1
          rw [List.length_append, List.length_singleton] at this
          omega
        subst en
        rw [List.getElem?_append_right (Nat.le_refl _), Nat.sub_self] at e
        cases e
        exact ⟨p, upd_same, hb.1, hb.2, hc.same sg fun _ z => z⟩
    · rw [List.length_append, List.length_singleton]
      by_cases z : q = p
      · subst z; rw [upd_same] at e; cases e; exact Nat.lt_succ_self _
      · rw [upd_ne z] at e; exact Nat.lt_succ_of_lt (s3 q n e)
    · by_cases z1 : q = p <;> by_cases z2 : r = p
      · rw [z1, z2]
      · subst z1
        rw [upd_same] at e1; cases e1
        rw [upd_ne z2] at e2
        exact absurd (s3 r _ e2) (Nat.lt_irrefl _)
      · subst z2
        rw [upd_same] at e2; cases e2
        rw [upd_ne z1] at e1
        exact absurd (s3 q _ e1) (Nat.lt_irrefl _)
      · rw [upd_ne z1] at e1; rw [upd_ne z2] at e2; exact s4 q r n e1 e2
  · obtain ⟨v, a1, a2⟩ := S1.val i d' (other e fun _ z => nomatch z)
    exact ⟨v, a1, a2.same sg⟩
  · obtain ⟨p2, a1, a2, a3, a4⟩ := S1.own i d' (other e fun _ z => nomatch z)
    have np : p2 ≠ p := fun z => ho i d' (other e fun _ z => nomatch z) (by rw [← z]; exact a1)
    exact ⟨p2, a1, a2, by rw [upd_ne np]; exact a3, a4.same sg fun _ z => z⟩
def E.mk (f : FD) : FE := fun env => (f env).bind fun d e => match stoOf e with
  | some M => .ok (.dv (.ptr M.length)) (setSto e (M ++ [d]))
  | none => .stk
theorem tE_mk {T : Stt} {B : Bse} {W : WX} {f : FD} {σ : St} {H : Hp} {Q : VK} (h : tE T B W (E.mk f) σ H Q) : tF T B W f σ H Q := by
  obtain ⟨G, env, S, h⟩ := h
  refine ⟨G, env, S, ?_⟩
  unfold E.mk at h
  cases q : f env with
  | stk => simp [q, oE] at h
  | exc x e' => simp only [q, Out.bind_exc] at h; exact h
  | ok d e1 =>
    simp only [q, Out.bind_ok] at h
    cases hM : stoOf e1 with
    | none => simp [hM, oE] at h
    | some M =>
      simp only [hM] at h
      refine fun G1 H1 S1 l1 p hb hg ho hc => ?_
      obtain ⟨S2, l2⟩ := S1.gmk hM hb hg ho (.inl hc)
      exact h _ H1 S2 (l1.trans l2) _ (.ptr upd_same)
theorem DF.dm {X : Cx} {e : Expr} {f : FD} (h : DF X e f) : DE X e (E.mk f) := ⟨fun B W tk => (h.run B W tk).imp fun σ H Q q => tE_mk q⟩
def E.fz (f : FD) : FE := fun env => (f env).bind fun d e => .ok (.dv d) e
theorem tE_fz {T : Stt} {B : Bse} {W : WX} {f : FD} {σ : St} {H : Hp} {Q : VK} (h : tE T B W (E.fz f) σ H Q) : tF T B W f σ H Q := by
  obtain ⟨G, env, S, h⟩ := h
  refine ⟨G, env, S, ?_⟩
  unfold E.fz at h
  cases q : f env with
  | stk => simp [q, oE] at h
  | exc x e' => simp only [q, Out.bind_exc] at h; exact h
  | ok d e1 =>
    simp only [q, Out.bind_ok] at h
    refine fun G1 H1 S1 l1 p hb hg ho hc => ?_
    obtain ⟨u, hu, rv⟩ := hc.frz hg
    exact h (upd G1 p u) H1 (S1.gfz hb hg ho hu (hc.nm hu)) (l1.trans (upd_same_none hg)) _ rv
theorem DF.de {X : Cx} {e : Expr} {f : FD} (h : DF X e f) : DE X e (E.fz f) := ⟨fun B W tk => (h.run B W tk).imp fun σ H Q q => tE_fz q⟩
/-- a new thing at p in the heap alone: it is an own one -/
theorem StR.fresh {T : Stt} {B : Bse} {G H : Hp} {σ : St} {env : Ev} {p : Addr} {o : HO} (S : StR T B G H σ env) (n : H p = none) :
    StR T B G (upd H p o) σ env ∧ (B.2 p = none ∧ B.3 p = none) ∧ G p = none ∧ ∀ (j : Nat) d', env[j]? = some (.own d') → σ[j]? ≠ some (some (.ref p)) := by
  refine ⟨S.newH n, ⟨S.nb n, S.nl n⟩, S.ng n, fun j d' e z => ?_⟩
  obtain ⟨p2, a1, _, _, a4⟩ := S.own j d' e
  rw [a1] at z
  cases z
  obtain ⟨u, hu, _⟩ := a4.some
  rw [n] at hu
  cases hu
def E.lst (g : FA) : FD := fun env => (g env).bind fun ds e => if ds.length ≤ sizeLine then .ok (.lst ds) e else .stk
section
variable {X : Cx} {es : List Expr} {pos : Pos}
theorem df_lst {g : FA} (ha : DA X es g) (mk : ∀ t, PA X es t → PE X (.List es pos) (tLst t) := by intro t h; exact pe_lst h) : DF X (.List es pos) (E.lst g) := by
  refine ⟨fun B W tk => (mk _ (ha.run B W tk)).imp fun σ H Q h => ?_⟩
  obtain ⟨G, env, S, h⟩ := h
  refine ⟨G, env, S, ?_⟩
  unfold E.lst at h
  cases q : g env with
  | stk => simp [q, oE] at h
  | exc x e' => simp only [q, Out.bind_exc] at h; exact h
  | ok ds e1 =>
    simp only [q, Out.bind_ok] at h
    refine fun G1 H1 S1 l1 vs r1 => ?_
    split at h
    · rename_i hl
      refine ⟨by rw [r1.length]; exact hl, fun p hp => ?_⟩
      obtain ⟨S2, n1, n2, n3⟩ := S1.fresh (o := .lst vs) hp
      exact h _ _ S2 l1 p n1 n2 n3 ⟨vs, upd_same, r1⟩
    · exact h.elim
def E.dnK : FD := fun env => .ok (.dcK [] []) env
def E.dnT : FD := fun env => .ok (.dcT [] []) env
theorem df_dnK : DF X (.Dict [] [] pos) E.dnK := ⟨fun B W tk => pe_dnewK.imp fun σ H Q ⟨G, env, S, h⟩ p hp => by
  obtain ⟨S2, n1, n2, n3⟩ := S.fresh (o := .dK []) hp
  exact h _ _ S2 (Same.refl G) p n1 n2 n3 ⟨[], upd_same, rfl, .nil⟩⟩
theorem df_dnT : DF X (.Dict [] [] pos) E.dnT := ⟨fun B W tk => pe_dnewT.imp fun σ H Q ⟨G, env, S, h⟩ p hp => by
  obtain ⟨S2, n1, n2, n3⟩ := S.fresh (o := .dT []) hp
  exact h _ _ S2 (Same.refl G) p n1 n2 n3 ⟨[], upd_same, rfl, .nil⟩⟩
end

/-! ### tests -/
abbrev FB := Ev → Out Bool
def tT (T : Stt) (B : Bse) (W : WX) (f : FB) : TT := fun σ H Q => ∃ G env, StR T B G H σ env ∧ oE T B W σ G (f env) fun b e' G' H' => Q b H'
structure DT (X : Cx) (e : Expr) (f : FB) : Prop where
  run : ∀ (B : Bse) (W : WX), Takes X W → PT X e (tT ⟨X.K, X.mg⟩ B W f)
structure DW (X : Cx) (e : Expr) (f : FB) : Prop where
  run : ∀ (B : Bse) (W : WX), Takes X W → PW X e (tT ⟨X.K, X.mg⟩ B W f)
theorem DW.dt {X : Cx} {e : Expr} {f : FB} (h : DW X e f) : DT X e f := ⟨fun B W tk => (h.run B W tk).pt⟩
def Tt.val (f : FE) : FB := fun env => (f env).bind fun a e => match rd e a with
  | some (.bl b) => .ok b e
  | _ => .stk
theorem tT_val {T : Stt} {B : Bse} {W : WX} {f : FE} {σ : St} {H : Hp} {Q : Bool → Hp → Prop} (h : tT T B W (Tt.val f) σ H Q) : tB (tE T B W f) σ H Q := by
  obtain ⟨G, env, S, h⟩ := h
  refine ⟨G, env, S, ?_⟩
  unfold Tt.val at h
  cases q : f env with
  | stk => simp [q, oE] at h
  | exc x e' => simp only [q, Out.bind_exc] at h; exact h
  | ok a e1 =>
    simp only [q, Out.bind_ok] at h
    refine fun G1 H1 S1 l1 v r1 => ?_
    cases qa : rd e1 a with
    | none => simp [qa, oE] at h
    | some d =>
      cases d with
      | bl b =>
        simp only [qa] at h
        exact ⟨b, (S1.orel r1 qa).bl, h G1 H1 S1 l1⟩
      | _ => simp [qa, oE] at h
section
variable {X : Cx} {e a b : Expr} {pos : Pos}
theorem dt_val {f : FE} (h : DE X e f) (he : ∀ whole, isTrue e X.env whole = (do let v ← whole; standAt e.pos; holding [v] (truthy v)) := by intro _; rfl) : DT X e (Tt.val f) :=
  ⟨fun B W tk => (pt_val (h.run B W tk) he).imp fun σ H Q q => tT_val q⟩
theorem dt_cmp {f g : FE} {op : D → D → Option D} {o : CmpOp} (ho : OpD X (compareOp o) op) (ha : DE X a f) (hb : DE X b g) (hm : behindInMarks o b = false := by first | exact nobehind _ (by decide) (by decide) | rfl) : DT X (.Compare a [o] [b] pos) (Tt.val (E.bin op f g)) :=
  ⟨fun B W tk => (pt_cmpR ho (ha.run B W tk) (hb.run B W tk) hm).imp fun σ H Q q => by
    obtain ⟨G, env, S, h⟩ := tT_val q
    exact tE_bin ⟨G, env, S, h⟩⟩
def Tt.not (f : FB) : FB := fun env => (f env).bind fun b e => .ok (!b) e
theorem dt_not {f : FB} (ha : DT X a f) : DT X (.UnaryOp .Not a pos) (Tt.not f) := by
  refine ⟨fun B W tk => (pt_not (ha.run B W tk)).imp fun σ H Q h => ?_⟩
  obtain ⟨G, env, S, h⟩ := h
  refine ⟨G, env, S, ?_⟩
  unfold Tt.not at h
  cases q : f env with
  | stk => simp [q, oE] at h
  | exc x e' => simp only [q, Out.bind_exc] at h; exact h
  | ok b e1 =>
    simp only [q, Out.bind_ok] at h
    exact fun G1 H1 S1 l1 => h G1 H1 S1 l1
def Tt.and (f g : FB) : FB := fun env => (f env).bind fun b e => if b = true then g e else .ok false e
def Tt.or (f g : FB) : FB := fun env => (f env).bind fun b e => if b = true then .ok true e else g e
theorem dw_and1 {f : FB} (ha : DT X a f) : DW X (.BoolOp .And [a] pos) f := ⟨fun B W tk => pw_and1 (ha.run B W tk)⟩
theorem dw_or1 {f : FB} (ha : DT X a f) : DW X (.BoolOp .Or [a] pos) f := ⟨fun B W tk => pw_or1 (ha.run B W tk)⟩
theorem _root_.L2.PW.imp {X : Cx} {e : Expr} {t t' : TT} (h : PW X e t) (w : ∀ σ H Q, t' σ H Q → t σ H Q) : PW X e t' := ⟨fun wh pins s σ H Q I q => h.run wh pins s σ H Q I (w σ H Q q)⟩
theorem dw_and {rest : List Expr} {f g : FB} (ha : DT X a f) (hb : DW X (.BoolOp .And (b :: rest) pos) g) : DW X (.BoolOp .And (a :: b :: rest) pos) (Tt.and f g) := by
  refine ⟨fun B W tk => (pw_and (ha.run B W tk) (hb.run B W tk)).imp fun σ H Q h => ?_⟩
  obtain ⟨G, env, S, h⟩ := h
  refine ⟨G, env, S, ?_⟩
  unfold Tt.and at h
  cases q : f env with
  | stk => simp [q, oE] at h
  | exc x e' => simp only [q, Out.bind_exc] at h; exact h
  | ok c e1 =>
    simp only [q, Out.bind_ok] at h
    refine fun G1 H1 S1 l1 => ?_
    cases c with
    | true => exact iteT ⟨G1, e1, S1, oE.mono (by simpa using h) l1 fun _ _ _ _ _ z => z⟩
    | false => exact iteF (h G1 H1 S1 l1)
theorem dw_or {rest : List Expr} {f g : FB} (ha : DT X a f) (hb : DW X (.BoolOp .Or (b :: rest) pos) g) : DW X (.BoolOp .Or (a :: b :: rest) pos) (Tt.or f g) := by
  refine ⟨fun B W tk => (pw_or (ha.run B W tk) (hb.run B W tk)).imp fun σ H Q h => ?_⟩
  obtain ⟨G, env, S, h⟩ := h
  refine ⟨G, env, S, ?_⟩
  unfold Tt.or at h
  cases q : f env with
  | stk => simp [q, oE] at h
  | exc x e' => simp only [q, Out.bind_exc] at h; exact h
  | ok c e1 =>
    simp only [q, Out.bind_ok] at h
    refine fun G1 H1 S1 l1 => ?_
    cases c with
    | true => exact iteT (h G1 H1 S1 l1)
    | false => exact iteF ⟨G1, e1, S1, oE.mono (by simpa using h) l1 fun _ _ _ _ _ z => z⟩
/-! as values -/
def E.and (f g : FE) : FE := fun env => (f env).bind fun a e => match rd e a with
  | some (.bl b) => if b = true then g e else .ok (.dv (.bl false)) e
  | _ => .stk
def E.or (f g : FE) : FE := fun env => (f env).bind fun a e => match rd e a with
  | some (.bl b) => if b = true then .ok (.dv (.bl true)) e else g e
  | _ => .stk
def notD : D → Option D
  | .bl b => some (.bl (!b))
  | _ => none
def E.not (f : FE) : FE := E.c1 notD f
theorem de_one {op} {f : FE} (ha : DE X a f) : DE X (.BoolOp op [a] pos) f := ⟨fun B W tk => pe_one (ha.run B W tk)⟩
theorem de_and {rest : List Expr} {f g : FE} (ha : DE X a f) (hb : DE X (.BoolOp .And (b :: rest) pos) g) : DE X (.BoolOp .And (a :: b :: rest) pos) (E.and f g) := by
  refine ⟨fun B W tk => (pe_and (ha.run B W tk) (hb.run B W tk)).imp fun σ H Q h => ?_⟩
  obtain ⟨G, env, S, h⟩ := h
  refine ⟨G, env, S, ?_⟩
  unfold E.and at h
  cases q : f env with
  | stk => simp [q, oE] at h
  | exc x e' => simp only [q, Out.bind_exc] at h; exact h
  | ok c e1 =>
    simp only [q, Out.bind_ok] at h
    refine fun G1 H1 S1 l1 v r1 => ?_
    cases qa : rd e1 c with
    | none => simp [qa, oE] at h
    | some d =>
      cases d with
      | bl b =>
        simp only [qa] at h
        refine ⟨b, (S1.orel r1 qa).bl, ?_⟩
        cases b with
        | true => exact iteT ⟨G1, e1, S1, oE.mono (by simpa using h) l1 fun _ _ _ _ _ z => z⟩
        | false => exact iteF (h G1 H1 S1 l1 _ (.bl _))
      | _ => simp [qa, oE] at h
theorem de_or {rest : List Expr} {f g : FE} (ha : DE X a f) (hb : DE X (.BoolOp .Or (b :: rest) pos) g) : DE X (.BoolOp .Or (a :: b :: rest) pos) (E.or f g) := by
  refine ⟨fun B W tk => (pe_or (ha.run B W tk) (hb.run B W tk)).imp fun σ H Q h => ?_⟩
  obtain ⟨G, env, S, h⟩ := h
  refine ⟨G, env, S, ?_⟩
  unfold E.or at h
  cases q : f env with
  | stk => simp [q, oE] at h
  | exc x e' => simp only [q, Out.bind_exc] at h; exact h
  | ok c e1 =>
    simp only [q, Out.bind_ok] at h
    refine fun G1 H1 S1 l1 v r1 => ?_
    cases qa : rd e1 c with
    | none => simp [qa, oE] at h
    | some d =>
      cases d with
      | bl b =>
        simp only [qa] at h
        refine ⟨b, (S1.orel r1 qa).bl, ?_⟩
        cases b with
        | true => exact iteT (h G1 H1 S1 l1 _ (.bl _))
        | false => exact iteF ⟨G1, e1, S1, oE.mono (by simpa using h) l1 fun _ _ _ _ _ z => z⟩
      | _ => simp [qa, oE] at h
theorem de_not {f : FE} (ha : DE X a f) : DE X (.UnaryOp .Not a pos) (E.not f) := by
  refine ⟨fun B W tk => (pe_not (ha.run B W tk)).imp fun σ H Q h => ?_⟩
  obtain ⟨G, env, S, h⟩ := tE_u1 h
  refine ⟨G, env, S, h.mono (Same.refl G) fun a e' G' H' l k v r => ?_⟩
  obtain ⟨G2, d, z, l2, o, hz, kk⟩ := k v r
  unfold notD at hz
  split at hz
  · cases hz
    exact ⟨_, o.bl, Kont.same kk l2 (.bl _)⟩
  · cases hz
def E.ite (t : FB) (f g : FE) : FE := fun env => (t env).bind fun b e => if b = true then f e else g e
theorem de_ite {c : Expr} {t : FB} {f g : FE} (hc : DT X c t) (ha : DE X a f) (hb : DE X b g) : DE X (.IfExp c a b pos) (E.ite t f g) := by
  refine ⟨fun B W tk => (pe_ifExp (hc.run B W tk) (ha.run B W tk) (hb.run B W tk)).imp fun σ H Q h => ?_⟩
  obtain ⟨G, env, S, h⟩ := h
  refine ⟨G, env, S, ?_⟩
  unfold E.ite at h
  cases q : t env with
  | stk => simp [q, oE] at h
  | exc x e' => simp only [q, Out.bind_exc] at h; exact h
  | ok c e1 =>
    simp only [q, Out.bind_ok] at h
    refine fun G1 H1 S1 l1 => ?_
    cases c with
    | true => exact iteT ⟨G1, e1, S1, oE.mono (by simpa using h) l1 fun _ _ _ _ _ z => z⟩
    | false => exact iteF ⟨G1, e1, S1, oE.mono (by simpa using h) l1 fun _ _ _ _ _ z => z⟩
/-- a < b < c -/
def E.chn (op op' : D → D → Option D) (f g h : FE) : FE := fun env => (f env).bind fun a e1 => (g e1).bind fun b e2 => match rd e2 a, rd e2 b with
  | some x, some y => match op x y with
    | some (.bl true) => (h e2).bind fun c e3 => match rd e3 b, rd e3 c with
      | some y', some z => match op' y' z with
        | some w => .ok (.dv w) e3
        | none => .stk
      | _, _ => .stk
    | some (.bl false) => .ok (.dv (.bl false)) e2
    | _ => .stk
  | _, _ => .stk
theorem tE_chn {T : Stt} {B : Bse} {W : WX} {op op' : D → D → Option D} {f g h : FE} {σ : St} {H : Hp} {Q : VK} (q : tE T B W (E.chn op op' f g h) σ H Q) : tChain (rD T op) (rD T op') (tE T B W f) (tE T B W g) (tE T B W h) σ H Q := by
  obtain ⟨G, env, S, q⟩ := q
  refine ⟨G, env, S, ?_⟩
  unfold E.chn at q
  cases q1 : f env with
  | stk => simp [q1, oE] at q
  | exc x e' => simp only [q1, Out.bind_exc] at q; exact q
  | ok a e1 =>
    simp only [q1, Out.bind_ok] at q
    refine fun G1 H1 S1 l1 v1 r1 => ⟨G1, e1, S1, ?_⟩
    cases q2 : g e1 with
    | stk => simp [q2, oE] at q
    | exc x e' =>
      simp only [q2, Out.bind_exc] at q
      exact fun cls d G' H' S' l' => q cls d G' H' S' (l1.trans l')
    | ok b e2 =>
      simp only [q2, Out.bind_ok] at q
      refine fun G2 H2 S2 l2 v2 r2 => ?_
      cases qa : rd e2 a with
      | none => simp [qa, oE] at q
      | some x =>
        cases qb : rd e2 b with
        | none => simp [qa, qb, oE] at q
        | some y =>
          simp only [qa, qb] at q
          cases qz : op x y with
          | none => simp [qz, oE] at q
          | some z =>
            refine ⟨G2, x, y, z, S2.gh, S2.orel (r1.same l2) qa, S2.orel r2 qb, qz, fun v G3 H3 g3 gh hh ad rv => ?_⟩
            have S3 := S2.ext g3 gh hh ad
            cases z with
            | bl c =>
              cases rv
              refine ⟨c, rfl, ?_⟩
              cases c with
              | false =>
                simp only [qz] at q
                exact iteF (q G3 H3 S3 ((l1.trans l2).trans g3) _ (.bl _))
              | true =>
                simp only [qz] at q
                refine iteT ⟨G3, e2, S3, ?_⟩
                cases q3 : h e2 with
                | stk => simp [q3, oE] at q
                | exc x e' =>
                  simp only [q3, Out.bind_exc] at q
                  exact fun cls d G' H' S' l' => q cls d G' H' S' (((l1.trans l2).trans g3).trans l')
                | ok c e3 =>
                  simp only [q3, Out.bind_ok] at q
                  refine fun G4 H4 S4 l4 v4 r4 => ?_
                  cases qc : rd e3 b with
                  | none => simp [qc, oE] at q
                  | some y' =>
                    cases qd : rd e3 c with
                    | none => simp [qc, qd, oE] at q
                    | some z' =>
                      simp only [qc, qd] at q
                      cases qw : op' y' z' with
                      | none => simp [qw, oE] at q
                      | some w =>
                        simp only [qw] at q
                        exact ⟨G4, y', z', w, S4.gh, S4.orel ((r2.same g3).same l4) qc, S4.orel r4 qd, qw, fun v G5 H5 g5 gh5 hh5 ad5 rv => q G5 H5 (S4.ext g5 gh5 hh5 ad5) ((((l1.trans l2).trans g3).trans l4).trans g5) v rv⟩
            | _ => simp [qz, oE] at q
theorem de_chn {c : Expr} {o o' : CmpOp} {op op' : D → D → Option D} {f g h : FE} (ho : OpD X (compareOp o) op) (ho' : OpD X (compareOp o') op') (ha : DE X a f) (hb : DE X b g) (hc : DE X c h)
    (hm : lastMarks [o, o'] [b, c] = false := by with_unfolding_all rfl) : DE X (.Compare a [o, o'] [b, c] pos) (E.chn op op' f g h) :=
  ⟨fun B W tk => (pe_chain ho ho' (ha.run B W tk) (hb.run B W tk) (hc.run B W tk) hm).imp fun σ H Q q => tE_chn q⟩
theorem dt_chn {c : Expr} {o o' : CmpOp} {op op' : D → D → Option D} {f g h : FE} (ho : OpD X (compareOp o) op) (ho' : OpD X (compareOp o') op') (ha : DE X a f) (hb : DE X b g) (hc : DE X c h)
    (hm : lastMarks [o, o'] [b, c] = false := by with_unfolding_all rfl) : DT X (.Compare a [o, o'] [b, c] pos) (Tt.val (E.chn op op' f g h)) :=
  ⟨fun B W tk => (pt_chain ho ho' (ha.run B W tk) (hb.run B W tk) (hc.run B W tk) hm).imp fun σ H Q q => by
    obtain ⟨G, env, S, h⟩ := tT_val q
    exact tE_chn ⟨G, env, S, h⟩⟩
end

/-! ### subscripts -/
def ixD : D → D → Option D
  | .lst xs, .int i => atI xs i
  | .tup xs, .int i => atI xs i
  | .str x, .int i => if x.length ≤ sizeLine then (atI x.cps.toList i).map fun c => .str ⟨#[c]⟩ else none
  | .dcK ks ds, k => (keyOf k).bind (lookD ks ds)
  | .dcT ks ds, k => (keyT k).bind (lookD ks ds)
  | _, _ => none
theorem atI_rel {T : Stt} {G : Hp} {vs : List V} {ds : List D} {i : Int} {d : D} (r : VRels T G vs ds) (h : atI ds i = some d) : ∃ v, atI vs i = some v ∧ VRel T G v d := by
  unfold atI at h ⊢
  rw [r.length]
  cases q : ixN ds.length i with
  | none => rw [q] at h; cases h
  | some j =>
    rw [q] at h
    exact r.get' h
section
variable {X : Cx} {a b : Expr} {pos : Pos}
theorem ix_D (hu : X.A.units + 1 < cLine) : IxR X (rD ⟨X.K, X.mg⟩ ixD) := by
  intro value slice pins s σ H x y v u Q I rx ry ⟨G, d, e, z, l, ox, oy, hz, k⟩ hs
  unfold ixD at hz
  split at hz
  · obtain ⟨p, vs, rfl, h, r⟩ := ox.lst l
    obtain rfl := oy.int
    obtain ⟨w, h1, h2⟩ := atI_rel r hz
    exact ix_list value slice pins s σ H _ _ v u Q I rx ry ⟨p, vs, _, w, rfl, rfl, SqL.of h, h1, Kont.same k l h2⟩ hs
  · obtain ⟨p, vs, rfl, h, _, r⟩ := ox.tup l
    obtain rfl := oy.int
    obtain ⟨w, h1, h2⟩ := atI_rel r hz
    exact ix_tup value slice pins s σ H _ _ v u Q I rx ry ⟨p, vs, _, w, rfl, rfl, SqT.of h, h1, Kont.same k l h2⟩ hs
  · split at hz
    · rename_i xx i hl
      obtain rfl := ox.str
      obtain rfl := oy.int
      cases q : atI xx.cps.toList i with
      | none => rw [q] at hz; cases hz
      | some c =>
        rw [q] at hz
        cases hz
        exact ix_str value slice pins s σ H _ _ v u Q I rx ry ⟨_, _, c, rfl, rfl, hl, q, Kont.same k l (.str _)⟩ hs
    · cases hz
  · rename_i ks ds
    cases qk : keyOf e with
    | none => rw [qk] at hz; cases hz
    | some kk =>
      rw [qk] at hz
      obtain rfl := keyOf_v oy qk
      obtain ⟨p, kvs, rfl, hr, rfl, rv⟩ := ox.dcK l
      obtain rfl : v = Value.ref p := rx
      obtain ⟨w, h1, h2⟩ := (valV_look rv).1 z hz
      have g : DGet H p (kV kk) (some w) := .inl ⟨kvs, kk, hr, rfl, h1.symm⟩
      exact tail_any (dict_typeIs I g) PySem.F.slot_dict_getitem.lookup (d_getItem hu I g ry fun w' s3 I3 rw' => ⟨w, H, I3, rw', Kont.same k l h2⟩) hs
  · rename_i ks ds
    cases qk : keyT e with
    | none => rw [qk] at hz; cases hz
    | some kk =>
      rw [qk] at hz
      obtain ⟨b, rfl, hb⟩ := keyT_v l oy qk
      obtain ⟨p, kvs, rfl, hr, rfl, rv⟩ := ox.dcT l
      obtain rfl : v = Value.ref p := rx
      obtain ⟨w, h1, h2⟩ := (valV_look rv).1 z hz
      have g : DGet H p (.ref b) (some w) := .inr ⟨kvs, kk, b, hr, rfl, hb, h1.symm⟩
      exact tail_any (dict_typeIs I g) PySem.F.slot_dict_getitem.lookup (d_getItem hu I g ry fun w' s3 I3 rw' => ⟨w, H, I3, rw', Kont.same k l h2⟩) hs
  · cases hz
theorem de_ix {f g : FE} (hu : X.A.units + 1 < cLine) (ha : DE X a f) (hb : DE X b g) (hs : PlainIx b := by intro _ _; rfl) : DE X (.Subscript a b pos) (E.bin ixD f g) :=
  ⟨fun B W tk => (pe_ix (ix_D hu) (ha.run B W tk) (hb.run B W tk) hs).imp fun σ H Q h => tE_bin h⟩
end
end DL
-- DL5
set_option maxRecDepth 100000
set_option maxHeartbeats 4000000
/-! DL5: slices, attributes, calls of defs, statements, loops. -/
namespace DL
open PySem PySem.Spec PyProof.Rows L2

/-! ### slices -/
abbrev FO1 := Ev → Out (Option Int)
def P.no : FO1 := fun env => .ok none env
def P.at (f : FE) : FO1 := fun env => (f env).bind fun a e => match rd e a with
  | some (.int i) => .ok (some i) e
  | _ => .stk
def tOp1 (T : Stt) (B : Bse) (W : WX) (f : FO1) : TO := fun σ H Q => ∃ G env, StR T B G H σ env ∧ oE T B W σ G (f env) fun b e' G' H' => Q b H'
structure DP (X : Cx) (e : Option Expr) (f : FO1) : Prop where
  run : ∀ (B : Bse) (W : WX), Takes X W → PO X e (tOp1 ⟨X.K, X.mg⟩ B W f)
theorem _root_.L2.PO.imp {X : Cx} {e : Option Expr} {t t' : TO} (h : PO X e t) (w : ∀ σ H Q, t' σ H Q → t σ H Q) : PO X e t' := ⟨fun pins s σ H Q I q => h.run pins s σ H Q I (w σ H Q q)⟩
def cutD (xs : List D) (lo hi : Option Int) : List D := (xs.drop (HT.sIx xs.length 0 lo)).take (HT.sIx xs.length xs.length hi - HT.sIx xs.length 0 lo)
def sliceD (d : D) (lo hi : Option Int) : Option D := match d with
  | .tup xs => some (.tup (cutD xs lo hi))
  | .lst xs => some (.lst (cutD xs lo hi))
  | .str z => if z.length ≤ sizeLine then some (.str (cutS z lo hi)) else none
  | .scr is => some (.lst (cutD (is.map .int) lo hi))
  | _ => none
def E.sl (f : FE) (l h : FO1) : FE := fun env => (f env).bind fun a e1 => (l e1).bind fun lo e2 => (h e2).bind fun hi e3 => match rd e3 a with
  | some d => match sliceD d lo hi with
    | some z => .ok (.dv z) e3
    | none => .stk
  | none => .stk
section
variable {X : Cx} {e : Expr} {lo hi : Option Expr} {pos p2 : Pos}
theorem dp_no : DP X none P.no := ⟨fun B W tk => po_none.imp fun σ H Q ⟨G, env, S, h⟩ => h G H S (Same.refl G)⟩
theorem dp_at {f : FE} (h : DE X e f) : DP X (some e) (P.at f) := by
  refine ⟨fun B W tk => (po_some (h.run B W tk)).imp fun σ H Q h => ?_⟩
  obtain ⟨G, env, S, h⟩ := h
  refine ⟨G, env, S, ?_⟩
  unfold P.at at h
  cases q : f env with
  | stk => simp [q, oE] at h
  | exc x e' => simp only [q, Out.bind_exc] at h; exact h
  | ok c e1 =>
    simp only [q, Out.bind_ok] at h
    refine fun G1 H1 S1 l1 v r1 => ?_
    cases qa : rd e1 c with
    | none => simp [qa, oE] at h
    | some d =>
      cases d with
      | int b =>
        simp only [qa] at h
        exact ⟨b, (S1.orel r1 qa).int, h G1 H1 S1 l1⟩
      | _ => simp [qa, oE] at h
theorem VRels.cut {T : Stt} {G : Hp} {vs : List V} {ds : List D} (r : VRels T G vs ds) (lo hi : Option Int) : VRels T G (cutV vs lo hi) (cutD ds lo hi) := by
  unfold cutV cutD
  rw [r.length]
  exact (r.drop _).take _
def rSD (T : Stt) : V → Option Int → Option Int → Hp → VK → Prop := fun x lo hi H Q => ∃ G d z, Le G H ∧ ORel T G H x d ∧ sliceD d lo hi = some z ∧ Kont T G H z Q
theorem cut_whole {xs : List D} {lo hi : Option Int} (h : HT.sIx xs.length 0 lo = 0 ∧ HT.sIx xs.length xs.length hi = xs.length) : cutD xs lo hi = xs := by
  unfold cutD
  rw [h.1, h.2]
  simp
theorem sl_D : SlR X (rSD ⟨X.K, X.mg⟩) := by
  intro pins s σ H x v vl vu lo hi sl Q I rx hs pl pu ⟨G, d, z, l, o, hz, k⟩
  unfold sliceD at hz
  split at hz
  · cases hz
    obtain ⟨a, vs, rfl, h, g, r⟩ := o.tup l
    refine sl_tupA pins s σ H _ v vl vu lo hi sl Q I rx hs pl pu ⟨a, vs, rfl, SqT.of h, fun w => ?_, fun _ p hp => Kont.tup k l hp (r.cut lo hi)⟩
    rw [r.length] at w
    rw [cut_whole w] at k
    exact Kont.same k l (.tup g r)
  · cases hz
    obtain ⟨a, vs, rfl, h, r⟩ := o.lst l
    exact sl_list pins s σ H _ v vl vu lo hi sl Q I rx hs pl pu ⟨a, vs, rfl, SqL.of h, fun p hp => Kont.lst k l hp (r.cut lo hi)⟩
  · split at hz
    · rename_i hl
      cases hz
      obtain rfl := o.str
      exact sl_str pins s σ H _ v vl vu lo hi sl Q I rx hs pl pu ⟨_, rfl, hl, Kont.same k l (.str _)⟩
    · cases hz
  · rename_i is
    cases hz
    obtain ⟨a, rfl, h⟩ := o.scr l
    exact sl_list pins s σ H _ v vl vu lo hi sl Q I rx hs pl pu ⟨a, _, rfl, h, fun p hp => Kont.lst k l hp ((ints_rel is).cut lo hi)⟩
  · cases hz
theorem de_sl {f : FE} {l h : FO1} (he : DE X e f) (hl : DP X lo l) (hh : DP X hi h) : DE X (.Subscript e (.Slice lo hi none p2) pos) (E.sl f l h) := by
  refine ⟨fun B W tk => (pe_slice sl_D (he.run B W tk) (hl.run B W tk) (hh.run B W tk)).imp fun σ H Q q => ?_⟩
  obtain ⟨G, env, S, q⟩ := q
  refine ⟨G, env, S, ?_⟩
  unfold E.sl at q
  cases q1 : f env with
  | stk => simp [q1, oE] at q
  | exc x e' => simp only [q1, Out.bind_exc] at q; exact q
  | ok a e1 =>
    simp only [q1, Out.bind_ok] at q
    refine fun G1 H1 S1 l1 v1 r1 => ⟨G1, e1, S1, ?_⟩
    cases q2 : l e1 with
    | stk => simp [q2, oE] at q
    | exc x e' =>
      simp only [q2, Out.bind_exc] at q
      exact fun cls d G' H' S' l' => q cls d G' H' S' (l1.trans l')
    | ok lo2 e2 =>
      simp only [q2, Out.bind_ok] at q
      refine fun G2 H2 S2 l2 => ⟨G2, e2, S2, ?_⟩
      cases q3 : h e2 with
      | stk => simp [q3, oE] at q
      | exc x e' =>
        simp only [q3, Out.bind_exc] at q
        exact fun cls d G' H' S' l' => q cls d G' H' S' ((l1.trans l2).trans l')
      | ok hi2 e3 =>
        simp only [q3, Out.bind_ok] at q
        refine fun G3 H3 S3 l3 => ?_
        cases qa : rd e3 a with
        | none => simp [qa, oE] at q
        | some d =>
          simp only [qa] at q
          cases qz : sliceD d lo2 hi2 with
          | none => simp [qz, oE] at q
          | some z =>
            simp only [qz] at q
            exact ⟨G3, d, z, S3.gh, S3.orel ((r1.same l2).same l3) qa, qz, fun v G' H' g gh hh ad rv => q G' H' (S3.ext g gh hh ad) (((l1.trans l2).trans l3).trans g) v rv⟩
end

/-! ### attributes of a web -/
def fldD (x : Str) : D → Option D
  | .web n fr fo => if x = "people" then some n else if x = "friends" then some fr else if x = "foes" then some fo else none
  | _ => none
structure WebT (K : PySem.W.Frag) (mg : Str → Option Value) : Prop where
  ex : ∃ C, mg "Web" = some (.ref C) ∧ Cls K C ∧ NoAttr K C "people" ∧ NoAttr K C "friends" ∧ NoAttr K C "foes" ∧ NoAttr K C "kept"
theorem webF_people {a b c d : V} : (webF a b c d).lookup ("people" : Str) = some a := by
  simp [webF, List.lookup]
theorem sne1 : (("friends" : Str) == ("people" : Str)) = false := by decide +kernel
theorem sne2 : (("foes" : Str) == ("people" : Str)) = false := by decide +kernel
theorem sne3 : (("foes" : Str) == ("friends" : Str)) = false := by decide +kernel
theorem sne4 : (("kept" : Str) == ("people" : Str)) = false := by decide +kernel
theorem sne5 : (("kept" : Str) == ("friends" : Str)) = false := by decide +kernel
theorem sne6 : (("kept" : Str) == ("foes" : Str)) = false := by decide +kernel
theorem webF_friends {a b c d : V} : (webF a b c d).lookup ("friends" : Str) = some b := by
  simp [webF, List.lookup, sne1]
theorem webF_foes {a b c d : V} : (webF a b c d).lookup ("foes" : Str) = some c := by
  simp [webF, List.lookup, sne2, sne3]
section
variable {X : Cx} {e : Expr} {pos : Pos} {x : Str}
theorem de_fld {f : FE} (w : WebT X.K X.mg) (he : DE X e f) (hb : attributeBase e x X.env (eval e X.env) = eval e X.env := by rfl) : DE X (.Attribute e x pos) (E.c1 (fldD x) f) := by
  refine ⟨fun B W tk => (pe_fld (he.run B W tk) hb).imp fun σ H Q q => ?_⟩
  obtain ⟨G, env, S, q⟩ := tE_u1 q
  refine ⟨G, env, S, q.mono (Same.refl G) fun a e' G' H' l k v r => ?_⟩
  obtain ⟨G2, d, z, l2, o, hz, kk⟩ := k v r
  obtain ⟨C, c1, c2, c3, c4, c5, _⟩ := w.ex
  unfold fldD at hz
  split at hz
  · rcases o with o | ⟨p, _, c⟩
    · cases o with
      | web cc h r1 r2 r3 =>
        have cc' := c1.symm.trans cc
        cases cc'
        have h2 := l2.nd h True.intro
        split at hz
        · rename_i ex
          cases hz
          subst ex
          exact ⟨_, C, _, _, _, rfl, h2, c2, c3, webF_people, Kont.same kk l2 r1⟩
        · split at hz
          · rename_i ex
            cases hz
            subst ex
            exact ⟨_, C, _, _, _, rfl, h2, c2, c4, webF_friends, Kont.same kk l2 r2⟩
          · split at hz
            · rename_i ex
              cases hz
              subst ex
              exact ⟨_, C, _, _, _, rfl, h2, c2, c5, webF_foes, Kont.same kk l2 r3⟩
            · cases hz
    · exact c.elim
  · cases hz
end

/-! ### calls of defs -/
inductive FO where
  | ok (d : D) | exc (x : Xn) | stk
def oF (T : Stt) (G H : Hp) (o : FO) (Q : VK) (E : XK) : Prop := match o with
  | .ok z => Kont T G H z Q
  | .exc x => ∀ cls d G' H', Same G G' → Le G' H' → Same H H' → Adds G H G' → XRel T G' H' x cls d → E cls d H'
  | .stk => False
/-- what a pure def promises: F of its arguments' data -/
def spD (T : Stt) (F : List D → FO) : Sp := fun vs H Q E => ∃ G ds, Le G H ∧ VRels T G vs ds ∧ oF T G H (F ds) Q E
def E.call (F : List D → FO) (g : FA) : FE := fun env => (g env).bind fun ds e => match F ds with
  | .ok z => .ok (.dv z) e
  | .exc x => .exc x e
  | .stk => .stk
/-- a def of the module that keeps its promise F, by at most level k -/
structure DefOk (P : Program) (w : World) (K : PySem.W.Frag) (mg : Str → Option Value) (base : Heap) (x : Str) (k : Nat) (F : List D → FO) : Prop where
  ex : ∃ f fd ps, mg x = some (.ref f) ∧ PySem.W.keepIn K (.ref f) = true ∧ Binds K fd ps [] ∧ FnOk P w K mg base (L2.CX P w) k f fd ps (spD ⟨K, mg⟩ F)
section
variable {X : Cx} {x : Str} {p pos : Pos} {e : Expr} {es : List Expr} {k : Nat}
theorem tE_call {T : Stt} {B : Bse} {W : WX} {F : List D → FO} {g : FA} {σ : St} {H : Hp} {Q : VK} (h : tE T B W (E.call F g) σ H Q) : tAr T B W g σ H fun vs H1 => spD T F vs H1 Q (WE W σ) := by
  obtain ⟨G, env, S, h⟩ := h
  refine ⟨G, env, S, ?_⟩
  unfold E.call at h
  cases q : g env with
  | stk => simp [q, oE] at h
  | exc x e' => simp only [q, Out.bind_exc] at h; exact h
  | ok ds e1 =>
    simp only [q, Out.bind_ok] at h
    refine fun G1 H1 S1 l1 vs r1 => ⟨G1, ds, S1.gh, r1, ?_⟩
    cases qz : F ds with
    | stk => simp [qz, oE] at h
    | ok z =>
      simp only [qz] at h
      exact fun v G' H' g1 gh hh ad rv => h G' H' (S1.ext g1 gh hh ad) (l1.trans g1) v rv
    | exc x =>
      simp only [qz] at h
      exact fun cls d G' H' g1 gh hh ad rx => h cls d G' H' (S1.ext g1 gh hh ad) (l1.trans g1) rx
theorem de_call {F : List D → FO} {g : FA} (D : DefOk X.prog X.w X.K X.mg X.base x k F) (hr : Room k X.A) (ha : DA X (e :: es) g) (hg : Gl X x := by rfl) (hdb : (x == ("__debug__" : Str)) = false := by decide)
    (he : starEach (e :: es) X.env = (false, eval e X.env) :: starEach es X.env := by rfl) (hpl : (backTo pos (starEach es X.env)).any (·.1) = false := by rfl) : DE X (.Call (.Name x p) (e :: es) [] pos) (E.call F g) := by
  obtain ⟨f, fd, ps, hm, hk, hb, Fk⟩ := D.ex
  exact ⟨fun B W tk => (pe_callS Fk hr hg hm hk hb (fun σ => passAt tk σ) (ha.run B W tk) hdb he hpl).imp fun σ H Q h => tE_call h⟩
end

/-! ### statements -/
inductive SO where
  | nx (e : Ev) | rt (d : D) (e : Ev) | bk (e : Ev) | ct (e : Ev) | exc (x : Xn) (e : Ev) | stk
abbrev FS := Ev → SO
def oS (T : Stt) (B : Bse) (W : WX) (De : Ends) (G : Hp) (o : SO) : Prop := match o with
  | .nx e' => ∀ σ' G' H', StR T B G' H' σ' e' → Same G G' → De.nx σ' H'
  | .rt d e' => ∀ v σ' G' H', StR T B G' H' σ' e' → Same G G' → VRel T G' v d → De.rt v H'
  | .bk e' => ∀ σ' G' H', StR T B G' H' σ' e' → Same G G' → De.bk σ' H'
  | .ct e' => ∀ σ' G' H', StR T B G' H' σ' e' → Same G G' → De.ct σ' H'
  | .exc x e' => ∀ cls d σ' G' H', StR T B G' H' σ' e' → Same G G' → XRel T G' H' x cls d → W cls d σ' H'
  | .stk => False
def tS (T : Stt) (B : Bse) (W : WX) (f : FS) : TS := fun De σ H => ∃ G env, StR T B G H σ env ∧ oS T B W De G (f env)
abbrev Psn (X : Cx) : Prop := PassesOwn (model X.prog X.w) X.A X.env X.xe
structure DS (X : Cx) (st : Stmt) (f : FS) : Prop where
  run : ∀ (B : Bse) (W : WX), Takes X W → Psn X → PS X st (tS ⟨X.K, X.mg⟩ B W f)
structure DSs (X : Cx) (sts : List Stmt) (f : FS) : Prop where
  run : ∀ (B : Bse) (W : WX), Takes X W → Psn X → PSs X sts (tS ⟨X.K, X.mg⟩ B W f)
theorem oS.mono {T : Stt} {B : Bse} {W : WX} {De : Ends} {G G2 : Hp} {o : SO} (h : oS T B W De G o) (s : Same G G2) : oS T B W De G2 o := by
  cases o with
  | nx e' => exact fun σ' G' H' S l => h σ' G' H' S (s.trans l)
  | rt d e' => exact fun v σ' G' H' S l => h v σ' G' H' S (s.trans l)
  | bk e' => exact fun σ' G' H' S l => h σ' G' H' S (s.trans l)
  | ct e' => exact fun σ' G' H' S l => h σ' G' H' S (s.trans l)
  | exc x e' => exact fun c d σ' G' H' S l => h c d σ' G' H' S (s.trans l)
  | stk => exact h
def S.nop : FS := fun env => .nx env
def S.seq (f g : FS) : FS := fun env => match f env with
  | .nx e => g e
  | o => o
section
variable {X : Cx} {pos : Pos}
theorem ds_nil : DSs X [] S.nop := ⟨fun B W tk ps => pss_nil.imp fun De σ H ⟨G, env, Sr, h⟩ => h σ G H Sr (Same.refl G)⟩
theorem tS_seq {T : Stt} {B : Bse} {W : WX} {f g : FS} {De : Ends} {σ : St} {H : Hp} (h : tS T B W (S.seq f g) De σ H) : tSeq (tS T B W f) (tS T B W g) De σ H := by
  obtain ⟨G, env, Sr, h⟩ := h
  refine ⟨G, env, Sr, ?_⟩
  unfold S.seq at h
  cases q : f env with
  | nx e => simp only [q] at h; exact fun σ' G' H' S' l => ⟨G', e, S', h.mono l⟩
  | rt d e => simp only [q] at h; exact h
  | bk e => simp only [q] at h; exact h
  | ct e => simp only [q] at h; exact h
  | exc x e => simp only [q] at h; exact h
  | stk => simp [q, oS] at h
theorem ds_cons {st : Stmt} {sts : List Stmt} {f g : FS} (h1 : DS X st f) (h2 : DSs X sts g) : DSs X (st :: sts) (S.seq f g) := ⟨fun B W tk ps => (pss_cons (h1.run B W tk ps) (h2.run B W tk ps)).imp fun De σ H h => tS_seq h⟩
theorem ds_one {st : Stmt} {f : FS} (h1 : DS X st f) : DSs X [st] f := ⟨fun B W tk ps => pss_one (h1.run B W tk ps)⟩
def Out.toS {α : Type} (o : Out α) (k : α → Ev → SO) : SO := match o with
  | .ok a e => k a e
  | .exc x e => .exc x e
  | .stk => .stk
@[simp] theorem Out.toS_ok {α : Type} (a : α) (e : Ev) (k : α → Ev → SO) : (Out.ok a e).toS k = k a e := rfl
@[simp] theorem Out.toS_exc {α : Type} (x : Xn) (e : Ev) (k : α → Ev → SO) : (Out.exc x e : Out α).toS k = .exc x e := rfl
@[simp] theorem Out.toS_stk {α : Type} (k : α → Ev → SO) : (Out.stk : Out α).toS k = .stk := rfl
/-- from a statement's outcome to its expression's -/
theorem oS_toS {α : Type} {T : Stt} {B : Bse} {W : WX} {De : Ends} {σ : St} {G : Hp} {o : Out α} {k : α → Ev → SO} {R : α → Ev → Hp → Hp → Prop} (h : oS T B W De G (o.toS k))
    (m : ∀ a e' G' H', StR T B G' H' σ e' → Same G G' → oS T B W De G' (k a e') → R a e' G' H') : oE T B W σ G o R := by
  cases o with
  | ok a e => exact fun G' H' S l => m a e G' H' S l (oS.mono h l)
  | exc x e => exact fun c d G' H' S l rx => h c d σ G' H' S l rx
  | stk => exact h
def S.ret (f : FE) : FS := fun env => (f env).toS fun a e => match frz e a with
  | some (d, e2) => .rt d e2
  | none => .stk
theorem ds_ret {e : Expr} {f : FE} (h : DE X e f) : DS X (.Return (some e) pos) (S.ret f) := by
  refine ⟨fun B W tk ps => (ps_ret (h.run B W tk)).imp fun De σ H q => ?_⟩
  obtain ⟨G, env, Sr, q⟩ := q
  refine ⟨G, env, Sr, oS_toS q fun a e' G' H' S' l k v r => ?_⟩
  cases qf : frz e' a with
  | none => simp [qf, oS] at k
  | some p =>
    obtain ⟨d, e2⟩ := p
    simp only [qf] at k
    obtain ⟨G2, S2, l2, rv⟩ := S'.frz r qf
    exact k v σ G2 H' S2 l2 rv
def S.retN : FS := fun env => .rt .non env
theorem ds_retN : DS X (.Return none pos) S.retN := ⟨fun B W tk ps => ps_retN.imp fun De σ H ⟨G, env, Sr, h⟩ => h .non σ G H Sr (Same.refl G) .non⟩
def S.expr (f : FE) : FS := fun env => (f env).toS fun _ e => .nx e
theorem ds_expr {e : Expr} {f : FE} (h : DE X e f) (hs : swapsWith e none pos.line X.env = pure false := by rfl) : DS X (.Expr e pos) (S.expr f) := by
  refine ⟨fun B W tk ps => (ps_expr (h.run B W tk) hs).imp fun De σ H q => ?_⟩
  obtain ⟨G, env, Sr, q⟩ := q
  exact ⟨G, env, Sr, oS_toS q fun a e' G' H' S' l k v r => k σ G' H' S' (Same.refl G')⟩
theorem ds_pass : DS X (.Pass pos) S.nop := ⟨fun B W tk ps => ps_pass.imp fun De σ H ⟨G, env, Sr, h⟩ => h σ G H Sr (Same.refl G)⟩
def S.brk : FS := fun env => .bk env
def S.cnt : FS := fun env => .ct env
theorem ds_brk : DS X (.Break pos) S.brk := ⟨fun B W tk ps => ps_break.imp fun De σ H ⟨G, env, Sr, h⟩ => h σ G H Sr (Same.refl G)⟩
theorem ds_cnt : DS X (.Continue pos) S.cnt := ⟨fun B W tk ps => ps_continue.imp fun De σ H ⟨G, env, Sr, h⟩ => h σ G H Sr (Same.refl G)⟩
def S.ifs (t : FB) (f g : FS) : FS := fun env => (t env).toS fun b e => if b = true then f e else g e
theorem ds_if {c : Expr} {a b : List Stmt} {t : FB} {f g : FS} (hc : DT X c t) (ha : DSs X a f) (hb : DSs X b g) : DS X (.If c a b pos) (S.ifs t f g) := by
  refine ⟨fun B W tk ps => (ps_if (hc.run B W tk) (ha.run B W tk ps) (hb.run B W tk ps)).imp fun De σ H q => ?_⟩
  obtain ⟨G, env, Sr, q⟩ := q
  refine ⟨G, env, Sr, oS_toS q fun c e' G' H' S' l k => ?_⟩
  cases c with
  | true => exact iteT ⟨G', e', S', by simpa using k⟩
  | false => exact iteF ⟨G', e', S', by simpa using k⟩
/-! assignments -/
/-- slot i is set, unless the store stands there -/
def put1 (e : Ev) (i : Nat) (s : Slot) : Ev := match e[i]? with
  | some (.sto _) => e
  | _ => e.set i s
theorem StR.over {T : Stt} {B : Bse} {G H : Hp} {σ : St} {env : Ev} (Sr : StR T B G H σ env) {i : Nat} (h : σ.length ≤ i) (o : Option V) : StR T B G H (σ.set i o) env := by
  rw [List.set_eq_of_length_le h]; exact Sr
theorem StR.put1 {T : Stt} {B : Bse} {G H : Hp} {σ : St} {env : Ev} (Sr : StR T B G H σ env) {i : Nat} {o : Option V} {s' : Slot} (k : ∀ s, env[i]? = some s → (∀ M, s ≠ .sto M) → StR T B G H (σ.set i o) (env.set i s')) : StR T B G H (σ.set i o) (DL.put1 env i s') := by
  unfold DL.put1
  split
  · rename_i M q
    exact Sr.over ((Sr.top i _ q).mpr ⟨M, rfl⟩) o
  · rename_i q
    cases h : env[i]? with
    | none =>
      have hl := List.getElem?_eq_none_iff.mp h
      rw [List.set_eq_of_length_le hl]
      exact Sr.over (Nat.le_trans Sr.len hl) o
    | some s => exact k s h fun M z => q M (by rw [h, z])
theorem StR.set0 {T : Stt} {B : Bse} {G H : Hp} {σ : St} {env : Ev} (Sr : StR T B G H σ env) {v : V} {d : D} (r : VRel T G v d) (i : Nat) {s0 : Slot} (e0 : env[i]? = some s0) (n0 : ∀ M, s0 ≠ .sto M) : StR T B G H (σ.set i (some v)) (env.set i (.val d)) where
  gh := Sr.gh
  g0 := Sr.g0
  h0 := Sr.h0
  lk := Sr.lk
  add := Sr.add
  len := by rw [List.length_set, List.length_set]; exact Sr.len
  top := by
    rw [List.length_set]
    exact top_set Sr.top e0 ⟨fun ⟨M, z⟩ => (n0 M z).elim, fun ⟨M, z⟩ => nomatch z⟩
  sto := fun M e => Sr.sto M (by rw [← sto_set (s' := Slot.val d) e0 n0 (fun _ z => nomatch z)]; exact e)
  val := fun j d' e => by
    by_cases z : i = j
    · subst z
      have hi : i < env.length := by
        have := (List.getElem?_eq_some_iff.mp e).1
        rwa [List.length_set] at this
      rw [List.getElem?_set_self hi] at e
      cases e
      exact ⟨v, List.getElem?_set_self (Sr.lt e0 n0), r⟩
    · rw [List.getElem?_set_ne z] at e
      rw [List.getElem?_set_ne z]
      exact Sr.val j d' e
  own := fun j d' e => by
    by_cases z : i = j
    · subst z
      have hi : i < env.length := by
        have := (List.getElem?_eq_some_iff.mp e).1
        rwa [List.length_set] at this
      rw [List.getElem?_set_self hi] at e
      cases e
    · rw [List.getElem?_set_ne z] at e
      rw [List.getElem?_set_ne z]
      exact Sr.own j d' e
  dis := fun j k d1 d2 p e1 e2 h1 h2 => by
    have ne : ∀ {m : Nat} {x : D}, (env.set i (.val d))[m]? = some (.own x) → i ≠ m := fun {m x} e z => by
      subst z
      have hi : i < env.length := by
        have := (List.getElem?_eq_some_iff.mp e).1
        rwa [List.length_set] at this
      rw [List.getElem?_set_self hi] at e
      cases e
    have n1 := ne e1
    have n2 := ne e2
    rw [List.getElem?_set_ne n1] at e1 h1
    rw [List.getElem?_set_ne n2] at e2 h2
    exact Sr.dis j k d1 d2 p e1 e2 h1 h2
/-- .. with an own container -/
theorem StR.set {T : Stt} {B : Bse} {G H : Hp} {σ : St} {env : Ev} (Sr : StR T B G H σ env) {v : V} {d : D} (r : VRel T G v d) (i : Nat) : StR T B G H (σ.set i (some v)) (DL.put1 env i (.val d)) := Sr.put1 fun s e n => Sr.set0 r i e n
theorem StR.setO0 {T : Stt} {B : Bse} {G H : Hp} {σ : St} {env : Ev} (Sr : StR T B G H σ env) {p : Addr} {d : D} (hb : B.2 p = none ∧ B.3 p = none) (hg : G p = none) (hn : ∀ (j : Nat) d', env[j]? = some (.own d') → σ[j]? ≠ some (some (.ref p))) (r : CRel T G H p d) (i : Nat) {s0 : Slot} (e0 : env[i]? = some s0) (n0 : ∀ M, s0 ≠ .sto M) :
    StR T B G H (σ.set i (some (.ref p))) (env.set i (.own d)) where
  gh := Sr.gh
  g0 := Sr.g0
  h0 := Sr.h0
  lk := Sr.lk
  add := Sr.add
  len := by rw [List.length_set, List.length_set]; exact Sr.len
  top := by
    rw [List.length_set]
    exact top_set Sr.top e0 ⟨fun ⟨M, z⟩ => (n0 M z).elim, fun ⟨M, z⟩ => nomatch z⟩
  sto := fun M e => Sr.sto M (by rw [← sto_set (s' := Slot.own d) e0 n0 (fun _ z => nomatch z)]; exact e)
  val := fun j d' e => by
    by_cases z : i = j
    · subst z
      have hi : i < env.length := by
        have := (List.getElem?_eq_some_iff.mp e).1
        rwa [List.length_set] at this
      rw [List.getElem?_set_self hi] at e
      cases e
    · rw [List.getElem?_set_ne z] at e
      rw [List.getElem?_set_ne z]
      exact Sr.val j d' e
  own := fun j d' e => by
    by_cases z : i = j
    · subst z
      have hi : i < env.length := by
        have := (List.getElem?_eq_some_iff.mp e).1
        rwa [List.length_set] at this
      rw [List.getElem?_set_self hi] at e
      cases e
      exact ⟨p, List.getElem?_set_self (Sr.lt e0 n0), hb, hg, r⟩
    · rw [List.getElem?_set_ne z] at e
      rw [List.getElem?_set_ne z]
      exact Sr.own j d' e
  dis := fun j k d1 d2 q e1 e2 h1 h2 => by
    have at_ : ∀ {m : Nat} {x : D}, (env.set i (.own d))[m]? = some (.own x) → (σ.set i (some (.ref p)))[m]? = some (some (.ref q)) → (m = i ∧ q = p) ∨ (i ≠ m ∧ env[m]? = some (.own x) ∧ σ[m]? = some (some (.ref q))) := fun {m x} e h => by
      by_cases z : i = m
      · subst z
        have hi : i < env.length := by
          have := (List.getElem?_eq_some_iff.mp e).1
          rwa [List.length_set] at this
        rw [List.getElem?_set_self (Sr.lt e0 n0)] at h
        cases h
        exact .inl ⟨rfl, rfl⟩
      · rw [List.getElem?_set_ne z] at e h
        exact .inr ⟨z, e, h⟩
    rcases at_ e1 h1 with ⟨a1, b1⟩ | ⟨a1, b1, c1⟩ <;> rcases at_ e2 h2 with ⟨a2, b2⟩ | ⟨a2, b2, c2⟩
    · rw [a1, a2]
    · subst b1; exact (hn k d2 b2 c2).elim
    · subst b2; exact (hn j d1 b1 c1).elim
    · exact Sr.dis j k d1 d2 q b1 b2 c1 c2
theorem StR.setO {T : Stt} {B : Bse} {G H : Hp} {σ : St} {env : Ev} (Sr : StR T B G H σ env) {p : Addr} {d : D} (hb : B.2 p = none ∧ B.3 p = none) (hg : G p = none) (hn : ∀ (j : Nat) d', env[j]? = some (.own d') → σ[j]? ≠ some (some (.ref p))) (r : CRel T G H p d) (i : Nat) :
    StR T B G H (σ.set i (some (.ref p))) (DL.put1 env i (.own d)) := Sr.put1 fun s e n => Sr.setO0 hb hg hn r i e n
def S.set (i : Nat) (f : FE) : FS := fun env => (f env).toS fun a e => match frz e a with
  | some (d, e2) => .nx (put1 e2 i (.val d))
  | none => .stk
theorem tS_set {T : Stt} {B : Bse} {W : WX} {i : Nat} {f : FE} {De : Ends} {σ : St} {H : Hp} (q : tS T B W (S.set i f) De σ H) : tAsg (tE T B W f) (gName i) De σ H := by
  obtain ⟨G, env, Sr, q⟩ := q
  refine ⟨G, env, Sr, oS_toS q fun a e' G' H' S' l k v r => ?_⟩
  cases qf : frz e' a with
  | none => simp [qf, oS] at k
  | some p =>
    obtain ⟨d, e2⟩ := p
    simp only [qf] at k
    obtain ⟨G2, S2, l2, rv⟩ := S'.frz r qf
    exact k (σ.set i (some v)) G2 H' (S2.set rv i) l2
theorem ds_set (i : Nat) {x : Str} {e : Expr} {pos' : Pos} {f : FE} (hN : X.N.Nodup) (he : DE X e f) (hi : X.N[i]? = some x := by rfl) (hx : Loc X.env.scope x := by first | exact Or.inl rfl | exact Or.inr rfl) (hs : swapsWith e (some (.Name x pos')) pos.line X.env = pure false := by rfl)
    (hf : X.fn x = true ∨ X.env.scope.names.lookup x = some .local := by first | exact .inl rfl | exact .inr rfl | assumption) : DS X (.Assign [.Name x pos'] e pos) (S.set i f) :=
  ⟨fun B W tk ps => (ps_set hN hi hx (he.run B W tk) hs hf).imp fun De σ H q => tS_set q⟩
def S.own (i : Nat) (f : FD) : FS := fun env => (f env).toS fun d e => .nx (put1 e i (.own d))
theorem tS_own {T : Stt} {B : Bse} {W : WX} {i : Nat} {f : FD} {De : Ends} {σ : St} {H : Hp} (q : tS T B W (S.own i f) De σ H) : tAsg (tF T B W f) (gName i) De σ H := by
  obtain ⟨G, env, Sr, q⟩ := q
  exact ⟨G, env, Sr, oS_toS q fun d e' G' H' S' l k p n1 n2 n3 r => k (σ.set i (some (.ref p))) G' H' (S'.setO n1 n2 n3 r i) (Same.refl G')⟩
theorem ds_own (i : Nat) {x : Str} {e : Expr} {pos' : Pos} {f : FD} (hN : X.N.Nodup) (he : DF X e f) (hi : X.N[i]? = some x := by rfl) (hx : Loc X.env.scope x := by first | exact Or.inl rfl | exact Or.inr rfl) (hs : swapsWith e (some (.Name x pos')) pos.line X.env = pure false := by rfl)
    (hf : X.fn x = true ∨ X.env.scope.names.lookup x = some .local := by first | exact .inl rfl | exact .inr rfl | assumption) : DS X (.Assign [.Name x pos'] e pos) (S.own i f) :=
  ⟨fun B W tk ps => (ps_set hN hi hx (he.run B W tk) hs hf).imp fun De σ H q => tS_own q⟩
end

/-! ### targets -/
inductive Tgt where
  | nm (i : Nat) | tp (ts : List Tgt)
  /-- x[k], x in slot i, a list of the store -/
  | six (i : Nat) (k : Int)
/-- a thing of the store is changed -/
theorem StR.updP {T : Stt} {B : Bse} {G H : Hp} {σ : St} {env : Ev} {M : List D} {n : Nat} {p : Addr} {o : HO} {d' : D} (S : StR T B G H σ env) (hM : stoOf env = some M) (hp : G p = some (.own n)) (hc : MRel T G (L2.upd H p o) p d') :
    StR T B G (L2.upd H p o) σ (setSto env (M.set n d')) := by
  obtain ⟨s1, s2, s3, s4⟩ := S.sto M hM
  have hn : n < M.length := s3 p n hp
  obtain ⟨p0, b1, b2, b3, b4⟩ := s2 n (M[n]'hn) (List.getElem?_eq_getElem hn)
  obtain rfl := s4 _ _ n hp b1
  have hl : env[env.length - 1]? = some (.sto M) := by
    unfold stoOf at hM
    split at hM
    · rename_i q; cases hM; rw [List.getLast?_eq_getElem?] at q; exact q
    · cases hM
  have hi := (List.getElem?_eq_some_iff.mp hl).1
  have other : ∀ {j : Nat} {s : Slot}, (setSto env (M.set n d'))[j]? = some s → (∀ M, s ≠ .sto M) → env[j]? = some s := fun {j s} e nn => by
    unfold setSto at e
    by_cases z : env.length - 1 = j
    · subst z; rw [List.getElem?_set_self hi] at e; cases e; exact (nn _ rfl).elim
    · rw [List.getElem?_set_ne z] at e; exact e
  obtain ⟨u, hu, mu⟩ := hc.some
  rw [upd_same] at hu
  cases hu
  refine ⟨fun a w e => ?_, S.g0, fun a w e => ?_, fun a w e => ?_, S.add, by unfold setSto; rw [List.length_set]; exact S.len, top_set S.top hl ⟨fun ⟨_, _⟩ => ⟨_, rfl⟩, fun ⟨_, _⟩ => ⟨_, rfl⟩⟩, fun M' e => ?_, fun i d e => S.val i d (other e fun _ z => nomatch z), fun i d e => ?_, fun i j x y q h1 h2 => S.dis i j x y q (other h1 fun _ z => nomatch z) (other h2 fun _ z => nomatch z)⟩
  · by_cases z : a = p
    · subst z
      rw [hp] at e
      cases e
      exact .inr (.inr ⟨n, o, rfl, upd_same, fun xs z => by subst z; exact mu⟩)
    · rw [upd_ne z]; exact S.gh a w e
  · rw [upd_ne (fun z => by subst z; have b2' : B.2 a = none := b2; rw [b2'] at e; cases e)]; exact S.h0 a w e
  · rw [upd_ne (fun z => by subst z; have b3' : B.3 a = none := b3; rw [b3'] at e; cases e)]; exact S.lk a w e
  · have eM : M' = M.set n d' := by
      unfold stoOf setSto at e
      rw [List.getLast?_eq_getElem?, List.length_set, List.getElem?_set_self hi] at e
      cases e
      rfl
    subst eM
    refine ⟨s1, fun m d1 e => ?_, fun q m e => by rw [List.length_set]; exact s3 q m e, s4⟩
    by_cases hm : n = m
    · subst hm
      rw [List.getElem?_set_self hn] at e
      cases e
      exact ⟨p, hp, b2, b3, hc⟩
    · rw [List.getElem?_set_ne hm] at e
      obtain ⟨q, a1, a2, a3, a4⟩ := s2 m d1 e
      have nq : q ≠ p := fun z => by rw [z, hp] at a1; cases a1; exact hm rfl
      exact ⟨q, a1, a2, a3, a4.same (Same.refl G) fun u z => by rw [upd_ne nq]; exact z⟩
  · obtain ⟨q, a1, a2, a3, a4⟩ := S.own i d (other e fun _ z => nomatch z)
    have nq : q ≠ p := fun z => by rw [z, hp] at a3; cases a3
    exact ⟨q, a1, a2, a3, a4.same (Same.refl G) fun u z => by rw [upd_ne nq]; exact z⟩
/-- what stands at n of the store -/
theorem StR.stoAt {T : Stt} {B : Bse} {G H : Hp} {σ : St} {env : Ev} {M : List D} {n : Nat} {d : D} {v : V} (S : StR T B G H σ env) (hM : stoOf env = some M) (hd : M[n]? = some d) (r : VRel T G v (.ptr n)) : ∃ p, v = .ref p ∧ G p = some (.own n) ∧ MRel T G H p d := by
  obtain ⟨s1, s2, s3, s4⟩ := S.sto M hM
  cases r with
  | ptr h =>
    obtain ⟨q, a1, a2, a3, a4⟩ := s2 n d hd
    obtain rfl := s4 _ _ n h a1
    exact ⟨_, rfl, a1, a4⟩
def sixM (M : List D) (n : Nat) (k : Int) (d : D) (env : Ev) : Option Ev := match M[n]? with
  | some (.lst xs) => if 0 ≤ k ∧ k < xs.length then some (setSto env (M.set n (.lst (xs.set k.toNat d)))) else none
  | _ => none
def sixE (i : Nat) (k : Int) (d : D) (env : Ev) : Option Ev := match env[i]?, stoOf env with
  | some (.val (.ptr n)), some M => sixM M n k d env
  | _, _ => none
theorem VRels.set {T : Stt} {G : Hp} {v : V} {d : D} (r : VRel T G v d) : ∀ {vs : List V} {ds : List D} (i : Nat), VRels T G vs ds → VRels T G (vs.set i v) (ds.set i d)
  | _, _, _, .nil => .nil
  | _, _, 0, .cons _ t => .cons r t
  | _, _, i + 1, .cons q t => .cons q (VRels.set r i t)
mutual
def bindT : Tgt → D → Ev → Option Ev
  | .nm i, d, env => some (put1 env i (.val d))
  | .six i k, d, env => sixE i k d env
  | .tp ts, .tup ds, env => bindTs ts ds env
  | .tp _, _, _ => none
def bindTs : List Tgt → List D → Ev → Option Ev
  | [], [], env => some env
  | t :: ts, d :: ds, env => (bindT t d env).bind fun e => bindTs ts ds e
  | _, _, _ => none
end
theorem bindTs_len : ∀ {ts : List Tgt} {ds : List D} {env e : Ev}, bindTs ts ds env = some e → ts.length = ds.length
  | [], [], _, _, _ => rfl
  | t :: ts, d :: ds, env, e, h => by
    rw [bindTs] at h
    cases q : bindT t d env with
    | none => rw [q] at h; cases h
    | some e1 =>
      rw [q] at h
      simp [bindTs_len (ts := ts) (ds := ds) h]
  | [], _ :: _, _, _, h => by simp [bindTs] at h
  | _ :: _, [], _, _, h => by simp [bindTs] at h
mutual
def Tgt.slots : Tgt → List Nat
  | .nm i => [i]
  | .six _ _ => []
  | .tp ts => slotsAll ts
def slotsAll : List Tgt → List Nat
  | [] => []
  | t :: ts => t.slots ++ slotsAll ts
end
/-- the slots but those of vs are as they were -/
def Agr (vs : List Nat) (σ σ' : St) : Prop := σ'.length = σ.length ∧ ∀ j, j ∉ vs → σ'[j]? = σ[j]?
theorem Agr.trans {vs ws : List Nat} {σ σ1 σ2 : St} (a : Agr vs σ σ1) (b : Agr ws σ1 σ2) : Agr (vs ++ ws) σ σ2 :=
  ⟨b.1.trans a.1, fun j h => (b.2 j fun z => h (List.mem_append_right _ z)).trans (a.2 j fun z => h (List.mem_append_left _ z))⟩
def gT (T : Stt) (B : Bse) (tg : Tgt) : TG := fun v σ H Q => ∃ G env d e', StR T B G H σ env ∧ VRel T G v d ∧ bindT tg d env = some e' ∧ ∀ σ' H', StR T B G H' σ' e' → Agr tg.slots σ σ' → Q σ' H'
def gTs (T : Stt) (B : Bse) (ts : List Tgt) : TGs := fun vs σ H Q => ∃ G env ds e', StR T B G H σ env ∧ VRels T G vs ds ∧ bindTs ts ds env = some e' ∧ ∀ σ' H', StR T B G H' σ' e' → Agr (slotsAll ts) σ σ' → Q σ' H'
structure DG (X : Cx) (e : Expr) (tg : Tgt) : Prop where
  run : ∀ (B : Bse), PG X e (gT ⟨X.K, X.mg⟩ B tg)
structure DGs (X : Cx) (es : List Expr) (ts : List Tgt) : Prop where
  run : ∀ (B : Bse), PGs X es (gTs ⟨X.K, X.mg⟩ B ts)
theorem _root_.L2.PG.imp {X : Cx} {e : Expr} {t t' : TG} (h : PG X e t) (w : ∀ v σ H Q, t' v σ H Q → t v σ H Q) : PG X e t' := ⟨fun pins s σ H v u Q I r q => h.run pins s σ H v u Q I r (w v σ H Q q)⟩
theorem _root_.L2.PGs.imp {X : Cx} {e : List Expr} {t t' : TGs} (h : PGs X e t) (w : ∀ v σ H Q, t' v σ H Q → t v σ H Q) : PGs X e t' := ⟨fun pins s σ H v u Q I r q => h.run pins s σ H v u Q I r (w v σ H Q q)⟩
section
variable {X : Cx} {pos : Pos}
theorem dg_nm (i : Nat) {x : Str} (hN : X.N.Nodup) (hi : X.N[i]? = some x := by rfl) (hx : Loc X.env.scope x := by first | exact Or.inl rfl | exact Or.inr rfl) (hf : X.fn x = true ∨ X.env.scope.names.lookup x = some .local := by first | exact .inl rfl | exact .inr rfl | assumption) : DG X (.Name x pos) (.nm i) :=
  ⟨fun B => (pg_name hN hi hx hf).imp fun v σ H Q ⟨G, env, d, e', S, r, hb, k⟩ => by
    rw [bindT] at hb
    cases hb
    refine k _ _ (S.set r i) ⟨by rw [List.length_set], fun j hj => ?_⟩
    have hj' : i ≠ j := fun z => hj (by rw [Tgt.slots, z]; exact List.mem_singleton.mpr rfl)
    rw [List.getElem?_set_ne hj']⟩
theorem dg_six (i : Nat) (k : Int) {x : Str} {ix : Expr} {px : Pos} (hk : PE X ix (tC (.int k))) (hN : X.N[i]? = some x := by rfl) (hv : Vis X.env.scope x := by first | exact Or.inl rfl | exact Or.inr (Or.inl rfl) | exact Or.inr (Or.inr rfl)) (hd : (x == ("__debug__" : Str)) = false := by decide)
    (hcd : (x == ("__classdict__" : Str)) = false := by decide)
    (ha : ∀ v, assign (.Subscript (.Name x px) ix pos) X.env v = (do
      let ov ← holding [v] (eval (.Name x px) X.env)
      let iv ← holding [v, ov] (eval ix X.env)
      standAt pos
      holding [v, ov, iv] (setItem ov iv v)
      release [v, ov, iv] []) := by intro _; rfl) : DG X (.Subscript (.Name x px) ix pos) (.six i k) := by
  refine ⟨fun B => (pg_sub (pe_var hN hv hd hcd) hk set_list ha).imp fun v σ H Q ⟨G, env, d, e', S, r, hb, kk⟩ => ?_⟩
  rw [bindT] at hb
  unfold sixE at hb
  cases h1 : env[i]? with
  | none => simp [h1] at hb
  | some sl =>
    cases sl with
    | val x0 =>
      cases x0 with
      | ptr n =>
        cases h2 : stoOf env with
        | none => simp [h1, h2] at hb
        | some M =>
          simp only [h1, h2] at hb
          unfold sixM at hb
          cases h3 : M[n]? with
          | none => rw [h3] at hb; cases hb
          | some dd =>
            rw [h3] at hb
            cases dd with
            | lst xs =>
              dsimp only at hb
              split at hb
              · rename_i hk
                cases hb
                obtain ⟨v0, a1, a2⟩ := S.val i _ h1
                obtain ⟨p, rfl, hp, hc⟩ := S.stoAt h2 h3 a2
                rcases hc with hc | ⟨c, ks, xs, C, dx, kvs, z, _⟩
                · obtain ⟨vs, hh, rr⟩ := hc
                  refine ⟨_, a1, p, vs, k, k.toNat, rfl, rfl, hh, ?_, ?_⟩
                  · unfold ixN
                    rw [rr.length, if_pos hk.1, if_pos hk.2]
                  · exact kk σ _ (S.updP h2 hp (.inl ⟨_, upd_same, rr.set r _⟩)) ⟨rfl, fun _ _ => rfl⟩
                · cases z
              · cases hb
            | _ => simp at hb
      | _ => simp [h1] at hb
    | _ => simp [h1] at hb
theorem dgs_nil : DGs X [] [] := ⟨fun B => pgs_nil.imp fun v σ H Q ⟨G, env, ds, e', S, r, hb, k⟩ => by
  cases r with
  | nil => rw [bindTs] at hb; cases hb; exact ⟨rfl, k σ _ S ⟨rfl, fun _ _ => rfl⟩⟩
  | cons _ _ => simp [bindTs] at hb⟩
theorem dgs_cons {e : Expr} {es : List Expr} {t : Tgt} {ts : List Tgt} (h1 : DG X e t) (h2 : DGs X es ts) (hs : (assignEach (e :: es) X.env).map (·.2) = assign e X.env :: (assignEach es X.env).map (·.2) := by rfl) : DGs X (e :: es) (t :: ts) :=
  ⟨fun B => (pgs_cons (h1.run B) (h2.run B) hs).imp fun v σ H Q ⟨G, env, ds, e', S, r, hb, k⟩ => by
    cases r with
    | nil => simp [bindTs] at hb
    | @cons v1 vr d1 dr r1 rs =>
      rw [bindTs] at hb
      cases q : bindT t d1 env with
      | none => rw [q] at hb; cases hb
      | some e1 =>
        rw [q] at hb
        exact ⟨_, _, rfl, G, env, d1, e1, S, r1, q, fun σ1 H1 S1 a1 => ⟨G, e1, dr, e', S1, rs, hb, fun σ2 H2 S2 a2 => k σ2 H2 S2 (by rw [slotsAll]; exact a1.trans a2)⟩⟩⟩
theorem dg_tp {es : List Expr} {ts : List Tgt} {k n : Nat} (hc : X.calm = true) (h : DGs X es ts) (hl : ts.length = n := by rfl) (hn : (assignEach es X.env).length = n := by rfl) (hst : (assignEach es X.env).findIdx? (·.1) = none := by rfl) : DG X (.Tuple es k pos) (.tp ts) :=
  ⟨fun B => (pg_tup hc (h.run B) hn hst).imp fun v σ H Q ⟨G, env, d, e', S, r, hb, kk⟩ => by
    cases d with
    | tup ds =>
      rw [bindT] at hb
      cases r with
      | tup hh rr => exact ⟨_, _, rfl, SqT.of (S.gh.nd hh True.intro), by rw [rr.length, ← bindTs_len hb, hl], G, env, ds, e', S, rr, hb, fun σ' H' S' a => kk σ' H' S' (by rw [Tgt.slots]; exact a)⟩
    | _ => simp [bindT] at hb⟩
def S.asg (tg : Tgt) (f : FE) : FS := fun env => (f env).toS fun a e => match frz e a with
  | some (d, e2) => match bindT tg d e2 with
    | some e3 => .nx e3
    | none => .stk
  | none => .stk
theorem ds_asg {tg : Tgt} {t e : Expr} {f : FE} (he : DE X e f) (hg : DG X t tg) (hs : swapsWithSole [t] e pos.line X.env = pure false := by rfl) (hw : swappedStores [t] e X.env = pure none := by rfl)
    (h1 : (assignEach [t] X.env).map (·.2) = [assign t X.env] := by rfl) : DS X (.Assign [t] e pos) (S.asg tg f) := by
  refine ⟨fun B W tk ps => (ps_asg (he.run B W tk) (hg.run B) hs hw h1).imp fun De σ H q => ?_⟩
  obtain ⟨G, env, Sr, q⟩ := q
  refine ⟨G, env, Sr, oS_toS q fun a e' G' H' S' l k v r => ?_⟩
  cases qf : frz e' a with
  | none => simp [qf, oS] at k
  | some p =>
    obtain ⟨d, e2⟩ := p
    simp only [qf] at k
    obtain ⟨G2, S2, l2, rv⟩ := S'.frz r qf
    cases qb : bindT tg d e2 with
    | none => simp [qb, oS] at k
    | some e3 =>
      simp only [qb] at k
      exact ⟨G2, e2, d, e3, S2, rv, qb, fun σ' H3 S3 _ => k σ' G2 H3 S3 l2⟩
end

/-! ### loops -/
/-- B' has B's entry and more locks -/
structure BExt (B B' : Bse) : Prop where
  g : B'.1 = B.1
  h : B'.2 = B.2
  lk : Same B.3 B'.3
  pu : B'.4 = B.4
theorem BExt.refl (B : Bse) : BExt B B := ⟨rfl, rfl, Same.refl _, rfl⟩
theorem StR.back {T : Stt} {B B' : Bse} {G H : Hp} {σ : St} {env : Ev} (S : StR T B' G H σ env) (b : BExt B B') : StR T B G H σ env := S.weak b.g b.h b.lk b.pu
theorem oS.fwd {T : Stt} {B B' : Bse} {W : WX} {De : Ends} {G : Hp} {o : SO} (h : oS T B W De G o) (b : BExt B B') : oS T B' W De G o := by
  cases o with
  | nx e' => exact fun σ' G' H' S l => h σ' G' H' (S.back b) l
  | rt d e' => exact fun v σ' G' H' S l => h v σ' G' H' (S.back b) l
  | bk e' => exact fun σ' G' H' S l => h σ' G' H' (S.back b) l
  | ct e' => exact fun σ' G' H' S l => h σ' G' H' (S.back b) l
  | exc x e' => exact fun c d σ' G' H' S l => h c d σ' G' H' (S.back b) l
  | stk => exact h
theorem oE.fwd {α : Type} {T : Stt} {B B' : Bse} {W : WX} {σ : St} {G : Hp} {o : Out α} {R : α → Ev → Hp → Hp → Prop} (h : oE T B W σ G o R) (b : BExt B B') : oE T B' W σ G o R := by
  cases o with
  | ok a e' => exact fun G' H' S l => h G' H' (S.back b) l
  | exc x e' => exact fun c d G' H' S l => h c d G' H' (S.back b) l
  | stk => exact h
/-- J walks ds, which stand in G1, while the locks L hold -/
structure DWalk (T : Stt) (J : It) (G1 L : Hp) (ds : List D) : Prop where
  goes : ∀ i H, i < ds.length → Le G1 H → Same L H → J.go i H
  stops : ∀ H, Le G1 H → Same L H → J.stop ds.length H
  yields : ∀ i H x H', i < ds.length → Le G1 H → Same L H → J.yld i H x H' → ∃ d, ds[i]? = some d ∧ ∀ G, Same G1 G → Le G H → ∃ G', Same G G' ∧ Le G' H' ∧ Same H H' ∧ Adds G H G' ∧ VRel T G' x d
abbrev FI := Ev → Out (List D)
def tIt (T : Stt) (B : Bse) (W : WX) (f : FI) : TI := fun σ H R => ∃ G env, StR T B G H σ env ∧ oE T B W σ G (f env) fun ds e' G' H' => ∀ J H2 B', BExt B B' → StR T B' G' H2 σ e' → DWalk T J G' B'.3 ds → R J H2
structure DI (X : Cx) (tg iter : Expr) (f : FI) : Prop where
  run : ∀ (B : Bse) (W : WX), Takes X W → PI X tg iter (tIt ⟨X.K, X.mg⟩ B W f)
def loopS (tg : Tgt) (body : FS) : List D → Ev → SO
  | [], e => .nx e
  | d :: ds, e => match bindT tg d e with
    | none => .stk
    | some e1 => match body e1 with
      | .nx e2 => loopS tg body ds e2
      | .ct e2 => loopS tg body ds e2
      | .bk e2 => .nx e2
      | o => o
def S.for_ (it : FI) (tg : Tgt) (body : FS) : FS := fun env => (it env).toS fun ds e => loopS tg body ds e
theorem StR.turn {T : Stt} {B : Bse} {G H G' H' : Hp} {σ : St} {env : Ev} (S : StR T B G H σ env) (g : Same G G') (gh : Le G' H') (h : Same H H') (ad : Adds G H G') : StR T B G' H' σ env := S.ext g gh h ad
section
variable {X : Cx} {pos : Pos}
theorem pss_any {ι : Type} {sts : List Stmt} {t : ι → TS} (h : ∀ i, PSs X sts (t i)) : PSs X sts (fun De σ H => ∃ i, t i De σ H) := ⟨fun pins s σ H De I q => let ⟨i, q⟩ := q; (h i).run pins s σ H De I q⟩
theorem pg_any {ι : Type} {e : Expr} {t : ι → TG} (h : ∀ i, PG X e (t i)) : PG X e (fun v σ H Q => ∃ i, t i v σ H Q) := ⟨fun pins s σ H v u Q I r q => let ⟨i, q⟩ := q; (h i).run pins s σ H v u Q I r q⟩
theorem pt_any {ι : Type} {e : Expr} {t : ι → TT} (h : ∀ i, PT X e (t i)) : PT X e (fun σ H Q => ∃ i, t i σ H Q) := ⟨fun pins s σ H Q I q => let ⟨i, q⟩ := q; (h i).run pins s σ H Q I q⟩
theorem pe_any {ι : Type} {e : Expr} {t : ι → TE} (h : ∀ i, PE X e (t i)) : PE X e (fun σ H Q => ∃ i, t i σ H Q) := ⟨fun pins s σ H Q I q => let ⟨i, q⟩ := q; (h i).run pins s σ H Q I q⟩
theorem ds_for {tg iter : Expr} {body : List Stmt} {it : FI} {t : Tgt} {f : FS} (hc : X.calm = true) (hi : DI X tg iter it) (hg : DG X tg t) (hb : DSs X body f) (mk : ∀ {wi : TI} {g : TG} {tb : TS}, Psn X → PI X tg iter wi → PG X tg g → PSs X body tb → PS X (.For tg iter body [] pos) (tFor wi g tb) := by intro wi g tb hp h1 h2 h3; exact ps_for hp rfl h1 h2 h3) :
    DS X (.For tg iter body [] pos) (S.for_ it t f) := by
  refine ⟨fun B W tk ps => (mk ps (hi.run B W tk) (pg_any fun B => hg.run B) (pss_any fun B => hb.run B W tk ps)).imp fun De σ H q => ?_⟩
  obtain ⟨G, env, Sr, q⟩ := q
  refine ⟨G, env, Sr, oS_toS q fun ds e' G1 H0 S0 l1 k J H1 B' bx S1 w => ?_⟩
  refine ⟨fun i m σ H => m = ds.length - i ∧ i ≤ ds.length ∧ ∃ G e, StR ⟨X.K, X.mg⟩ B' G H σ e ∧ Same G1 G ∧ oS ⟨X.K, X.mg⟩ B' W De G (loopS t f (ds.drop i) e), ⟨ds.length, by simp, Nat.zero_le _, G1, e', S1, Same.refl G1, by simpa using k.fwd bx⟩, ?_⟩
  rintro i m σ H ⟨rfl, hi, G, e, S, g, h⟩
  have l : Le G1 H := Le.of_same g S.gh
  by_cases hlt : i < ds.length
  · refine .inr ⟨w.goes i H hlt l (fun a u e => (S.lk a u e).1), fun σ' H' => ∃ G e, StR ⟨X.K, X.mg⟩ B' G H' σ' e ∧ Same G1 G ∧ oS ⟨X.K, X.mg⟩ B' W De G (loopS t f (ds.drop (i + 1)) e), fun σ' H' z => ⟨ds.length - (i + 1), by omega, rfl, hlt, z⟩, fun x H' y => ?_⟩
    obtain ⟨d, hd, yy⟩ := w.yields i H x H' hlt l (fun a u e => (S.lk a u e).1) y
    obtain ⟨G', g', gh', hh', ad', rx⟩ := yy G g S.gh
    have S' := S.turn g' gh' hh' ad'
    have hdr : ds.drop i = d :: ds.drop (i + 1) := by
      obtain ⟨h1, h2⟩ := List.getElem?_eq_some_iff.mp hd
      rw [← h2]
      exact List.drop_eq_getElem_cons h1
    rw [hdr, loopS] at h
    cases qb : bindT t d e with
    | none => simp [qb, oS] at h
    | some e1 =>
      simp only [qb] at h
      refine ⟨B', G', e, d, e1, S', rx, qb, fun σ2 H2 S2 _ => ⟨B', G', e1, S2, ?_⟩⟩
      cases qf : f e1 with
      | nx e2 =>
        simp only [qf] at h
        exact fun σ' G3 H3 S3 l3 => ⟨G3, e2, S3, (g.trans g').trans l3, (h.mono g').mono l3⟩
      | ct e2 =>
        simp only [qf] at h
        exact fun σ' G3 H3 S3 l3 => ⟨G3, e2, S3, (g.trans g').trans l3, (h.mono g').mono l3⟩
      | bk e2 =>
        simp only [qf] at h
        exact fun σ' G3 H3 S3 l3 => h σ' G3 H3 S3 (g'.trans l3)
      | rt d2 e2 =>
        simp only [qf] at h
        exact fun v σ' G3 H3 S3 l3 rv => h v σ' G3 H3 S3 (g'.trans l3) rv
      | exc x2 e2 =>
        simp only [qf] at h
        exact fun c d3 σ' G3 H3 S3 l3 rv => h c d3 σ' G3 H3 S3 (g'.trans l3) rv
      | stk => simp [qf, oS] at h
  · have e0 : i = ds.length := by omega
    subst e0
    rw [List.drop_length, loopS] at h
    exact .inl ⟨w.stops H l (fun a u e => (S.lk a u e).1), h σ G H S (Same.refl G)⟩
def whileS (t : FB) (body : FS) : Nat → Ev → SO
  | 0, _ => .stk
  | n + 1, e => (t e).toS fun b e1 => if b = true then match body e1 with
      | .nx e2 => whileS t body n e2
      | .ct e2 => whileS t body n e2
      | .bk e2 => .nx e2
      | o => o
    else .nx e1
def S.whl (n : Nat) (t : FB) (body : FS) : FS := fun env => whileS t body n env
theorem ds_whl (n : Nat) {c : Expr} {body : List Stmt} {t : FB} {f : FS} (hc : DT X c t) (hb : DSs X body f) : DS X (.While c body [] pos) (S.whl n t f) := by
  refine ⟨fun B W tk ps => (ps_while ps (hc.run B W tk) (hb.run B W tk ps)).imp fun De σ H q => ?_⟩
  obtain ⟨G, env, Sr, q⟩ := q
  refine ⟨fun m σ H => ∃ G e, StR ⟨X.K, X.mg⟩ B G H σ e ∧ oS ⟨X.K, X.mg⟩ B W De G (whileS t f m e), ⟨n, G, env, Sr, q⟩, ?_⟩
  rintro m σ H ⟨G, e, S, h⟩
  cases m with
  | zero => exact (show False from h).elim
  | succ m =>
    rw [whileS] at h
    refine ⟨G, e, S, oS_toS h fun b e1 G1 H1 S1 l1 k => ?_⟩
    cases b with
    | false => exact iteF (k σ G1 H1 S1 (Same.refl G1))
    | true =>
      refine iteT ⟨fun σ' H' => ∃ G e, StR ⟨X.K, X.mg⟩ B G H' σ' e ∧ oS ⟨X.K, X.mg⟩ B W De G (whileS t f m e), fun σ' H' z => ⟨m, Nat.lt_succ_self m, z⟩, G1, e1, S1, ?_⟩
      rw [if_pos rfl] at k
      cases qf : f e1 with
      | nx e2 =>
        simp only [qf] at k
        exact fun σ' G3 H3 S3 l3 => ⟨G3, e2, S3, k.mono l3⟩
      | ct e2 =>
        simp only [qf] at k
        exact fun σ' G3 H3 S3 l3 => ⟨G3, e2, S3, k.mono l3⟩
      | bk e2 =>
        simp only [qf] at k
        exact fun σ' G3 H3 S3 l3 => k σ' G3 H3 S3 l3
      | rt d2 e2 =>
        simp only [qf] at k
        exact fun v σ' G3 H3 S3 l3 rv => k v σ' G3 H3 S3 l3 rv
      | exc x2 e2 =>
        simp only [qf] at k
        exact fun c d3 σ' G3 H3 S3 l3 rv => k c d3 σ' G3 H3 S3 l3 rv
      | stk => simp [qf, oS] at k
end
end DL
-- DL6
set_option maxRecDepth 100000
set_option maxHeartbeats 4000000
/-! DL6: what loops walk; comprehensions; changes of own containers; defs. -/
namespace DL
open PySem PySem.Spec PyProof.Rows L2

/-! ### values walked -/
section
variable {X : Cx} {pins : List (Addr × Obj)} {σ : St} {H : Hp} {s : Shared} {tg : Expr} {R : It → Hp → Prop} {E : Value → Shared → Prop}
theorem pie_list {a : Addr} {xs : List V} (I : Inv X pins σ H s) (hq : SqL X.K H a xs) (q : R (Itl X.K a) H) : wpAny (model X.prog X.w) X.A (pyIter (.ref a)) (PIE X pins σ tg R) E s := by
  obtain ⟨its, rv, p, hz⟩ := I.list hq
  refine wpAny_pyIter_list p.isList ?_
  refine ⟨s.heap.objs.size, [s.heap.objs.size], _, _, H, rfl, I.kept (t' := s.toks) fun b o e => Heap.get?_push_of_some _ e, turn_list a _, ⟨_, Heap.get?_push_size _ rfl, rfl, rfl⟩, fun b hb => ?_, q⟩
  have e : b = s.heap.objs.size := by simpa using hb
  subst e
  exact I.fpOk (Nat.le_refl _) (I.hok.fresh (Nat.le_refl _))
theorem pie_tup {a : Addr} {xs : List V} (I : Inv X pins σ H s) (hq : SqT X.K H a xs) (q : R (Itt X.K a) H) : wpAny (model X.prog X.w) X.A (pyIter (.ref a)) (PIE X pins σ tg R) E s := by
  obtain ⟨its, rv, p, hz⟩ := I.tuple hq
  refine wpAny_pyIter_tuple (show s.heap.IsTuple a its.toArray from p) ?_
  refine ⟨s.heap.objs.size, [s.heap.objs.size], _, _, H, rfl, I.kept (t' := s.toks) fun b o e => Heap.get?_push_of_some _ e, turn_tuple a _, ⟨_, Heap.get?_push_size _ rfl, rfl, rfl⟩, fun b hb => ?_, q⟩
  have e : b = s.heap.objs.size := by simpa using hb
  subst e
  exact I.fpOk (Nat.le_refl _) (I.hok.fresh (Nat.le_refl _))
theorem pie_keysT {d : Addr} {o : Obj} {kvs : List (List Key × V)} (I : Inv X pins σ H s) (hd : H d = some (.frz o (.dT kvs))) (q : R (Itkt d o kvs) H) : wpAny (model X.prog X.w) X.A (pyIter (.ref d)) (PIE X pins σ tg R) E s := by
  obtain ⟨hs, hgd, hx, es, ep, hdt, hsz, ent⟩ := I.frzT hd
  refine iter_keys hs hgd hx hdt (pi_one (tk := s.toks) I _ (turn_keysT _ hdt) ⟨_, Heap.get?_push_size _ rfl, rfl, ?_⟩ q)
  rw [hsz] <;> rfl
theorem pie_keysK {d : Addr} {o : Obj} {kvs : List (Key × V)} (I : Inv X pins σ H s) (hd : H d = some (.frz o (.dK kvs))) (q : R (Itk d o kvs) H) : wpAny (model X.prog X.w) X.A (pyIter (.ref d)) (PIE X pins σ tg R) E s := by
  obtain ⟨hs, hgd, hx, es, ep, vs, hdt, hsz, kv, hm⟩ := I.frzK hd
  refine iter_keys hs hgd hx hdt (pi_one (tk := s.toks) I _ (turn_keys _ hdt) ⟨_, Heap.get?_push_size _ rfl, rfl, ?_⟩ q)
  rw [hsz] <;> rfl
end
def keyKD : Key → D
  | .inl i => .int i
  | .inr x => .str x
def keyTD (k : List Key) : D := .tup (k.map keyKD)
def itemsD : D → Option (List D)
  | .lst xs => some xs
  | .tup xs => some xs
  | .dcT ks _ => some (ks.map keyTD)
  | .dcK ks _ => some (ks.map keyKD)
  | _ => none
theorem keyKD_rel {T : Stt} {G : Hp} : ∀ k : Key, VRel T G (kV k) (keyKD k)
  | .inl i => .int i
  | .inr x => .str x
theorem keysKD_rel {T : Stt} {G : Hp} : ∀ ks : List Key, VRels T G (ks.map kV) (ks.map keyKD)
  | [] => .nil
  | k :: ks => .cons (keyKD_rel k) (keysKD_rel ks)
/-- the walk of a list, a tuple -/
theorem dw_list {T : Stt} {G1 L : Hp} {a : Addr} {vs : List V} {ds : List D} (h : G1 a = some (.lst vs)) (r : VRels T G1 vs ds) : DWalk T (Itl T.K a) G1 L ds where
  goes := fun i H hi l _ => ⟨vs, vs[i]'(by rw [r.length]; exact hi), SqL.of (l.nd h True.intro), by simp⟩
  stops := fun H l _ => ⟨vs, SqL.of (l.nd h True.intro), by rw [r.length]; exact Nat.le_refl _⟩
  yields := fun i H x H' hi l _ y => by
    obtain ⟨e, y⟩ := y
    subst e
    obtain ⟨d, hd, rd⟩ := r.get (y vs (SqL.of (l.nd h True.intro)))
    exact ⟨d, hd, fun G g gh => ⟨G, Same.refl G, gh, Same.refl _, fun a u e => .inl e, rd.same g⟩⟩
theorem dw_tup {T : Stt} {G1 L : Hp} {a : Addr} {vs : List V} {ds : List D} (h : G1 a = some (.tup vs)) (r : VRels T G1 vs ds) : DWalk T (Itt T.K a) G1 L ds where
  goes := fun i H hi l _ => ⟨vs, vs[i]'(by rw [r.length]; exact hi), SqT.of (l.nd h True.intro), by simp⟩
  stops := fun H l _ => ⟨vs, SqT.of (l.nd h True.intro), by rw [r.length]; exact Nat.le_refl _⟩
  yields := fun i H x H' hi l _ y => by
    obtain ⟨e, y⟩ := y
    subst e
    obtain ⟨d, hd, rd⟩ := r.get (y vs (SqT.of (l.nd h True.intro)))
    exact ⟨d, hd, fun G g gh => ⟨G, Same.refl G, gh, Same.refl _, fun a u e => .inl e, rd.same g⟩⟩
theorem dw_keysK {T : Stt} {G1 L : Hp} {d : Addr} {o : Obj} {kvs : List (Key × V)} (h : L d = some (.frz o (.dK kvs))) : DWalk T (Itk d o kvs) G1 L ((kvs.map (·.1)).map keyKD) where
  goes := fun i H hi _ l => ⟨l d _ h, by simpa using hi⟩
  stops := fun H _ l => ⟨l d _ h, by simp⟩
  yields := fun i H x H' hi _ l y => by
    obtain ⟨e, k, v, hk, e2⟩ := y
    subst e e2
    exact ⟨keyKD k, by simp [hk], fun G g gh => ⟨G, Same.refl G, gh, Same.refl _, fun a u e => .inl e, keyKD_rel k⟩⟩
theorem le_add {G H : Hp} (l : Le G H) {q : Addr} {xs : List V} (h : H q = some (.tup xs)) : Same G (upd G q (.tup xs)) ∧ Le (upd G q (.tup xs)) H ∧ Adds G H (upd G q (.tup xs)) := by
  refine ⟨fun a u e => ?_, fun a u e => ?_, fun a u e => ?_⟩
  · by_cases z : a = q
    · subst z
      rw [upd_same]
      rcases l a u e with y | ⟨_, ob, y⟩ | ⟨n, w, m, y, nt⟩
      · rw [h] at y; exact y
      · rw [h] at y; cases y
      · rw [h] at y; cases y; exact (nt _ rfl).elim
    · rw [upd_ne z]; exact e
  · by_cases z : a = q
    · subst z; rw [upd_same] at e; cases e; exact .inl h
    · rw [upd_ne z] at e; exact l a u e
  · by_cases z : a = q
    · subst z; rw [upd_same] at e; cases e; exact .inr (.inr ⟨xs, rfl⟩)
    · rw [upd_ne z] at e; exact .inl e
theorem dw_keysT {T : Stt} {G1 L : Hp} {d : Addr} {o : Obj} {kvs : List (List Key × V)} (h : L d = some (.frz o (.dT kvs))) : DWalk T (Itkt d o kvs) G1 L ((kvs.map (·.1)).map keyTD) where
  goes := fun i H hi _ l => ⟨l d _ h, by simpa using hi⟩
  stops := fun H _ l => ⟨l d _ h, by simp⟩
  yields := fun i H x H' hi _ l y => by
    obtain ⟨e, k, v, q, hk, e2, hq⟩ := y
    subst e e2
    refine ⟨keyTD k, by simp [hk], fun G g gh => ?_⟩
    obtain ⟨g1, g2, g3⟩ := le_add gh hq
    exact ⟨_, g1, g2, Same.refl _, g3, .tup upd_same (keysKD_rel k)⟩
theorem StoR.ch {T : Stt} {B B' : Bse} {G H H' : Hp} {M : List D} (S : StoR T B G H M) (hp : B'.4 = B.4) (h : ∀ p n u, G p = some (.own n) → H p = some u → H' p = some u) (hb : ∀ p n, G p = some (.own n) → B.2 p = none → B'.2 p = none) (hl : ∀ p n, G p = some (.own n) → B.3 p = none → B'.3 p = none) : StoR T B' G H' M := by
  obtain ⟨s1, s2, s3, s4⟩ := S
  refine ⟨hp.trans s1, fun n d e => ?_, s3, s4⟩
  obtain ⟨p, a1, a2, a3, a4⟩ := s2 n d e
  exact ⟨p, a1, hb p n a1 a2, hl p n a1 a3, a4.same (Same.refl G) fun u q => h p n u a1 q⟩
/-- a dict is locked -/
theorem StR.lock {T : Stt} {B : Bse} {G H : Hp} {σ : St} {env : Ev} {d : Addr} {u : HO} (S : StR T B G H σ env) (hg : G d = some u) (hd : Dic u) (hh : H d = some u) (o : Obj) :
    BExt B ⟨B.1, B.2, upd B.3 d (.frz o u), B.4⟩ ∧ StR T ⟨B.1, B.2, upd B.3 d (.frz o u), B.4⟩ G (upd H d (.frz o u)) σ env := by
  have b3 : ∀ a w, B.3 a = some w → a ≠ d := fun a w e z => by
    subst z
    obtain ⟨x1, _, x2⟩ := S.lk a w e
    rw [hh] at x1
    cases x1
    rcases x2 with ⟨o2, w2, x2⟩ | x2
    · subst x2; exact hd
    · rw [hg] at x2; cases x2.1
  refine ⟨⟨rfl, rfl, fun a w e => by show upd B.3 d _ a = _; rw [upd_ne (b3 a w e)]; exact e, rfl⟩, ⟨fun a w e => ?_, S.g0, fun a w e => ?_, fun a w e => ?_, S.add, S.len, S.top, fun M e => (S.sto M e).ch rfl (fun p n w q hw => by rw [upd_ne (fun z => by rw [z, hg] at q; cases q; exact hd)]; exact hw) (fun _ _ _ z => z) (fun p n q z => by
    show upd B.3 d _ p = none
    rw [upd_ne (fun z => by rw [z, hg] at q; cases q; exact hd)]; exact z), S.val, fun i x e => ?_, S.dis⟩⟩
  · by_cases z : a = d
    · subst z; rw [hg] at e; cases e; exact .inr (.inl ⟨hd, o, upd_same⟩)
    · rw [upd_ne z]; exact S.gh a w e
  · by_cases z : a = d
    · subst z
      rcases S.h0 a w e with y | ⟨y, ob, y2⟩
      · rw [hh] at y; cases y; exact .inr ⟨hd, o, upd_same⟩
      · rw [hh] at y2; cases y2; exact hd.elim
    · rw [upd_ne z]; exact S.h0 a w e
  · have e' : upd B.3 d (.frz o u) a = some w := e
    by_cases z : a = d
    · subst z; rw [upd_same] at e'; cases e'; exact ⟨upd_same, True.intro, .inl ⟨o, u, rfl⟩⟩
    · rw [upd_ne z] at e'; rw [upd_ne z]; exact S.lk a w e'
  · obtain ⟨p, a1, a2, a3, a4⟩ := S.own i x e
    have np : p ≠ d := fun z => by rw [z, hg] at a3; cases a3
    exact ⟨p, a1, ⟨a2.1, by show upd B.3 d _ p = none; rw [upd_ne np]; exact a2.2⟩, a3, a4.same (Same.refl G) fun w q => by rw [upd_ne np]; exact q⟩
/-- a dict that is locked already -/
theorem StR.lock2 {T : Stt} {B : Bse} {G H : Hp} {σ : St} {env : Ev} {d : Addr} {u : HO} {o : Obj} (S : StR T B G H σ env) (hh : H d = some (.frz o u)) (hg : G d = some u) (hd : Dic u) :
    BExt B ⟨B.1, B.2, upd B.3 d (.frz o u), B.4⟩ ∧ StR T ⟨B.1, B.2, upd B.3 d (.frz o u), B.4⟩ G H σ env := by
  refine ⟨⟨rfl, rfl, fun a w e => ?_, rfl⟩, ⟨S.gh, S.g0, S.h0, fun a w e => ?_, S.add, S.len, S.top, fun M e => (S.sto M e).ch rfl (fun p n w q hw => hw) (fun _ _ _ z => z) (fun p n q z => by
    show upd B.3 d _ p = none
    rw [upd_ne (fun z => by rw [z, hg] at q; cases q; exact hd)]; exact z), S.val, fun i x e => ?_, S.dis⟩⟩
  · show upd B.3 d _ a = _
    by_cases z : a = d
    · subst z
      obtain ⟨x1, _⟩ := S.lk a w e
      rw [hh] at x1; cases x1
      exact upd_same
    · rw [upd_ne z]; exact e
  · have e' : upd B.3 d (.frz o u) a = some w := e
    by_cases z : a = d
    · subst z; rw [upd_same] at e'; cases e'; exact ⟨hh, True.intro, .inl ⟨o, u, rfl⟩⟩
    · rw [upd_ne z] at e'; exact S.lk a w e'
  · obtain ⟨p, a1, a2, a3, a4⟩ := S.own i x e
    have np : p ≠ d := fun z => by rw [z, hg] at a3; cases a3
    exact ⟨p, a1, ⟨a2.1, by show upd B.3 d _ p = none; rw [upd_ne np]; exact a2.2⟩, a3, a4⟩
/-- what a walked value gives -/
def zIt (K : PySem.W.Frag) (x : V) (H : Hp) (R : It → Hp → Prop) : Prop :=
  (∃ a xs, x = .ref a ∧ SqL K H a xs ∧ R (Itl K a) H) ∨ (∃ a xs, x = .ref a ∧ SqT K H a xs ∧ R (Itt K a) H) ∨
  (∃ d kvs, x = .ref d ∧ H d = some (.dT kvs) ∧ ∀ o, R (Itkt d o kvs) (upd H d (.frz o (.dT kvs)))) ∨ (∃ d kvs o, x = .ref d ∧ H d = some (.frz o (.dT kvs)) ∧ R (Itkt d o kvs) H) ∨
  (∃ d kvs, x = .ref d ∧ H d = some (.dK kvs) ∧ ∀ o, R (Itk d o kvs) (upd H d (.frz o (.dK kvs)))) ∨ (∃ d kvs o, x = .ref d ∧ H d = some (.frz o (.dK kvs)) ∧ R (Itk d o kvs) H)
theorem pi_seq {X : Cx} {tg e : Expr} {te : TE} (he : PE X e te) : PI X tg e (fun σ H R => te σ H fun x H1 => zIt X.K x H1 R) := by
  refine ⟨fun pins s σ H R I h => ?_⟩
  refine thn (he.run pins s σ H _ I h) fun v s1 ⟨x, H1, I1, r1, q1⟩ => ?_
  rcases q1 with ⟨a, xs, rfl, hq, q⟩ | ⟨a, xs, rfl, hq, q⟩ | ⟨d, kvs, rfl, hd, q⟩ | ⟨d, kvs, o, rfl, hd, q⟩ | ⟨d, kvs, rfl, hd, q⟩ | ⟨d, kvs, o, rfl, hd, q⟩
  · obtain rfl : v = Value.ref a := r1
    exact pie_list I1 hq q
  · obtain rfl : v = Value.ref a := r1
    exact pie_tup I1 hq q
  · obtain rfl : v = Value.ref d := r1
    obtain ⟨o, I2⟩ := I1.lock hd True.intro
    exact pie_keysT I2 upd_same (q o)
  · obtain rfl : v = Value.ref d := r1
    exact pie_keysT I1 hd q
  · obtain rfl : v = Value.ref d := r1
    obtain ⟨o, I2⟩ := I1.lock hd True.intro
    exact pie_keysK I2 upd_same (q o)
  · obtain rfl : v = Value.ref d := r1
    exact pie_keysK I1 hd q
theorem zIt_of {T : Stt} {B : Bse} {G H : Hp} {σ : St} {env : Ev} {v : V} {d : D} {ds : List D} {R : It → Hp → Prop} (S : StR T B G H σ env) (r : VRel T G v d) (hi : itemsD d = some ds)
    (k : ∀ J H2 B', BExt B B' → StR T B' G H2 σ env → DWalk T J G B'.3 ds → R J H2) : zIt T.K v H R := by
  cases r with
  | lst h rs =>
    cases hi
    exact .inl ⟨_, _, rfl, SqL.of (S.gh.nd h True.intro), k _ H B (BExt.refl B) S (dw_list h rs)⟩
  | tup h rs =>
    cases hi
    exact .inr (.inl ⟨_, _, rfl, SqT.of (S.gh.nd h True.intro), k _ H B (BExt.refl B) S (dw_tup h rs)⟩)
  | dcT h rs =>
    cases hi
    rcases S.gh _ _ h with y | ⟨hd, o, y⟩ | ⟨_, _, z, _⟩
    rotate_left 2
    · cases z
    · refine .inr (.inr (.inl ⟨_, _, rfl, y, fun o => ?_⟩))
      obtain ⟨b, S2⟩ := S.lock h True.intro y o
      exact k _ _ _ b S2 (dw_keysT upd_same)
    · refine .inr (.inr (.inr (.inl ⟨_, _, o, rfl, y, ?_⟩)))
      obtain ⟨b, S2⟩ := S.lock2 y h hd
      exact k _ _ _ b S2 (dw_keysT upd_same)
  | dcK h rs =>
    cases hi
    rcases S.gh _ _ h with y | ⟨hd, o, y⟩ | ⟨_, _, z, _⟩
    rotate_left 2
    · cases z
    · refine .inr (.inr (.inr (.inr (.inl ⟨_, _, rfl, y, fun o => ?_⟩))))
      obtain ⟨b, S2⟩ := S.lock h True.intro y o
      exact k _ _ _ b S2 (dw_keysK upd_same)
    · refine .inr (.inr (.inr (.inr (.inr ⟨_, _, o, rfl, y, ?_⟩))))
      obtain ⟨b, S2⟩ := S.lock2 y h hd
      exact k _ _ _ b S2 (dw_keysK upd_same)
  | _ => simp [itemsD] at hi
def I.seq (f : FE) : FI := fun env => (f env).bind fun a e1 => match frz e1 a with
  | some (d, e2) => match itemsD d with
    | some xs => .ok xs e2
    | none => .stk
  | none => .stk
section
variable {X : Cx} {tg : Expr} {pos p : Pos}
theorem di_seq {e : Expr} {f : FE} (he : DE X e f) : DI X tg e (I.seq f) := by
  refine ⟨fun B W tk => ⟨fun pins s σ H R Iv h => (pi_seq (he.run B W tk)).run pins s σ H R Iv ?_⟩⟩
  obtain ⟨G, env, S, h⟩ := h
  refine ⟨G, env, S, ?_⟩
  unfold I.seq at h
  cases q : f env with
  | stk => simp [q, oE] at h
  | exc x e' => simp only [q, Out.bind_exc] at h; exact h
  | ok a e1 =>
    simp only [q, Out.bind_ok] at h
    refine fun G1 H1 S1 l1 v1 r1 => ?_
    cases qf : frz e1 a with
    | none => simp [qf, oE] at h
    | some pr =>
      obtain ⟨d, e2⟩ := pr
      simp only [qf] at h
      obtain ⟨G2, S2, l2, rv⟩ := S1.frz r1 qf
      cases qi : itemsD d with
      | none => simp [qi, oE] at h
      | some xs =>
        simp only [qi] at h
        exact zIt_of S2 rv qi fun J H2 B' bx S3 w => h G2 H1 S2 (l1.trans l2) J H2 B' bx S3 w
/-! range -/
def rngD (lo : Int) (n : Nat) : List D := (List.range n).map fun k => .int (lo + (k : Nat))
theorem dw_rng {T : Stt} {G1 L : Hp} (lo : Int) (n : Nat) : DWalk T (Itr lo n) G1 L (rngD lo n) where
  goes := fun i H hi _ _ => by show i < n; simpa [rngD] using hi
  stops := fun H _ _ => by show n ≤ _; simp [rngD]
  yields := fun i H x H' hi _ _ y => by
    obtain ⟨e, y⟩ := y
    subst e y
    have hi' : i < n := by simpa [rngD] using hi
    exact ⟨.int (lo + (i : Nat)), by simp [rngD, hi'], fun G g gh => ⟨G, Same.refl G, gh, Same.refl _, fun a u e => .inl e, .int _⟩⟩
def I.rng1 (g : FA) : FI := fun env => (g env).bind fun ds e => match ds with
  | [.int j] => if -(2 ^ 62) ≤ j ∧ j < 2 ^ 62 then .ok (rngD 0 j.toNat) e else .stk
  | _ => .stk
def I.rng2 (g : FA) : FI := fun env => (g env).bind fun ds e => match ds with
  | [.int i, .int j] => if -(2 ^ 62) ≤ i ∧ i < 2 ^ 62 ∧ -(2 ^ 62) ≤ j ∧ j < 2 ^ 62 then .ok (rngD i (j - i).toNat) e else .stk
  | _ => .stk
theorem one_int {T : Stt} {G : Hp} {vs : List V} {i : Int} (r : VRels T G vs [.int i]) : vs = [.int i] := by
  cases r with
  | cons r1 r => cases r; cases r1; rfl
theorem di_rng1 {a : Expr} {g : FA} (hm : X.mg "range" = none) (ha : DA X [a] g) (hg : Gl X "range" := by rfl) (hs : starEach [a] X.env = [(false, eval a X.env)] := by rfl) : DI X tg (.Call (.Name "range" p) [a] [] pos) (I.rng1 g) := by
  refine ⟨fun B W tk => ⟨fun pins s σ H R Iv h => (pi_range1 hg hm (ha.run B W tk) hs).run pins s σ H R Iv ?_⟩⟩
  obtain ⟨G, env, S, h⟩ := h
  refine ⟨G, env, S, ?_⟩
  unfold I.rng1 at h
  cases q : g env with
  | stk => simp [q, oE] at h
  | exc x e' => simp only [q, Out.bind_exc] at h; exact h
  | ok ds e1 =>
    simp only [q, Out.bind_ok] at h
    refine fun G1 H1 S1 l1 vs r1 => ?_
    split at h
    · split at h
      · rename_i hb
        obtain rfl := one_int r1
        exact ⟨_, rfl, hb.1, hb.2, h G1 H1 S1 l1 _ H1 B (BExt.refl B) S1 (dw_rng 0 _)⟩
      · exact h.elim
    · exact h.elim
theorem di_rng2 {a b : Expr} {g : FA} (hm : X.mg "range" = none) (ha : DA X [a, b] g) (hg : Gl X "range" := by rfl) (hs : starEach [a, b] X.env = [(false, eval a X.env), (false, eval b X.env)] := by rfl) (hs2 : starEach [b] X.env = [(false, eval b X.env)] := by rfl) :
    DI X tg (.Call (.Name "range" p) [a, b] [] pos) (I.rng2 g) := by
  refine ⟨fun B W tk => ⟨fun pins s σ H R Iv h => (pi_range2 hg hm (ha.run B W tk) hs hs2).run pins s σ H R Iv ?_⟩⟩
  obtain ⟨G, env, S, h⟩ := h
  refine ⟨G, env, S, ?_⟩
  unfold I.rng2 at h
  cases q : g env with
  | stk => simp [q, oE] at h
  | exc x e' => simp only [q, Out.bind_exc] at h; exact h
  | ok ds e1 =>
    simp only [q, Out.bind_ok] at h
    refine fun G1 H1 S1 l1 vs r1 => ?_
    split at h
    · split at h
      · rename_i hb
        obtain rfl := two_ints r1
        exact ⟨_, _, rfl, hb, h G1 H1 S1 l1 _ H1 B (BExt.refl B) S1 (dw_rng _ _)⟩
      · exact h.elim
    · exact h.elim
end

/-! ### comprehensions -/
def wipeE (e : Ev) : List Nat → Ev
  | [] => e
  | v :: vs => put1 (wipeE e vs) v .no
theorem StR.no0 {T : Stt} {B : Bse} {G H : Hp} {σ : St} {env : Ev} (Sr : StR T B G H σ env) (i : Nat) (o : Option V) {s0 : Slot} (e0 : env[i]? = some s0) (n0 : ∀ M, s0 ≠ .sto M) : StR T B G H (σ.set i o) (env.set i .no) where
  gh := Sr.gh
  g0 := Sr.g0
  h0 := Sr.h0
  lk := Sr.lk
  add := Sr.add
  len := by rw [List.length_set, List.length_set]; exact Sr.len
  top := by
    rw [List.length_set]
    exact top_set Sr.top e0 ⟨fun ⟨M, z⟩ => (n0 M z).elim, fun ⟨M, z⟩ => nomatch z⟩
  sto := fun M e => Sr.sto M (by rw [← sto_set (s' := Slot.no) e0 n0 (fun _ z => nomatch z)]; exact e)
  val := fun j d' e => by
    by_cases z : i = j
    · subst z
      have hi : i < env.length := by
        have := (List.getElem?_eq_some_iff.mp e).1
        rwa [List.length_set] at this
      rw [List.getElem?_set_self hi] at e
      cases e
    · rw [List.getElem?_set_ne z] at e
      rw [List.getElem?_set_ne z]
      exact Sr.val j d' e
  own := fun j d' e => by
    by_cases z : i = j
    · subst z
      have hi : i < env.length := by
        have := (List.getElem?_eq_some_iff.mp e).1
        rwa [List.length_set] at this
      rw [List.getElem?_set_self hi] at e
      cases e
    · rw [List.getElem?_set_ne z] at e
      rw [List.getElem?_set_ne z]
      exact Sr.own j d' e
  dis := fun j k d1 d2 p e1 e2 h1 h2 => by
    have ne : ∀ {m : Nat} {x : D}, (env.set i .no)[m]? = some (.own x) → i ≠ m := fun {m x} e z => by
      subst z
      have hi : i < env.length := by
        have := (List.getElem?_eq_some_iff.mp e).1
        rwa [List.length_set] at this
      rw [List.getElem?_set_self hi] at e
      cases e
    have n1 := ne e1
    have n2 := ne e2
    rw [List.getElem?_set_ne n1] at e1 h1
    rw [List.getElem?_set_ne n2] at e2 h2
    exact Sr.dis j k d1 d2 p e1 e2 h1 h2
theorem StR.no {T : Stt} {B : Bse} {G H : Hp} {σ : St} {env : Ev} (Sr : StR T B G H σ env) (i : Nat) (o : Option V) : StR T B G H (σ.set i o) (DL.put1 env i .no) := Sr.put1 fun s e n => Sr.no0 i o e n
theorem StR.wipe {T : Stt} {B : Bse} {G H : Hp} {σ : St} {env : Ev} (Sr : StR T B G H σ env) : ∀ vs : List Nat, StR T B G H (L2.wipe σ vs) (wipeE env vs)
  | [] => Sr
  | v :: vs => by
    unfold L2.wipe wipeE
    exact (StR.wipe Sr vs).no v none
/-- the slots of the block forgotten, the others as they were -/
theorem StR.unwipe {T : Stt} {B : Bse} {G H : Hp} {σ σ2 : St} {env : Ev} {vs : List Nat} (Sr : StR T B G H σ2 env) (h : L2.wipe σ2 vs = L2.wipe σ vs) : StR T B G H σ (wipeE env vs) := by
  have S2 := Sr.wipe vs
  rw [h] at S2
  have hl : σ.length ≤ (wipeE env vs).length := by rw [← wipe_length σ vs]; exact S2.len
  have up : ∀ (i : Nat) v, (L2.wipe σ vs)[i]? = some (some v) → σ[i]? = some (some v) := fun i v e => (wipe_some e).1
  exact ⟨S2.gh, S2.g0, S2.h0, S2.lk, S2.add, hl, (by rw [← wipe_length σ vs]; exact S2.top), S2.sto, fun i d e => let ⟨v, a, b⟩ := S2.val i d e; ⟨v, up i v a, b⟩, fun i d e => let ⟨p, a, b⟩ := S2.own i d e; ⟨p, up i _ a, b⟩, fun i j d e p h1 h2 h3 h4 => by
    obtain ⟨p1, a1, _⟩ := S2.own i d h1
    obtain ⟨p2, a2, _⟩ := S2.own j e h2
    have q1 := up i _ a1
    have q2 := up j _ a2
    rw [h3] at q1; cases q1
    rw [h4] at q2; cases q2
    exact S2.dis i j d e p h1 h2 a1 a2⟩
def loopL (tg : Tgt) (vs : List Nat) (tt : FB) (elt : FE) : List D → List D → Ev → Out D
  | [], acc, e => .ok (.lst acc) (wipeE e vs)
  | d :: ds, acc, e => match bindT tg d e with
    | none => .stk
    | some e1 => match tt e1 with
      | .ok true e2 => match elt e2 with
        | .ok a e3 => match frz e3 a with
          | some (x, e4) => if acc.length < sizeLine then loopL tg vs tt elt ds (acc ++ [x]) (wipeE e4 vs) else .stk
          | none => .stk
        | _ => .stk
      | .ok false e2 => loopL tg vs tt elt ds acc (wipeE e2 vs)
      | _ => .stk
def E.lc (it : FI) (tg : Tgt) (vs : List Nat) (tt : FB) (elt : FE) : FD := fun env => (it env).bind fun ds e => loopL tg vs tt elt ds [] (wipeE e vs)
def Tt.yes : FB := fun env => .ok true env
structure DTs (X : Cx) (ifs : List Expr) (f : FB) : Prop where
  run : ∀ (B : Bse) (W : WX), Takes X W → PTs X ifs (tT ⟨X.K, X.mg⟩ B W f)
section
variable {X : Cx}
theorem dts_nil : DTs X [] Tt.yes := ⟨fun B W tk => ⟨fun pins s σ H Q I h => by
  obtain ⟨G, env, S, h⟩ := h
  exact pts_nil.run pins s σ H Q I (h G H S (Same.refl G))⟩⟩
theorem dts_one {c : Expr} {f : FB} (h : DT X c f) : DTs X [c] f := ⟨fun B W tk => pts_one (h.run B W tk)⟩
theorem pts_any {ι : Type} {e : List Expr} {t : ι → TT} (h : ∀ i, PTs X e (t i)) : PTs X e (fun σ H Q => ∃ i, t i σ H Q) := ⟨fun pins s σ H Q I q => let ⟨i, q⟩ := q; (h i).run pins s σ H Q I q⟩
end
/-- the pin of the list that is being made -/
theorem StR.pinO {T : Stt} {B : Bse} {G H : Hp} {σ : St} {env : Ev} {p : Addr} {u0 : HO} (pu : Pin u0) (S : StR T B G H σ env) (hb : B.3 p = none) (hg : G p = none) (hh : H p = some u0) (ho : ∀ (i : Nat) d, env[i]? = some (.own d) → σ[i]? ≠ some (some (.ref p))) :
    BExt B ⟨B.1, B.2, upd B.3 p u0, B.4⟩ ∧ StR T ⟨B.1, B.2, upd B.3 p u0, B.4⟩ G H σ env := by
  refine ⟨⟨rfl, rfl, fun a w e => ?_, rfl⟩, ⟨S.gh, S.g0, S.h0, fun a w e => ?_, S.add, S.len, S.top, fun M e => (S.sto M e).ch rfl (fun q n w h hw => hw) (fun _ _ _ z => z) (fun q n h z => by
    show upd B.3 p _ q = none
    rw [upd_ne (fun z => by rw [z, hg] at h; cases h)]; exact z), S.val, fun i x e => ?_, S.dis⟩⟩
  · show upd B.3 p _ a = _
    rw [upd_ne (fun z => by rw [z, hb] at e; cases e)]; exact e
  · have e' : upd B.3 p u0 a = some w := e
    by_cases z : a = p
    · subst z; rw [upd_same] at e'; cases e'; exact ⟨hh, True.intro, .inr ⟨hg, pu⟩⟩
    · rw [upd_ne z] at e'; exact S.lk a w e'
  · obtain ⟨q, a1, a2, a3, a4⟩ := S.own i x e
    have np : q ≠ p := fun z => ho i x e (by rw [← z]; exact a1)
    exact ⟨q, a1, ⟨a2.1, by show upd B.3 p _ q = none; rw [upd_ne np]; exact a2.2⟩, a3, a4⟩
theorem StR.pin {T : Stt} {B : Bse} {G H : Hp} {σ : St} {env : Ev} {p : Addr} {acc : List V} (S : StR T B G H σ env) (hb : B.3 p = none) (hg : G p = none) (hh : H p = some (.lst acc)) (ho : ∀ (i : Nat) d, env[i]? = some (.own d) → σ[i]? ≠ some (some (.ref p))) :
    BExt B ⟨B.1, B.2, upd B.3 p (.lst acc), B.4⟩ ∧ StR T ⟨B.1, B.2, upd B.3 p (.lst acc), B.4⟩ G H σ env := StR.pinO True.intro S hb hg hh ho
/-- the pinned list is grown -/
theorem StR.growO {T : Stt} {B : Bse} {G H : Hp} {σ : St} {env : Ev} {p : Addr} {u0 u1 : HO} (pu0 : Pin u0) (pu1 : Pin u1) (S : StR T ⟨B.1, B.2, upd B.3 p u0, B.4⟩ G H σ env) (hb : B.2 p = none) :
    StR T ⟨B.1, B.2, upd B.3 p u1, B.4⟩ G (upd H p u1) σ env := by
  obtain ⟨h1, _, h3⟩ := S.lk p u0 (show upd B.3 p _ p = _ from upd_same)
  have hg : G p = none := by
    rcases h3 with ⟨o, w, z⟩ | z
    · subst z; exact pu0.elim
    · exact z.1
  refine ⟨fun a u e => ?_, S.g0, fun a u e => ?_, fun a w e => ?_, S.add, S.len, S.top, fun M e => (S.sto M e).ch rfl (fun q n w h hw => by rw [upd_ne (fun z => by rw [z, hg] at h; cases h)]; exact hw) (fun _ _ _ z => z) (fun q n h z => by
    have z' : upd B.3 p u0 q = none := z
    rw [upd_ne (fun y => by rw [y, hg] at h; cases h)] at z'
    show upd B.3 p _ q = none
    rw [upd_ne (fun y => by rw [y, hg] at h; cases h)]; exact z'), S.val, fun i x e => ?_, S.dis⟩
  · rw [upd_ne (fun z => by rw [z, hg] at e; cases e)]; exact S.gh a u e
  · have hb' : B.2 a = some u := e
    rw [upd_ne (fun z => by rw [z, hb] at hb'; cases hb')]; exact S.h0 a u e
  · have e' : upd B.3 p u1 a = some w := e
    by_cases z : a = p
    · subst z; rw [upd_same] at e'; cases e'; exact ⟨upd_same, True.intro, .inr ⟨hg, pu1⟩⟩
    · rw [upd_ne z] at e'
      rw [upd_ne z]
      exact S.lk a w (by show upd B.3 p _ a = _; rw [upd_ne z]; exact e')
  · obtain ⟨q, a1, a2, a3, a4⟩ := S.own i x e
    have np : q ≠ p := fun z => by
      have y : upd B.3 p u0 q = none := a2.2
      rw [z, upd_same] at y
      cases y
    have y : upd B.3 p u0 q = none := a2.2
    rw [upd_ne np] at y
    exact ⟨q, a1, ⟨a2.1, by show upd B.3 p _ q = none; rw [upd_ne np]; exact y⟩, a3, a4.same (Same.refl G) fun w z => by rw [upd_ne np]; exact z⟩
theorem StR.grow {T : Stt} {B : Bse} {G H : Hp} {σ : St} {env : Ev} {p : Addr} {acc acc' : List V} (S : StR T ⟨B.1, B.2, upd B.3 p (.lst acc), B.4⟩ G H σ env) (hb : B.2 p = none) :
    StR T ⟨B.1, B.2, upd B.3 p (.lst acc'), B.4⟩ G (upd H p (.lst acc')) σ env := StR.growO (u0 := .lst acc) (u1 := .lst acc') True.intro True.intro S hb
theorem wipe_agr : ∀ {vs : List Nat} {σ σ' : St}, σ'.length = σ.length → (∀ j, j ∉ vs → σ'[j]? = σ[j]?) → L2.wipe σ' vs = L2.wipe σ vs := by
  intro vs σ σ' hl h
  have key : ∀ (vs : List Nat) (σ : St) (j : Nat), (L2.wipe σ vs)[j]? = if j ∈ vs ∧ j < σ.length then some none else σ[j]? := by
    intro vs σ j
    induction vs with
    | nil => simp [L2.wipe]
    | cons v vs ih =>
      unfold L2.wipe
      by_cases e : v = j
      · subst e
        by_cases hv : v < σ.length
        · rw [List.getElem?_set_self (by rw [wipe_length]; exact hv)]
          simp [hv]
        · have h1 : (L2.wipe σ vs).length ≤ v := by rw [wipe_length]; omega
          rw [List.getElem?_eq_none (by rw [List.length_set]; exact h1), List.getElem?_eq_none (by omega)]
          simp [hv]
      · rw [List.getElem?_set_ne e, ih]
        have : (j ∈ v :: vs) ↔ j ∈ vs := by
          constructor
          · intro h
            rcases List.mem_cons.mp h with z | z
            · exact absurd z.symm e
            · exact z
          · exact List.mem_cons_of_mem _
        simp [this]
  apply List.ext_getElem?
  intro j
  rw [key, key, hl]
  by_cases hj : j ∈ vs
  · by_cases hk : j < σ.length
    · simp [hj, hk]
    · simp only [hj, hk, and_false, if_false]
      rw [List.getElem?_eq_none (by omega), List.getElem?_eq_none (by omega)]
  · simp only [hj, false_and, if_false]
    exact h j hj
theorem wipe_wipe (σ : St) (vs : List Nat) : L2.wipe (L2.wipe σ vs) vs = L2.wipe σ vs := wipe_agr (wipe_length σ vs) fun j hj => by
  have : ∀ (ws : List Nat), (j ∉ ws) → (L2.wipe σ ws)[j]? = σ[j]? := by
    intro ws
    induction ws with
    | nil => intro _; rfl
    | cons w ws ih =>
      intro h
      unfold L2.wipe
      rw [List.getElem?_set_ne (fun z => h (by rw [z]; exact List.mem_cons_self)), ih (fun z => h (List.mem_cons_of_mem _ z))]
  exact this vs hj
section
variable {X : Cx} {elt tg iter : Expr} {ifs : List Expr} {scope : Scope} {own : List (Str × Nat)} {pos : Pos} {it : FI} {t : Tgt} {tt : FB} {f : FE}
theorem tF_lc {T : Stt} {B : Bse} {W W0 : WX} {vs : List Nat} (hv : ∀ j, j ∈ t.slots → j ∈ vs) {σ : St} {H : Hp} {Q : VK} (h : tF T B W (E.lc it t vs tt f) σ H Q) :
    tLc (tIt T B W it) (fun v σ H Q => ∃ B, gT T B t v σ H Q) (fun σ H Q => ∃ B, tT T B (fun _ _ _ _ => False) tt σ H Q) (fun σ H Q => ∃ B, tE T B (fun _ _ _ _ => False) f σ H Q) vs σ H Q := by
  obtain ⟨G, env, S, h⟩ := h
  refine ⟨G, env, S, ?_⟩
  unfold E.lc at h
  cases qi : it env with
  | stk => simp [qi, oE] at h
  | exc x e' => simp only [qi, Out.bind_exc] at h; exact h
  | ok ds e =>
    simp only [qi, Out.bind_ok] at h
    intro G1 H0 S0 l1 J H1 B' bx S1 w D hD
    obtain ⟨S2, n1, n2, n3⟩ := S1.fresh (o := .lst []) hD
    obtain ⟨b2, S3⟩ := S2.pin (acc := []) n1.2 n2 upd_same n3
    have S4 := S3.wipe vs
    have h0 := h.mono l1 fun a e' G' H' l (k : ∀ p, (B.2 p = none ∧ B.3 p = none) → G' p = none → (∀ (j : Nat) d', e'[j]? = some (.own d') → σ[j]? ≠ some (some (.ref p))) → CRel T G' H' p a → Q (.ref p) H') => k
    have bb : ∀ av : List V, BExt B ⟨B'.1, B'.2, upd B'.3 D (.lst av), B'.4⟩ := fun av => ⟨bx.g, bx.h, fun a u e => by
      have e2 := bx.lk a u e
      show upd B'.3 D _ a = _
      rw [upd_ne (fun z => by rw [z, n1.2] at e2; cases e2)]; exact e2, bx.pu⟩
    refine ⟨fun i m H => m = ds.length - i ∧ i ≤ ds.length ∧ ∃ G acc av e, StR T ⟨B'.1, B'.2, upd B'.3 D (.lst av), B'.4⟩ G H (L2.wipe σ vs) e ∧ Same G1 G ∧ VRels T G av acc ∧
      oE T B W σ G (loopL t vs tt f (ds.drop i) acc e) (fun a e' G' H' => ∀ p, (B.2 p = none ∧ B.3 p = none) → G' p = none → (∀ (j : Nat) d', e'[j]? = some (.own d') → σ[j]? ≠ some (some (.ref p))) → CRel T G' H' p a → Q (.ref p) H'),
      ⟨ds.length, by simp, Nat.zero_le _, G1, [], [], _, S4, Same.refl G1, .nil, h0⟩, ?_⟩
    rintro i m H ⟨rfl, hi, G, acc, av, e, S, g, ra, h⟩
    have l : Le G1 H := Le.of_same g S.gh
    have lk : Same B'.3 H := fun a u q => (S.lk a u (by
      show upd B'.3 D _ a = _
      rw [upd_ne (fun z => by rw [z, n1.2] at q; cases q)]; exact q)).1
    obtain ⟨hDl, _, hDg⟩ := S.lk D (.lst av) (show upd B'.3 D _ D = _ from upd_same)
    have gD : G D = none := by
      rcases hDg with ⟨o, w', z⟩ | z
      · cases z
      · exact z.1
    by_cases hlt : i < ds.length
    · refine .inr ⟨w.goes i H hlt l lk, fun H' => ∃ G acc av e, StR T ⟨B'.1, B'.2, upd B'.3 D (.lst av), B'.4⟩ G H' (L2.wipe σ vs) e ∧ Same G1 G ∧ VRels T G av acc ∧
        oE T B W σ G (loopL t vs tt f (ds.drop (i + 1)) acc e) (fun a e' G' H' => ∀ p, (B.2 p = none ∧ B.3 p = none) → G' p = none → (∀ (j : Nat) d', e'[j]? = some (.own d') → σ[j]? ≠ some (some (.ref p))) → CRel T G' H' p a → Q (.ref p) H'),
        fun H' z => ⟨ds.length - (i + 1), by omega, rfl, hlt, z⟩, fun x H' y => ?_⟩
      obtain ⟨d, hd, yy⟩ := w.yields i H x H' hlt l lk y
      obtain ⟨G', g', gh', hh', ad', rx⟩ := yy G g S.gh
      have S' := S.turn g' gh' hh' ad'
      have hdr : ds.drop i = d :: ds.drop (i + 1) := by
        obtain ⟨h1, h2⟩ := List.getElem?_eq_some_iff.mp hd
        rw [← h2]
        exact List.drop_eq_getElem_cons h1
      rw [hdr, loopL] at h
      cases qb : bindT t d e with
      | none => simp [qb, oE] at h
      | some e1 =>
        simp only [qb] at h
        refine ⟨_, G', e, d, e1, S', rx, qb, fun σ2 H2' S2 ag => ?_⟩
        have hw : L2.wipe σ2 vs = L2.wipe σ vs := by
          rw [← wipe_wipe σ vs]
          exact wipe_agr ag.1 fun j hj => ag.2 j fun z => hj (hv j z)
        refine ⟨hw, _, G', e1, S2, ?_⟩
        cases qt : tt e1 with
        | stk => simp [qt, oE] at h
        | exc x e' => simp [qt, oE] at h
        | ok b e2 =>
          refine fun G2 H2 S3 l3 => ?_
          cases b with
          | false =>
            simp only [qt] at h
            refine iteF ⟨G2, acc, av, _, ?_, (g.trans g').trans l3, (ra.same g').same l3, (h.mono (g'.trans l3) fun _ _ _ _ _ z => z)⟩
            rw [← hw]
            exact S3.wipe vs
          | true =>
            simp only [qt] at h
            refine iteT ⟨_, G2, e2, S3, ?_⟩
            cases qf : f e2 with
            | stk => simp [qf, oE] at h
            | exc x e' => simp [qf, oE] at h
            | ok a e3 =>
              simp only [qf] at h
              refine fun G3 H3 S5 l5 v rv => ?_
              cases qz : frz e3 a with
              | none => simp [qz, oE] at h
              | some pr =>
                obtain ⟨xd, e4⟩ := pr
                simp only [qz] at h
                obtain ⟨G4, S6, l6, rv6⟩ := S5.frz rv qz
                obtain ⟨hD3, _, _⟩ := S6.lk D (.lst av) (show upd B'.3 D _ D = _ from upd_same)
                split at h
                · rename_i hlen
                  have gg : Same G G4 := ((g'.trans l3).trans l5).trans l6
                  have ra4 := ra.same gg
                  refine ⟨av, hD3, by rw [ra.length]; exact hlen, G4, acc ++ [xd], av ++ [v], _, ?_, g.trans gg, ra4.append (.cons rv6 .nil), h.mono gg fun _ _ _ _ _ z => z⟩
                  rw [← hw]
                  exact (S6.grow (acc' := av ++ [v]) n1.1).wipe vs
                · exact h.elim
    · have e0 : i = ds.length := by omega
      subst e0
      rw [List.drop_length, loopL] at h
      refine .inl ⟨w.stops H l lk, ?_⟩
      have S7 := (S.unwipe (σ := σ) (wipe_wipe σ vs)).back (bb av)
      refine h G H S7 (Same.refl G) D ⟨bx.h ▸ n1.1, ?_⟩ gD (fun j d' z => ?_) ⟨av, hDl, ra⟩
      · cases q : B.3 D with
        | none => rfl
        | some u => rw [bx.lk D u q] at n1; cases n1.2
      · have S8 := S.unwipe (σ := σ) (wipe_wipe σ vs)
        obtain ⟨p, a1, a2, _⟩ := S8.own j d' z
        rw [a1]
        intro q
        cases q
        have y : upd B'.3 D (.lst av) D = none := a2.2
        rw [upd_same] at y
        cases y
theorem df_lc (hc : X.calm = true) (hN : X.N.Nodup) (hi : DI X tg iter it) (ok : BlkOk X.N X.env.scope scope own) (hv : ∀ j, j ∈ t.slots → j ∈ own.map (·.2))
    (hg : ∀ (s : Shared) (H : Hp) (C : Addr) (cl : List (Str × Addr)) (fp : List Addr), DG (X.blk s H scope (compEnvC scope cl C X.env) fp) tg t) (ht : ∀ (s : Shared) (H : Hp) (C : Addr) (cl : List (Str × Addr)) (fp : List Addr), DTs (X.blk s H scope (compEnvC scope cl C X.env) fp) ifs tt)
    (he : ∀ (s : Shared) (H : Hp) (C : Addr) (cl : List (Str × Addr)) (fp : List Addr), DE (X.blk s H scope (compEnvC scope cl C X.env) fp) elt f) (hs : ∀ x, foldedSetIterable iter X.env x = pure x := by intro _; rfl) :
    DF X (.ListComp elt [⟨tg, iter, ifs, 0⟩] scope pos) (E.lc it t (own.map (·.2)) tt f) :=
  ⟨fun B W tk => (pe_lc hc hN (hi.run B W tk) ok (fun s H C cl fp => pg_any fun B => (hg s H C cl fp).run B) (fun s H C cl fp => pts_any fun B => (ht s H C cl fp).run B (fun _ _ _ _ => False) takes0)
    (fun s H C cl fp => pe_any fun B => (he s H C cl fp).run B (fun _ _ _ _ => False) takes0) hs).imp fun σ H Q h => tF_lc (W0 := W) hv h⟩
end
end DL
-- DL7
set_option maxRecDepth 100000
set_option maxHeartbeats 4000000
/-! DL7: changes of own containers, raise, defs. -/
namespace DL
open PySem PySem.Spec PyProof.Rows L2

/-! ### changes -/
/-- the own container of slot i is changed -/
theorem StR.upd {T : Stt} {B : Bse} {G H : Hp} {σ : St} {env : Ev} (S : StR T B G H σ env) {i : Nat} {d d' : D} {p : Addr} {o : HO} (he : env[i]? = some (.own d)) (hs : σ[i]? = some (some (.ref p))) (hc : CRel T G (L2.upd H p o) p d') :
    StR T B G (L2.upd H p o) σ (env.set i (.own d')) := by
  obtain ⟨q, a1, a2, a3, a4⟩ := S.own i d he
  rw [hs] at a1
  cases a1
  have hi : i < env.length := (List.getElem?_eq_some_iff.mp he).1
  refine ⟨fun a u e => ?_, S.g0, fun a u e => ?_, fun a u e => ?_, S.add, by rw [List.length_set]; exact S.len, top_set S.top he ⟨fun ⟨_, z⟩ => (nomatch z), fun ⟨_, z⟩ => (nomatch z)⟩,
    fun M e => (S.sto M (by rw [← sto_set (s' := .own d') he (fun _ z => nomatch z) (fun _ z => nomatch z)]; exact e)).ch rfl (fun q n w h hw => by rw [upd_ne (fun z => by rw [z, a3] at h; cases h)]; exact hw) (fun _ _ _ z => z) (fun _ _ _ z => z), fun j x e => ?_, fun j x e => ?_, fun j k x y r h1 h2 h3 h4 => ?_⟩
  · rw [upd_ne (fun z => by rw [z, a3] at e; cases e)]; exact S.gh a u e
  · rw [upd_ne (fun z => by rw [z, a2.1] at e; cases e)]; exact S.h0 a u e
  · rw [upd_ne (fun z => by rw [z, a2.2] at e; cases e)]; exact S.lk a u e
  · by_cases z : i = j
    · subst z; rw [List.getElem?_set_self hi] at e; cases e
    · rw [List.getElem?_set_ne z] at e; exact S.val j x e
  · by_cases z : i = j
    · subst z
      rw [List.getElem?_set_self hi] at e
      cases e
      exact ⟨p, hs, a2, a3, hc⟩
    · rw [List.getElem?_set_ne z] at e
      obtain ⟨q, b1, b2, b3, b4⟩ := S.own j x e
      have np : q ≠ p := fun y => z (S.dis i j _ _ p he e hs (by rw [← y]; exact b1))
      exact ⟨q, b1, b2, b3, b4.same (Same.refl G) fun u y => by rw [upd_ne np]; exact y⟩
  · have back : ∀ {m : Nat} {w : D}, (env.set i (.own d'))[m]? = some (.own w) → ∃ w', env[m]? = some (.own w') := fun {m w} e => by
      by_cases z : i = m
      · subst z; exact ⟨d, he⟩
      · rw [List.getElem?_set_ne z] at e; exact ⟨w, e⟩
    obtain ⟨x', h1'⟩ := back h1
    obtain ⟨y', h2'⟩ := back h2
    exact S.dis j k x' y' r h1' h2' h3 h4
def ownL (e : Ev) (i : Nat) : Option (List D) := match e[i]? with
  | some (.own (.lst xs)) => some xs
  | _ => none
theorem ownL_some {e : Ev} {i : Nat} {xs : List D} (h : ownL e i = some xs) : e[i]? = some (.own (.lst xs)) := by
  unfold ownL at h
  split at h
  · rename_i h2; cases h; exact h2
  · cases h
def S.app (i : Nat) (f : FE) : FS := fun env => match ownL env i with
  | some _ => (f env).toS fun a e1 => match frz e1 a with
    | some (d, e2) => match ownL e2 i with
      | some xs => if xs.length < sizeLine then .nx (e2.set i (.own (.lst (xs ++ [d])))) else .stk
      | none => .stk
    | none => .stk
  | none => .stk
def S.ext (i : Nat) (f : FE) : FS := fun env => match ownL env i with
  | some _ => (f env).toS fun a e1 => match rd e1 a with
    | some (.lst ys) => match ownL e1 i with
      | some xs => if xs.length + ys.length ≤ sizeLine then .nx (e1.set i (.own (.lst (xs ++ ys)))) else .stk
      | none => .stk
    | _ => .stk
  | none => .stk
section
variable {X : Cx} {pos p p2 cpos : Pos} {x : Str} {e : Expr}
theorem ds_app (i : Nat) {f : FE} (hf : DE X e f) (hN : X.N[i]? = some x := by rfl) (hv : Vis X.env.scope x := by first | exact Or.inl rfl | exact Or.inr (Or.inl rfl) | exact Or.inr (Or.inr rfl)) (hd : (x == ("__debug__" : Str)) = false := by decide)
    (mk : ∀ {ta : TE}, PE X e ta → PE X (.Call (.Attribute (.Name x p) "append" p2) [e] [] cpos) (tBM X.K "list" rAppend (tVar i) (tCons ta tNil)) := by
      intro ta h; exact pe_bm PySem.F.plainAttrs_list PySem.F.slot_list_append PySem.F.type_list_append mt_append (pv _) (pa_cons h pa_nil))
    (hs : swapsWith (.Call (.Attribute (.Name x p) "append" p2) [e] [] cpos) none pos.line X.env = pure false := by rfl) :
    DS X (.Expr (.Call (.Attribute (.Name x p) "append" p2) [e] [] cpos) pos) (S.app i f) := by
  refine ⟨fun B W tk ps => (ps_expr (mk (hf.run B W tk)) hs).imp fun De σ H q => ?_⟩
  obtain ⟨G, env, Sr, q⟩ := q
  unfold S.app at q
  cases q0 : ownL env i with
  | none => simp [q0, oS] at q
  | some xs0 =>
    simp only [q0] at q
    obtain ⟨p0, a1, _, _, vs0, hp0, _⟩ := Sr.own i _ (ownL_some q0)
    refine ⟨_, a1, Or.inl ⟨rfl, _, SqL.of hp0⟩, G, env, Sr, oS_toS q fun a e1 G1 H1 S1 l1 k v r => ?_⟩
    cases qf : frz e1 a with
    | none => simp [qf, oS] at k
    | some pr =>
      obtain ⟨d, e2⟩ := pr
      simp only [qf] at k
      obtain ⟨G2, S2, l2, rv⟩ := S1.frz r qf
      cases q1 : ownL e2 i with
      | none => simp [q1, oS] at k
      | some xs =>
        simp only [q1] at k
        split at k
        · rename_i hl
          obtain ⟨p1, b1, _, _, vs, hp1, rvs⟩ := S2.own i _ (ownL_some q1)
          rw [a1] at b1
          cases b1
          refine ⟨p0, vs, v, rfl, rfl, hp1, by rw [rvs.length]; exact hl, ?_⟩
          exact k σ G2 _ (S2.upd (d' := .lst (xs ++ [d])) (ownL_some q1) a1 ⟨vs ++ [v], upd_same, rvs.append (.cons rv .nil)⟩) l2
        · exact k.elim
theorem ds_ext (i : Nat) {f : FE} (hf : DE X e f) (hN : X.N[i]? = some x := by rfl) (hv : Vis X.env.scope x := by first | exact Or.inl rfl | exact Or.inr (Or.inl rfl) | exact Or.inr (Or.inr rfl)) (hd : (x == ("__debug__" : Str)) = false := by decide)
    (mk : ∀ {ta : TE}, PE X e ta → PE X (.Call (.Attribute (.Name x p) "extend" p2) [e] [] cpos) (tBM X.K "list" rExtend (tVar i) (tCons ta tNil)) := by
      intro ta h; exact pe_bm PySem.F.plainAttrs_list PySem.F.slot_list_extend PySem.F.type_list_extend mt_extend (pv _) (pa_cons h pa_nil))
    (hs : swapsWith (.Call (.Attribute (.Name x p) "extend" p2) [e] [] cpos) none pos.line X.env = pure false := by rfl) :
    DS X (.Expr (.Call (.Attribute (.Name x p) "extend" p2) [e] [] cpos) pos) (S.ext i f) := by
  refine ⟨fun B W tk ps => (ps_expr (mk (hf.run B W tk)) hs).imp fun De σ H q => ?_⟩
  obtain ⟨G, env, Sr, q⟩ := q
  unfold S.ext at q
  cases q0 : ownL env i with
  | none => simp [q0, oS] at q
  | some xs0 =>
    simp only [q0] at q
    obtain ⟨p0, a1, _, _, vs0, hp0, _⟩ := Sr.own i _ (ownL_some q0)
    refine ⟨_, a1, Or.inl ⟨rfl, _, SqL.of hp0⟩, G, env, Sr, oS_toS q fun a e1 G1 H1 S1 l1 k v r => ?_⟩
    cases qf : rd e1 a with
    | none => simp [qf, oS] at k
    | some d =>
      cases d with
      | lst ys =>
        simp only [qf] at k
        cases q1 : ownL e1 i with
        | none => simp [q1, oS] at k
        | some xs =>
          simp only [q1] at k
          split at k
          · rename_i hl
            obtain ⟨p1, b1, _, _, vs, hp1, rvs⟩ := S1.own i _ (ownL_some q1)
            rw [a1] at b1
            cases b1
            obtain ⟨b, ws, rfl, hb, rws⟩ := (S1.orel r qf).lst S1.gh
            refine ⟨p0, b, vs, ws, rfl, rfl, hp1, hb, by rw [rvs.length, rws.length]; exact hl, ?_⟩
            exact k σ G1 _ (S1.upd (d' := .lst (xs ++ ys)) (ownL_some q1) a1 ⟨vs ++ ws, upd_same, rvs.append rws⟩) (Same.refl G1)
          · exact k.elim
      | _ => simp [qf, oS] at k
/-- x.pop(), x own -/
def E.pop (i : Nat) : FE := fun env => match ownL env i with
  | some xs => match xs.getLast? with
    | some d => .ok (.dv d) (env.set i (.own (.lst xs.dropLast)))
    | none => .stk
  | none => .stk
theorem VRels.dropLast {T : Stt} {G : Hp} {vs : List V} {ds : List D} (r : VRels T G vs ds) : VRels T G vs.dropLast ds.dropLast := by
  rw [List.dropLast_eq_take, List.dropLast_eq_take, r.length]
  exact r.take _
theorem de_pop (i : Nat) (hN : X.N[i]? = some x := by rfl) (hv : Vis X.env.scope x := by first | exact Or.inl rfl | exact Or.inr (Or.inl rfl) | exact Or.inr (Or.inr rfl)) (hd : (x == ("__debug__" : Str)) = false := by decide)
    (mk : PE X (.Call (.Attribute (.Name x p) "pop" p2) [] [] cpos) (tBM0 X.K "list" rPop (tVar i)) := by
      exact pe_bm0 PySem.F.plainAttrs_list PySem.F.slot_list_pop PySem.F.type_list_pop mt_pop (pv _)) : DE X (.Call (.Attribute (.Name x p) "pop" p2) [] [] cpos) (E.pop i) := by
  refine ⟨fun B W tk => mk.imp fun σ H Q q => ?_⟩
  obtain ⟨G, env, Sr, q⟩ := q
  unfold E.pop at q
  cases q0 : ownL env i with
  | none => simp [q0, oE] at q
  | some xs =>
    simp only [q0] at q
    obtain ⟨p0, a1, _, _, vs, hp, rvs⟩ := Sr.own i _ (ownL_some q0)
    cases ql : xs.getLast? with
    | none => simp [ql, oE] at q
    | some d =>
      simp only [ql] at q
      rw [List.getLast?_eq_getElem?] at ql
      obtain ⟨v, hv2, rv⟩ := rvs.get' ql
      refine ⟨_, a1, Or.inl ⟨rfl, _, SqL.of hp⟩, p0, vs, v, rfl, rfl, hp, by rw [rvs.length]; exact hv2, ?_⟩
      exact q G _ (Sr.upd (d' := .lst xs.dropLast) (ownL_some q0) a1 ⟨vs.dropLast, upd_same, rvs.dropLast⟩) (Same.refl G) v rv
end
/-! dicts -/
def putVs {κ : Type} [DecidableEq κ] : List κ → List D → κ → D → List D
  | k0 :: ks, d0 :: ds, k, d => (if k0 = k then d else d0) :: putVs ks ds k d
  | _, _, _, _ => []
def putD {κ : Type} [DecidableEq κ] (ks : List κ) (ds : List D) (k : κ) (d : D) : List κ × List D := if k ∈ ks then (ks, putVs ks ds k d) else (ks ++ [k], ds ++ [d])
theorem putK_put {κ : Type} [DecidableEq κ] {T : Stt} {G : Hp} {kvs : List (κ × V)} {ds : List D} {k : κ} {v : V} {d : D} (r : VRels T G (kvs.map (·.2)) ds) (rv : VRel T G v d) :
    (putK kvs k v).map (·.1) = (putD (kvs.map (·.1)) ds k d).1 ∧ VRels T G ((putK kvs k v).map (·.2)) (putD (kvs.map (·.1)) ds k d).2 := by
  have hm : (kvs.any fun kv => decide (kv.1 = k)) = true ↔ k ∈ kvs.map (·.1) := by
    rw [List.any_eq_true]
    constructor
    · rintro ⟨a, h1, h2⟩
      exact List.mem_map.mpr ⟨a, h1, of_decide_eq_true h2⟩
    · intro h
      obtain ⟨a, h1, h2⟩ := List.mem_map.mp h
      exact ⟨a, h1, decide_eq_true h2⟩
  unfold putK putD
  by_cases h : k ∈ kvs.map (·.1)
  · rw [if_pos (hm.mpr h), if_pos h]
    have key : ∀ {kvs : List (κ × V)} {ds : List D}, VRels T G (kvs.map (·.2)) ds → VRels T G ((kvs.map fun kv => if kv.1 = k then (kv.1, v) else kv).map (·.2)) (putVs (kvs.map (·.1)) ds k d) := by
      intro kvs
      induction kvs with
      | nil => intro ds r; cases r; exact .nil
      | cons a kvs ih =>
        intro ds r
        cases r with
        | cons r1 rs =>
          simp only [List.map_cons, putVs]
          refine .cons ?_ (ih rs)
          by_cases e : a.1 = k
          · rw [if_pos e, if_pos e]; exact rv
          · rw [if_neg e, if_neg e]; exact r1
    refine ⟨?_, key r⟩
    rw [List.map_map]
    apply List.map_congr_left
    intro a _
    show (if a.1 = k then (a.1, v) else a).1 = a.1
    by_cases e : a.1 = k
    · rw [if_pos e]
    · rw [if_neg e]
  · rw [if_neg (fun z => h (hm.mp z)), if_neg h]
    refine ⟨by simp, ?_⟩
    rw [List.map_append]
    exact r.append (.cons rv .nil)
/-- x[k] = v, x an own dict -/
def S.put (i : Nat) (fk fv : FE) : FS := fun env => (fv env).toS fun a e1 => match frz e1 a with
  | some (d, e2) => match e2[i]? with
    | some (.own _) => (fk e2).toS fun b e3 => match rd e3 b with
      | some kd => match e3[i]? with
        | some (.own (.dcK ks ds)) => match keyOf kd with
          | some k => if ks.length < sizeLine then .nx (e3.set i (.own (.dcK (putD ks ds k d).1 (putD ks ds k d).2))) else .stk
          | none => .stk
        | some (.own (.dcT ks ds)) => match keyT kd with
          | some k => if ks.length < sizeLine then .nx (e3.set i (.own (.dcT (putD ks ds k d).1 (putD ks ds k d).2))) else .stk
          | none => .stk
        | _ => .stk
      | none => .stk
    | _ => .stk
  | none => .stk
section
variable {X : Cx} {pos p p2 : Pos} {x : Str} {value key : Expr}
theorem ds_put (i : Nat) {fk fv : FE} (hu : X.A.units + 1 < cLine) (hk : DE X key fk) (hv : DE X value fv) (hN : X.N[i]? = some x := by rfl) (hvs : Vis X.env.scope x := by first | exact Or.inl rfl | exact Or.inr (Or.inl rfl) | exact Or.inr (Or.inr rfl)) (hd : (x == ("__debug__" : Str)) = false := by decide)
    (hcd : (x == ("__classdict__" : Str)) = false := by decide) (hs : swapsWith value (some (.Subscript (.Name x p) key p2)) pos.line X.env = pure false := by rfl) : DS X (.Assign [.Subscript (.Name x p) key p2] value pos) (S.put i fk fv) := by
  refine ⟨fun B W tk ps => (ps_dput hu (pe_var hN hvs hd hcd) (hk.run B W tk) (hv.run B W tk) hs).imp fun De σ H q => ?_⟩
  obtain ⟨G, env, Sr, q⟩ := q
  refine ⟨G, env, Sr, oS_toS q fun a e1 G1 H1 S1 l1 k v r => ?_⟩
  cases qf : frz e1 a with
  | none => simp [qf, oS] at k
  | some pr =>
    obtain ⟨d, e2⟩ := pr
    simp only [qf] at k
    obtain ⟨G2, S2, l2, rv⟩ := S1.frz r qf
    split at k
    · rename_i x0 hx0
      obtain ⟨p0, a1, _⟩ := S2.own i _ hx0
      refine ⟨_, a1, G2, e2, S2, oS_toS (k.mono l2) fun b e3 G3 H3 S3 l3 kk w rw' => ?_⟩
      cases qk : rd e3 b with
      | none => simp [qk, oS] at kk
      | some kd =>
        simp only [qk] at kk
        have ok := S3.orel rw' qk
        split at kk
        · rename_i ks ds he3
          cases q2 : keyOf kd with
          | none => simp [q2, oS] at kk
          | some kx =>
            simp only [q2] at kk
            split at kk
            · rename_i hl
              obtain rfl := keyOf_v ok q2
              obtain ⟨p1, b1, _, _, kvs, hp1, hks, rvs⟩ := S3.own i _ he3
              rw [a1] at b1
              cases b1
              obtain ⟨g1, g2⟩ := putK_put (k := kx) rvs (rv.same l3)
              rw [hks] at g1 g2
              refine ⟨p0, _, rfl, .inl ⟨kvs, kx, hp1, rfl, by rw [← hks] at hl; simpa using hl, rfl⟩, ?_⟩
              exact kk σ G3 _ (S3.upd he3 a1 ⟨putK kvs kx v, upd_same, g1, g2⟩) (Same.refl G3)
            · exact kk.elim
        · rename_i ks ds he3
          cases q2 : keyT kd with
          | none => simp [q2, oS] at kk
          | some kx =>
            simp only [q2] at kk
            split at kk
            · rename_i hl
              obtain ⟨bb, rfl, hbb⟩ := keyT_v S3.gh ok q2
              obtain ⟨p1, b1, _, _, kvs, hp1, hks, rvs⟩ := S3.own i _ he3
              rw [a1] at b1
              cases b1
              obtain ⟨g1, g2⟩ := putK_put (k := kx) rvs (rv.same l3)
              rw [hks] at g1 g2
              refine ⟨p0, _, rfl, .inr ⟨kvs, kx, bb, hp1, rfl, hbb, by rw [← hks] at hl; simpa using hl, rfl⟩, ?_⟩
              exact kk σ G3 _ (S3.upd he3 a1 ⟨putK kvs kx v, upd_same, g1, g2⟩) (Same.refl G3)
            · exact kk.elim
        · exact kk.elim
    · exact k.elim
end

/-! ### raise -/
/-- C's __init__(self, f): self.f = f -/
def spInit (C : Addr) (f : Str) : Sp := fun vs H Q _ => ∃ (a : Addr) (v : V), vs = [.ref a, v] ∧ H a = some (exo a C none) ∧ ∀ dx, H dx = none → dx ≠ a → Q .non (L2.upd (L2.upd H dx (exd dx [(f, v)])) a (exo a C (some dx)))
/-- an exception class of the program with such an __init__ -/
structure ExcT (P : Program) (w : World) (K : PySem.W.Frag) (mg : Str → Option Value) (base : Heap) (c f : Str) : Prop where
  ex : ∃ C fI fd, mg c = some (.ref C) ∧ OexC K C ∧ PySem.W.findIn K (.ref C) "__init__" = some (some (.ref fI)) ∧ PySem.W.typeIn K (.ref fI) = some (.type "function") ∧ FnOk P w K mg base CX0 1 fI fd ["self", f] (spInit C f) ∧ Binds K fd ["self", f] []
theorem ok_init {dvs : List V} {kws : List (Str × V)} {P : Program} {w : World} {K : PySem.W.Frag} {mg : Str → Option Value} {base : Heap} {qual f : Str} {st : Stmt} {fI C : Addr} {fd : FuncData} (F : FunD K "__init__" qual (defArgs st) (defBody st) (defScope st) dvs kws fI fd) (T : OexC K C) (no : PySem.W.findIn K (.ref C) f = some none) (S : FnScope ["self", f] ["self", f] (defScope st))
    (hb : ∀ (cdv : Value) (A : Around) (outer : List Env) (s : Shared) (H : Hp) (E : XK), PSs (cxOf CX0 P w K mg base ["self", f] qual (defScope st) fI cdv A outer s H E).nox (defBody st) (tOst K f (tVar 0) (tVar 1))) : FnOk P w K mg base CX0 1 fI fd ["self", f] (spInit C f) := by
  refine F.ok (CX := CX0) S (fun vs H Q E h => ?_) (fun cdv A outer s H vs Q E hr h => ⟨_, PSs.nox (hb cdv A outer s H E), ?_⟩)
  · obtain ⟨a, v, rfl, _⟩ := h
    rfl
  · obtain ⟨a, v, rfl, ha, k⟩ := h
    exact ⟨_, rfl, _, rfl, a, C, rfl, T, no, .inl ⟨ha, fun dx n ne => k dx n ne⟩⟩
def S.raise1 (c f : Str) (g : FE) : FS := fun env => (g env).toS fun a e => match frz e a with
  | some (d, e2) => .exc (.x1 c f d) e2
  | none => .stk
section
variable {X : Cx} {pos p p2 : Pos} {c f : Str} {e : Expr}
theorem upd_exc {H : Hp} {a dx : Addr} {o1 o2 o3 : HO} {u : HO} (ha : H a = none) (hd : dx ≠ a) : L2.upd (L2.del (L2.upd (L2.upd (L2.upd H a o1) dx o2) a o3) a) dx u = L2.upd H dx u := by
  funext b
  by_cases h1 : b = dx
  · subst h1; rw [upd_same, upd_same]
  · rw [upd_ne h1, upd_ne h1]
    by_cases h2 : b = a
    · subst h2; rw [del_same, ha]
    · rw [del_ne h2, upd_ne h2, upd_ne h1, upd_ne h2]
theorem ds_raise1 {g : FE} (hc : X.calm = true) (T : ExcT X.prog X.w X.K X.mg X.base c f) (hr : Room 2 X.A) (he : DE X e g) (hg : Gl X c := by rfl) (hdb : (c == ("__debug__" : Str)) = false := by decide)
    (hs : starEach (e :: []) X.env = (false, eval e X.env) :: starEach [] X.env := by rfl) (hpl : (backTo p2 (starEach [] X.env)).any (·.1) = false := by rfl) : DS X (.Raise (some (.Call (.Name c p) [e] [] p2)) none pos) (S.raise1 c f g) := by
  obtain ⟨C, fI, fd, hm, TC, iC, tI, F1, hb⟩ := T.ex
  refine ⟨fun B W tk ps => (ps_raise hc tk (pmk_oex TC iC tI F1 hr hb .nil pass0 hg hm (pa_cons (he.run B W tk) pa_nil hs) hdb hs hpl)).imp fun De σ H q => ?_⟩
  obtain ⟨G, env, Sr, q⟩ := q
  refine ⟨G, env, Sr, oS_toS q fun a e1 G1 H1 S1 l1 k v r => ?_⟩
  cases qf : frz e1 a with
  | none => simp [qf, oS] at k
  | some pr =>
    obtain ⟨d, e2⟩ := pr
    simp only [qf] at k
    obtain ⟨G2, S2, l2, rv⟩ := S1.frz r qf
    refine ⟨by show 1 ≤ 1000; decide, fun x hx => ⟨x, v, rfl, upd_same, fun dx n ne => ⟨rfl, dx, [(f, v)], upd_same, by rw [upd_ne ne]; exact upd_same, by rw [upd_ne ne] at n; exact n, ?_⟩⟩⟩
    rw [upd_exc hx ne]
    have n1 : H1 dx = none := by rw [upd_ne ne] at n; exact n
    exact k _ _ σ G2 _ (S2.newH n1) l2 ⟨C, dx, v, hm, rfl, rfl, upd_same, rv⟩
end

/-! ### a def's end: what was locked is as it was -/
def unl (H0 H : Hp) : Hp := fun a => match H0 a with
  | some u => some u
  | none => H a
theorem unl_old {H0 H : Hp} {a : Addr} {u : HO} (h : H0 a = some u) : unl H0 H a = some u := by unfold unl; rw [h]
theorem unl_new {H0 H : Hp} {a : Addr} (h : H0 a = none) : unl H0 H a = H a := by unfold unl; rw [h]
theorem unl_same (H0 H : Hp) : Same H0 (unl H0 H) := fun a u h => unl_old h
theorem Inv_unl {X : Cx} {pins : List (Addr × Obj)} {σ : St} {H H0 : Hp} {s : Shared} (Iv : Inv X pins σ H s) (sub : ∀ a u, H0 a = some u → X.H_0 a = some u) (l : Lr H0 H) : Inv X pins σ (unl H0 H) s := by
  have non : ∀ b, H b = none → unl H0 H b = none := fun b n => by
    cases q : H0 b with
    | none => rw [unl_new q]; exact n
    | some u => rcases l b u q with y | ⟨_, ob, y⟩ <;> rw [n] at y <;> cases y
  have keep : ∀ b o, H b = some o → (∀ o' u', o ≠ .frz o' u') → unl H0 H b = some o := fun b o e nf => by
    cases q : H0 b with
    | none => rw [unl_new q]; exact e
    | some u =>
      rw [unl_old q]
      rcases l b u q with y | ⟨_, ob, y⟩
      · rw [e] at y; exact y.symm
      · rw [e] at y; cases y; exact (nf _ _ rfl).elim
  have zero : ∀ b o, X.H_0 b = some o → (H b = some o) → unl H0 H b = some o := fun b o e h => by
    cases q : H0 b with
    | none => rw [unl_new q]; exact h
    | some u =>
      rw [unl_old q]
      have := sub b u q
      rw [e] at this
      exact this.symm
  refine ⟨Iv.ok, Iv.os, Iv.bare, ⟨Iv.base.keep, Iv.base.slot, fun b o e n hx => ?_, Iv.base.there, fun b xs e => zero b _ e (Iv.base.tups b xs e), fun b o x e => zero b _ e (Iv.base.frzs b o x e), fun b ps e => ?_⟩, Iv.loc, Iv.cell, non _ Iv.free, fun x c e => non _ (Iv.freeC x c e), fun p hp => ?_, fun b o e => ?_, Iv.len⟩
  · rw [unl_new (by
      cases q : H0 b with
      | none => rfl
      | some u => have := sub b u q; rw [n] at this; cases this)]
    exact Iv.base.free b o e n hx
  · obtain ⟨more, hm⟩ := Iv.base.tbls b ps e
    cases q : H0 b with
    | none => exact ⟨more, by rw [unl_new q]; exact hm⟩
    | some u =>
      have := sub b u q
      rw [e] at this
      cases this
      exact ⟨#[], by rw [unl_old q]; simp⟩
  · obtain ⟨e, n, r⟩ := Iv.pin p hp
    exact ⟨e, non _ n, r⟩
  · have st : ∀ {o : HO}, ObjOk X.prog X.w H s.heap b o → ObjOk X.prog X.w (unl H0 H) s.heap b o := fun {o} x => x.stay (fun c v _ q => q) (fun c q => keep c _ q (fun _ _ z => nomatch z)) fun c xs q => keep c _ q (fun _ _ z => nomatch z)
    cases q : H0 b with
    | none =>
      rw [unl_new q] at e
      exact st (Iv.hok b o e)
    | some u =>
      rw [unl_old q] at e
      cases e
      rcases l b o q with y | ⟨_, ob, y⟩
      · exact st (Iv.hok b o y)
      · obtain ⟨_, x⟩ := Iv.hok b _ y
        exact st x
def tUnl (H0 : Hp) (t : TS) : TS := fun De σ H => t ⟨fun σ' H' => Lr H0 H' ∧ De.nx σ' (unl H0 H'), fun v H' => Lr H0 H' ∧ De.rt v (unl H0 H'), fun σ' H' => Lr H0 H' ∧ De.bk σ' (unl H0 H'), fun σ' H' => Lr H0 H' ∧ De.ct σ' (unl H0 H')⟩ σ H
theorem pss_unl {X : Cx} {sts : List Stmt} {t : TS} {H0 : Hp} (sub : ∀ a u, H0 a = some u → X.H_0 a = some u) (h : PSs X sts t) : PSs X sts (tUnl H0 t) := by
  refine ⟨fun pins s σ H De Iv hw => ?_⟩
  refine thn (h.run pins s σ H _ Iv hw) fun f s1 q => ?_
  cases f with
  | next => obtain ⟨σ', H', I2, l, q⟩ := q; exact ⟨σ', _, Inv_unl I2 sub l, q⟩
  | brk => obtain ⟨σ', H', I2, l, q⟩ := q; exact ⟨σ', _, Inv_unl I2 sub l, q⟩
  | cont => obtain ⟨σ', H', I2, l, q⟩ := q; exact ⟨σ', _, Inv_unl I2 sub l, q⟩
  | ret v => obtain ⟨x, σ', H', I2, r, l, q⟩ := q; exact ⟨x, σ', _, Inv_unl I2 sub l, r, q⟩
theorem takes_unl {X : Cx} {W : WX} {H0 : Hp} (sub : ∀ a u, H0 a = some u → X.H_0 a = some u) (tk : Takes X W) : Takes X (fun cls d σ H => Lr H0 H ∧ W cls d σ (unl H0 H)) := fun u s' ⟨a, B, sI, pins, σ, H, cls, d, e, Iv, nb, up, sky, na, os, ag, l, w⟩ =>
  tk u s' ⟨a, B, sI, pins, σ, _, cls, d, e, Inv_unl Iv sub l, nb, up, sky, (by
    cases q : H0 a with
    | none => rw [unl_new q]; exact na
    | some u => rcases l a u q with y | ⟨_, ob, y⟩ <;> rw [na] at y <;> cases y), os, ag, w⟩
/-- a heap without the store's things -/
def hid (G H : Hp) : Hp := fun a => match G a with
  | some (.own _) => none
  | _ => H a
theorem hid_sub {G H : Hp} {a : Addr} {u : HO} (h : hid G H a = some u) : H a = some u := by
  unfold hid at h
  split at h
  · cases h
  · exact h
theorem hid_mark {G H : Hp} {a : Addr} {n : Nat} (h : G a = some (.own n)) : hid G H a = none := by unfold hid; rw [h]
theorem hid_no {G H : Hp} {a : Addr} (h : ∀ n, G a ≠ some (.own n)) : hid G H a = H a := by
  unfold hid
  split
  · rename_i n q; exact (h n q).elim
  · rfl
/-- what G' has more than G, where a store is -/
abbrev AddM (G H G' : Hp) : Prop := ∀ a u, G' a = some u → G a = some u ∨ H a = none ∨ ∃ xs, u = .tup xs
abbrev Bz : Bse := ⟨fun _ => none, fun _ => none, fun _ => none, false⟩
def envOf (ds : List D) (n : Nat) (tl : Ev) : Ev := ds.map .val ++ (List.replicate n .no ++ tl)
theorem start_rel {T : Stt} {B : Bse} {G H : Hp} {N : List Str} {vs : List V} {ds : List D} {tl : Ev} (l : Le G H) (h1 : B.1 = G) (h2 : Lr B.2 H) (h3 : B.3 = fun _ => none) (r : VRels T G vs ds) (hn : vs.length ≤ N.length)
    (ht : tl = [] ∨ ∃ M, tl = [.sto M] ∧ StoR T B G H M) : StR T B G H (start N vs) (envOf ds (N.length - ds.length) tl) := by
  have hlen : (start N vs).length = N.length := by
    unfold L2.start
    rw [List.length_append, List.length_map, List.length_replicate]
    omega
  have hl0 : (ds.map Slot.val ++ List.replicate (N.length - ds.length) Slot.no).length = N.length := by
    rw [List.length_append, List.length_map, List.length_replicate, ← r.length]
    omega
  have lo : ∀ (i : Nat) s, (envOf ds (N.length - ds.length) tl)[i]? = some s → (∀ M, s ≠ .sto M) → ∃ d, s = .val d ∧ ds[i]? = some d ∨ s = .no := fun i s e n => by
    unfold envOf at e
    rw [List.getElem?_append] at e
    split at e
    · rw [List.getElem?_map] at e
      cases q : ds[i]? with
      | none => rw [q] at e; cases e
      | some x => rw [q] at e; cases e; exact ⟨x, .inl ⟨rfl, rfl⟩⟩
    · rw [List.getElem?_append] at e
      split at e
      · have := List.mem_of_getElem? e
        rw [List.mem_replicate] at this
        exact ⟨.non, .inr this.2⟩
      · have m := List.mem_of_getElem? e
        rcases ht with ht | ⟨M, ht, _⟩
        · rw [ht] at m; cases m
        · rw [ht, List.mem_singleton] at m; exact (n M m).elim
  have nown : ∀ (i : Nat) d, (envOf ds (N.length - ds.length) tl)[i]? ≠ some (.own d) := fun i d e => by
    obtain ⟨x, z | z⟩ := lo i _ e (fun _ z => nomatch z)
    · cases z.1
    · cases z
  have hsto : ∀ (i : Nat) M, (envOf ds (N.length - ds.length) tl)[i]? = some (.sto M) → N.length ≤ i ∧ tl = [.sto M] := fun i M e => by
    unfold envOf at e
    rw [← List.append_assoc, List.getElem?_append] at e
    split at e
    · have m := List.mem_of_getElem? e
      rw [List.mem_append] at m
      rcases m with m | m
      · obtain ⟨x, _, z⟩ := List.mem_map.mp m
        cases z
      · rw [List.mem_replicate] at m; cases m.2
    · rename_i hi
      rw [hl0] at hi
      have m := List.mem_of_getElem? e
      refine ⟨by omega, ?_⟩
      rcases ht with ht | ⟨M', ht, _⟩
      · rw [ht] at m; cases m
      · rw [ht, List.mem_singleton] at m; cases m; exact ht
  refine ⟨l, h1 ▸ Same.refl _, h2, (fun a u e => by rw [h3] at e; cases e), (fun a u e => .inl (h1 ▸ e)), ?_, fun i s e => ?_, fun M e => ?_, fun i d e => ?_, fun i d e => (nown i d e).elim, fun i j d e p h => (nown i d h).elim⟩
  · rw [hlen]
    unfold envOf
    rw [← List.append_assoc, List.length_append, hl0]
    omega
  · rw [hlen]
    constructor
    · intro hi
      cases s with
      | sto M => exact ⟨M, rfl⟩
      | _ =>
        have hlt := (List.getElem?_eq_some_iff.mp e).1
        unfold envOf at e hlt
        rw [← List.append_assoc] at e hlt
        rw [List.getElem?_append_right (by rw [hl0]; exact hi)] at e
        have m := List.mem_of_getElem? e
        rcases ht with ht | ⟨M', ht, _⟩
        · rw [ht] at m; cases m
        · rw [ht, List.mem_singleton] at m; cases m
    · rintro ⟨M, rfl⟩
      exact (hsto i M e).1
  · unfold stoOf at e
    rw [List.getLast?_eq_getElem?] at e
    split at e
    · rename_i M' q
      cases e
      have := (hsto _ _ q).2
      rcases ht with ht | ⟨M', ht, hs⟩
      · rw [ht] at this; cases this
      · rw [ht] at this; cases this; exact hs
    · cases e
  · obtain ⟨x, z | z⟩ := lo i _ e (fun _ z => nomatch z)
    · obtain ⟨z1, z2⟩ := z
      cases z1
      obtain ⟨v, w1, w2⟩ := r.get' z2
      refine ⟨v, ?_, w2⟩
      unfold L2.start
      have hi := (List.getElem?_eq_some_iff.mp w1).1
      rw [List.getElem?_append_left (by rw [List.length_map]; exact hi), List.getElem?_map, w1]
      rfl
    · cases z
theorem le_unl {G H H0 G' H' : Hp} (S0 : Le G H) (sub : ∀ a u, H0 a = some u → H a = some u) (g : Le G' H') (h : Lr H0 H') (ad : ∀ a u, G' a = some u → G a = some u ∨ H0 a = none ∨ ∃ xs, u = .tup xs) : Le G' (unl H0 H') := fun a u e => by
  cases q : H0 a with
  | none =>
    rw [unl_new q]
    exact g a u e
  | some w =>
    rw [unl_old q]
    rcases g a u e with y | ⟨dy, ob, y⟩ | ⟨n, w', m, y, nt⟩
    · rcases h a w q with z | ⟨dz, ob, z⟩
      · rw [y] at z; cases z; exact .inl rfl
      · rw [y] at z
        cases z
        rcases ad a _ e with x | x | ⟨xs, x⟩
        · have x2 := S0.nd x True.intro
          rw [sub a w q] at x2
          cases x2
        · rw [q] at x; cases x
        · cases x
    · rcases h a w q with z | ⟨dz, ob2, z⟩
      · rw [y] at z; cases z; exact .inr (.inl ⟨dy, ob, rfl⟩)
      · rw [y] at z; cases z; exact .inl rfl
    · rcases h a w q with z | ⟨dz, ob2, z⟩
      · rw [y] at z; cases z; exact .inr (.inr ⟨n, _, m, rfl, nt⟩)
      · refine .inr (.inr ⟨n, w, m, rfl, fun xs z => ?_⟩)
        subst z
        exact dz
/-- a pure def by its body -/
def runF (n : Nat) (body : FS) (ds : List D) : FO := match body (envOf ds (n - ds.length) []) with
  | .nx _ => .ok .non
  | .rt d _ => .ok d
  | .exc x _ => .exc x
  | _ => .stk
def mkF (n np : Nat) (body : FS) : List D → FO := fun ds => if ds.length = np then runF n body ds else .stk
section
variable {P : Program} {w : World} {K : PySem.W.Frag} {mg : Str → Option Value} {base : Heap}
theorem xrel_unl {T : Stt} {G' H0 H' : Hp} {x : Xn} {cls : Value} {d : Option Addr} (h0 : Lr H0 H') (rx : XRel T G' H' x cls d) : XRel T G' (unl H0 H') x cls d := by
  cases x with
  | x0 c => exact rx
  | x1 c ff y =>
    obtain ⟨C, dd, v, c1, c2, c3, c4, c5⟩ := rx
    refine ⟨C, dd, v, c1, c2, c3, ?_, c5⟩
    cases q2 : H0 dd with
    | none => show unl H0 H' dd = _; rw [unl_new q2]; exact c4
    | some u =>
      show unl H0 H' dd = _
      rw [unl_old q2]
      rcases h0 dd u q2 with y | ⟨_, ob, y⟩
      · rw [c4] at y; exact y.symm
      · rw [c4] at y; cases y
theorem def_fn {dvs : List V} {kws : List (Str × V)} {x qual : Str} {st : Stmt} {f : Addr} {fd : FuncData} {N ps : List Str} {k : Nat} {body : FS} (F : FunD K x qual (defArgs st) (defBody st) (defScope st) dvs kws f fd) (S : FnScope N ps (defScope st)) (hp : ps.length ≤ N.length)
    (hbody : ∀ (cdv : Value) (A : Around) (outer : List Env) (s : Shared) (H : Hp) (E : XK), Room k (A.deeper (envOfC qual (defScope st) s.heap.objs.size f cdv)) → DSs (cxOf (L2.CX P w) P w K mg base N qual (defScope st) f cdv A outer s H E) (defBody st) body) :
    FnOk P w K mg base (L2.CX P w) (k + 1) f fd ps (spD ⟨K, mg⟩ (mkF N.length ps.length body)) := by
  refine F.ok (CX := L2.CX P w) S (fun vs H Q E h => ?_) (fun cdv A outer s H vs Q E hr h => ?_)
  · obtain ⟨G, ds, l, r, h⟩ := h
    unfold mkF at h
    split at h
    · rename_i e; exact r.length.trans e
    · exact h.elim
  · obtain ⟨G, ds, l, r, h⟩ := h
    have tk : Takes (cxOf (L2.CX P w) P w K mg base N qual (defScope st) f cdv A outer s H E) (fun cls d _ H => E cls d H) := takes_of rfl rfl rfl rfl
    have ps' : Psn (cxOf (L2.CX P w) P w K mg base N qual (defScope st) f cdv A outer s H E) := PassesOwn.leaving
    have sub : ∀ a u, H a = some u → (cxOf (L2.CX P w) P w K mg base N qual (defScope st) f cdv A outer s H E).H_0 a = some u := fun _ _ z => z
    refine ⟨_, pss_unl sub ((hbody cdv A outer s H E hr).run ⟨G, H, fun _ => none, true⟩ _ (takes_unl sub tk) ps'), ?_⟩
    unfold mkF at h
    split at h
    · rename_i hl
      have st0 := start_rel (B := ⟨G, H, fun _ => none, true⟩) (N := N) l rfl (Lr.refl H) rfl r (by rw [r.length, hl]; exact hp) (.inl rfl)
      have adF : ∀ {G' : Hp}, (∀ a u, G' a = some u → G a = some u ∨ (H a = none ∧ (true = true → NM u)) ∨ ∃ xs, u = .tup xs) → Adds G H G' := fun z a u e => (z a u e).imp id fun y => y.imp (fun w => ⟨w.1, w.2 rfl⟩) id
      have ad2 : ∀ {G' : Hp}, Adds G H G' → ∀ a u, G' a = some u → G a = some u ∨ H a = none ∨ ∃ xs, u = .tup xs := fun z a u e => (z a u e).imp id fun y => y.imp (fun w => w.1) id
      refine ⟨G, _, st0, ?_⟩
      unfold runF at h
      split at h
      · rename_i e0 q
        rw [q]
        exact fun σ' G' H' S' g => ⟨S'.h0, h .non G' _ g (le_unl l (fun _ _ z => z) S'.gh S'.h0 (ad2 (adF S'.add))) (unl_same _ _) (adF S'.add) .non⟩
      · rename_i d e0 q
        rw [q]
        exact fun v σ' G' H' S' g rv => ⟨S'.h0, h v G' _ g (le_unl l (fun _ _ z => z) S'.gh S'.h0 (ad2 (adF S'.add))) (unl_same _ _) (adF S'.add) rv⟩
      · rename_i x e0 q
        rw [q]
        exact fun cls d σ' G' H' S' g rx => ⟨S'.h0, h cls d G' _ g (le_unl l (fun _ _ z => z) S'.gh S'.h0 (ad2 (adF S'.add))) (unl_same _ _) (adF S'.add) (xrel_unl S'.h0 rx)⟩
      · exact h.elim
    · exact h.elim

/-! ### defs with a store -/
inductive MO where
  | ok (d : D) (M : List D) | exc (x : Xn) (M : List D) | stk
end
structure PostM (T : Stt) (G H G' H' : Hp) (M' : List D) : Prop where
  g : Same G G'
  gh : Le G' H'
  hh : Same (hid G H) H'
  ad : AddM G H G'
  sto : StoR T Bz G' H' M'
def oM (T : Stt) (G H : Hp) (o : MO) (Q : VK) (E : XK) : Prop := match o with
  | .ok z M' => ∀ v G' H', PostM T G H G' H' M' → VRel T G' v z → Q v H'
  | .exc x M' => ∀ cls d G' H', PostM T G H G' H' M' → XRel T G' H' x cls d → E cls d H'
  | .stk => False
abbrev FM := List D → List D → MO
/-- what a def with a store promises -/
def spM (T : Stt) (F : FM) : Sp := fun vs H Q E => ∃ G ds M, Le G H ∧ StoR T Bz G H M ∧ VRels T G vs ds ∧ oM T G H (F M ds) Q E
def runM (n : Nat) (body : FS) (M ds : List D) : MO := match body (envOf ds (n - ds.length) [.sto M]) with
  | .nx e => match stoOf e with
    | some M' => .ok .non M'
    | none => .stk
  | .rt d e => match stoOf e with
    | some M' => .ok d M'
    | none => .stk
  | .exc x e => match stoOf e with
    | some M' => .exc x M'
    | none => .stk
  | _ => .stk
def mkM (n np : Nat) (body : FS) : FM := fun M ds => if ds.length = np then runM n body M ds else .stk
section
variable {P : Program} {w : World} {K : PySem.W.Frag} {mg : Str → Option Value} {base : Heap}
theorem StoR.bz {T : Stt} {B : Bse} {G H H0 : Hp} {M : List D} (S : StoR T B G H M) (h : B.2 = H0) : StoR T Bz G (unl H0 H) M := by
  obtain ⟨s1, s2, s3, s4⟩ := S
  refine ⟨rfl, fun n d e => ?_, s3, s4⟩
  obtain ⟨p, a1, a2, a3, a4⟩ := s2 n d e
  exact ⟨p, a1, rfl, rfl, a4.same (Same.refl G) fun u q => by rw [unl_new (h ▸ a2)]; exact q⟩
theorem postM_of {T : Stt} {G H G' H' : Hp} {M : List D} {σ' : St} {e : Ev} (l : Le G H) (S' : StR T ⟨G, hid G H, fun _ => none, false⟩ G' H' σ' e) (g : Same G G') (hM : stoOf e = some M) : PostM T G H G' (unl (hid G H) H') M := by
  have ad : AddM G H G' := fun a u e => by
    rcases S'.add a u e with z | ⟨z, _⟩ | z
    · exact .inl z
    · have z' : hid G H a = none := z
      by_cases hm : ∃ n, G a = some (.own n)
      · obtain ⟨n, hm⟩ := hm
        have := g a _ hm
        rw [e] at this
        cases this
        exact .inl hm
      · rw [hid_no fun n z => hm ⟨n, z⟩] at z'
        exact .inr (.inl z')
    · exact .inr (.inr z)
  exact ⟨g, le_unl l (fun _ _ z => hid_sub z) S'.gh S'.h0 (fun a u e => (S'.add a u e).imp id fun y => y.imp (fun w => w.1) id), unl_same _ _, ad, (S'.sto M hM).bz rfl⟩
theorem core_M {qual : Str} {st : Stmt} {f : Addr} {N ps : List Str} {body : FS} {cdv : Value} {A : Around} {outer : List Env} {s : Shared} {H : Hp} {vs : List V} {Q : VK} {E : XK} (hp : ps.length ≤ N.length)
    (hbody : DSs (cxOf (L2.CX P w) P w K mg base N qual (defScope st) f cdv A outer s H E) (defBody st) body) (h : spM ⟨K, mg⟩ (mkM N.length ps.length body) vs H Q E) :
    ∃ t, PSs (cxOf (L2.CX P w) P w K mg base N qual (defScope st) f cdv A outer s H E) (defBody st) t ∧ t { nx := fun _ H' => Q .non H', rt := Q } (start N vs) H := by
  obtain ⟨G, ds, M, l, st1, r, h⟩ := h
  have tk : Takes (cxOf (L2.CX P w) P w K mg base N qual (defScope st) f cdv A outer s H E) (fun cls d _ H => E cls d H) := takes_of rfl rfl rfl rfl
  have ps' : Psn (cxOf (L2.CX P w) P w K mg base N qual (defScope st) f cdv A outer s H E) := PassesOwn.leaving
  have sub : ∀ a u, hid G H a = some u → (cxOf (L2.CX P w) P w K mg base N qual (defScope st) f cdv A outer s H E).H_0 a = some u := fun _ _ z => hid_sub z
  refine ⟨_, pss_unl sub (hbody.run ⟨G, hid G H, fun _ => none, false⟩ _ (takes_unl sub tk) ps'), ?_⟩
  unfold mkM at h
  split at h
  · rename_i hl
    have stB : StoR ⟨K, mg⟩ ⟨G, hid G H, fun _ => none, false⟩ G H M := by
      obtain ⟨s1, s2, s3, s4⟩ := st1
      refine ⟨rfl, fun n d e => ?_, s3, s4⟩
      obtain ⟨p, a1, a2, a3, a4⟩ := s2 n d e
      exact ⟨p, a1, hid_mark a1, rfl, a4⟩
    have st0 := start_rel (B := ⟨G, hid G H, fun _ => none, false⟩) (N := N) l rfl (Lr.of fun _ _ z => hid_sub z) rfl r (by rw [r.length, hl]; exact hp) (.inr ⟨M, rfl, stB⟩)
    refine ⟨G, _, st0, ?_⟩
    unfold runM at h
    split at h
    · rename_i e0 q
      rw [q]
      split at h
      · rename_i M' hM
        exact fun σ' G' H' S' g => ⟨S'.h0, h .non G' _ (postM_of l S' g hM) .non⟩
      · exact h.elim
    · rename_i d e0 q
      rw [q]
      split at h
      · rename_i M' hM
        exact fun v σ' G' H' S' g rv => ⟨S'.h0, h v G' _ (postM_of l S' g hM) rv⟩
      · exact h.elim
    · rename_i x e0 q
      rw [q]
      split at h
      · rename_i M' hM
        exact fun cls d σ' G' H' S' g rx => ⟨S'.h0, h cls d G' _ (postM_of l S' g hM) (xrel_unl S'.h0 rx)⟩
      · exact h.elim
    · exact h.elim
  · exact h.elim
theorem len_M {T : Stt} {n np : Nat} {body : FS} {vs : List V} {H : Hp} {Q : VK} {E : XK} (h : spM T (mkM n np body) vs H Q E) : vs.length = np := by
  obtain ⟨G, ds, M, l, st, r, h⟩ := h
  unfold mkM at h
  split at h
  · rename_i e; exact r.length.trans e
  · exact h.elim
theorem def_fnM {dvs : List V} {kws : List (Str × V)} {x qual : Str} {st : Stmt} {f : Addr} {fd : FuncData} {N ps : List Str} {k : Nat} {body : FS} (F : FunD K x qual (defArgs st) (defBody st) (defScope st) dvs kws f fd) (S : FnScope N ps (defScope st)) (hp : ps.length ≤ N.length)
    (hbody : ∀ (cdv : Value) (A : Around) (outer : List Env) (s : Shared) (H : Hp) (E : XK), Room k (A.deeper (envOfC qual (defScope st) s.heap.objs.size f cdv)) → DSs (cxOf (L2.CX P w) P w K mg base N qual (defScope st) f cdv A outer s H E) (defBody st) body) :
    FnOk P w K mg base (L2.CX P w) (k + 1) f fd ps (spM ⟨K, mg⟩ (mkM N.length ps.length body)) :=
  F.ok (CX := L2.CX P w) S (fun vs H Q E h => len_M h) fun cdv A outer s H vs Q E hr h => core_M hp (hbody cdv A outer s H E hr) h
end
end DL
-- DL8
set_option maxRecDepth 100000
set_option maxHeartbeats 4000000
/-! DL8: calls of defs with a store; defs that want no guards around; the end of a law for those. -/
namespace DL
open PySem PySem.Spec PyProof.Rows L2

/-! ### behind a call with a store -/
theorem stoOf_last {env : Ev} {M : List D} (h : stoOf env = some M) : env[env.length - 1]? = some (.sto M) := by
  unfold stoOf at h
  split at h
  · rename_i q; cases h; rw [List.getLast?_eq_getElem?] at q; exact q
  · cases h
theorem stoOf_setSto {env : Ev} {M M' : List D} (h : stoOf env = some M) : stoOf (setSto env M') = some M' := by
  have hi := (List.getElem?_eq_some_iff.mp (stoOf_last h)).1
  unfold stoOf setSto
  rw [List.getLast?_eq_getElem?, List.length_set, List.getElem?_set_self hi]
theorem setSto_other {env : Ev} {M M' : List D} (h : stoOf env = some M) {j : Nat} {s : Slot} (e : (setSto env M')[j]? = some s) (n : ∀ M, s ≠ .sto M) : env[j]? = some s := by
  have hi := (List.getElem?_eq_some_iff.mp (stoOf_last h)).1
  unfold setSto at e
  by_cases z : env.length - 1 = j
  · subst z; rw [List.getElem?_set_self hi] at e; cases e; exact (n _ rfl).elim
  · rw [List.getElem?_set_ne z] at e; exact e
theorem StR.bz {T : Stt} {B : Bse} {G H : Hp} {σ : St} {env : Ev} {M : List D} (S : StR T B G H σ env) (hM : stoOf env = some M) : StoR T Bz G H M := by
  obtain ⟨s1, s2, s3, s4⟩ := S.sto M hM
  refine ⟨rfl, fun n d e => ?_, s3, s4⟩
  obtain ⟨p, a1, a2, a3, a4⟩ := s2 n d e
  exact ⟨p, a1, rfl, rfl, a4⟩
/-- a call with the store has been -/
theorem StR.afterM {T : Stt} {B : Bse} {G H G' H' : Hp} {σ : St} {env : Ev} {M M' : List D} (S : StR T B G H σ env) (hM : stoOf env = some M) (P : PostM T G H G' H' M') : StR T B G' H' σ (setSto env M') := by
  obtain ⟨g, gh, hh, ad, st⟩ := P
  obtain ⟨s1, s2, s3, s4⟩ := S.sto M hM
  have mk0 : ∀ a n, G a = some (.own n) → B.2 a = none ∧ B.3 a = none := fun a n e => by
    obtain ⟨p, b1, b2, b3, _⟩ := s2 n (M[n]'(s3 a n e)) (List.getElem?_eq_getElem (s3 a n e))
    obtain rfl := s4 _ _ n e b1
    exact ⟨b2, b3⟩
  have nm : ∀ a w, B.2 a = some w → ∀ n, G a ≠ some (.own n) := fun a w e n z => by rw [(mk0 a n z).1] at e; cases e
  have nl : ∀ a w, B.3 a = some w → ∀ n, G a ≠ some (.own n) := fun a w e n z => by rw [(mk0 a n z).2] at e; cases e
  have gone : ∀ p u, G p = none → H p = some u → (∀ xs, u ≠ .tup xs) → G' p = none := fun p u e1 e2 nt => by
    cases q : G' p with
    | none => rfl
    | some w =>
      rcases ad p w q with z | z | ⟨xs, z⟩
      · rw [e1] at z; cases z
      · rw [e2] at z; cases z
      · subst z
        have y := gh.nd q True.intro
        have y2 := hh p u (by rw [hid_no (fun n z => by rw [e1] at z; cases z)]; exact e2)
        rw [y2] at y
        cases y
        exact (nt _ rfl).elim
  refine ⟨gh, S.g0.trans g, fun a u e => ?_, fun a u e => ?_, fun a u e => ?_, by unfold setSto; rw [List.length_set]; exact S.len, top_set S.top (stoOf_last hM) ⟨fun ⟨_, _⟩ => ⟨_, rfl⟩, fun ⟨_, _⟩ => ⟨_, rfl⟩⟩, fun M2 e => ?_, fun i d e => ?_, fun i d e => ?_,
    fun i j x y q h1 h2 => S.dis i j x y q (setSto_other hM h1 fun _ z => nomatch z) (setSto_other hM h2 fun _ z => nomatch z)⟩
  · rcases S.h0 a u e with y | ⟨d, ob, y⟩
    · exact .inl (hh a _ (by rw [hid_no (nm a u e)]; exact y))
    · exact .inr ⟨d, ob, hh a _ (by rw [hid_no (nm a u e)]; exact y)⟩
  · obtain ⟨x1, x2, x3⟩ := S.lk a u e
    refine ⟨hh a _ (by rw [hid_no (nl a u e)]; exact x1), x2, x3.imp id fun x => ⟨gone a u x.1 x1 fun xs z => ?_, x.2⟩⟩
    subst z
    exact x.2
  · rcases ad a u e with z | z | z
    · exact S.add a u z
    · exact .inr (.inl ⟨S.nb z, fun y => by have y' : B.pu = true := y; rw [s1] at y'; cases y'⟩)
    · exact .inr (.inr z)
  · rw [stoOf_setSto hM] at e
    cases e
    obtain ⟨t1, t2, t3, t4⟩ := st
    refine ⟨s1, fun n d e => ?_, t3, t4⟩
    obtain ⟨p, a1, a2, a3, a4⟩ := t2 n d e
    refine ⟨p, a1, ?_, ?_, a4⟩
    · rcases ad p _ a1 with z | z | ⟨xs, z⟩
      · exact (mk0 p n z).1
      · exact S.nb z
      · cases z
    · rcases ad p _ a1 with z | z | ⟨xs, z⟩
      · exact (mk0 p n z).2
      · exact S.nl z
      · cases z
  · obtain ⟨v, a1, a2⟩ := S.val i d (setSto_other hM e fun _ z => nomatch z)
    exact ⟨v, a1, a2.same g⟩
  · obtain ⟨p, a1, a2, a3, a4⟩ := S.own i d (setSto_other hM e fun _ z => nomatch z)
    obtain ⟨u, hu, mu⟩ := a4.some
    have no : ∀ n, G p ≠ some (.own n) := fun n z => by rw [a3] at z; cases z
    exact ⟨p, a1, a2, gone p u a3 hu (fun xs z => by subst z; exact mu), a4.same g fun w q => hh p w (by rw [hid_no no]; exact q)⟩
def E.callM (F : FM) (g : FA) : FE := fun env => (g env).bind fun ds e => match stoOf e with
  | some M => match F M ds with
    | .ok z M' => .ok (.dv z) (setSto e M')
    | .exc x M' => .exc x (setSto e M')
    | .stk => .stk
  | none => .stk
theorem tE_callM {T : Stt} {B : Bse} {W : WX} {F : FM} {g : FA} {σ : St} {H : Hp} {Q : VK} (h : tE T B W (E.callM F g) σ H Q) : tAr T B W g σ H fun vs H1 => spM T F vs H1 Q (WE W σ) := by
  obtain ⟨G, env, S, h⟩ := h
  refine ⟨G, env, S, ?_⟩
  unfold E.callM at h
  cases q : g env with
  | stk => simp [q, oE] at h
  | exc x e' => simp only [q, Out.bind_exc] at h; exact h
  | ok ds e1 =>
    simp only [q, Out.bind_ok] at h
    cases hM : stoOf e1 with
    | none => simp [hM, oE] at h
    | some M =>
      simp only [hM] at h
      refine fun G1 H1 S1 l1 vs r1 => ⟨G1, ds, M, S1.gh, S1.bz hM, r1, ?_⟩
      cases qz : F M ds with
      | stk => simp [qz, oE] at h
      | ok z M' =>
        simp only [qz] at h
        exact fun v G' H' P rv => h G' H' (S1.afterM hM P) (l1.trans P.g) v rv
      | exc x M' =>
        simp only [qz] at h
        exact fun cls d G' H' P rx => h cls d G' H' (S1.afterM hM P) (l1.trans P.g) rx
structure DefOkM (P : Program) (w : World) (K : PySem.W.Frag) (mg : Str → Option Value) (base : Heap) (x : Str) (k : Nat) (F : FM) : Prop where
  ex : ∃ f fd ps, mg x = some (.ref f) ∧ PySem.W.keepIn K (.ref f) = true ∧ Binds K fd ps [] ∧ FnOk P w K mg base (L2.CX P w) k f fd ps (spM ⟨K, mg⟩ F)
section
variable {X : Cx} {x : Str} {p pos : Pos} {e : Expr} {es : List Expr} {k : Nat}
theorem de_callM {F : FM} {g : FA} (D : DefOkM X.prog X.w X.K X.mg X.base x k F) (hr : Room k X.A) (ha : DA X (e :: es) g) (hg : Gl X x := by rfl) (hdb : (x == ("__debug__" : Str)) = false := by decide)
    (he : starEach (e :: es) X.env = (false, eval e X.env) :: starEach es X.env := by rfl) (hpl : (backTo pos (starEach es X.env)).any (·.1) = false := by rfl) : DE X (.Call (.Name x p) (e :: es) [] pos) (E.callM F g) := by
  obtain ⟨f, fd, ps, hm, hk, hb, Fk⟩ := D.ex
  exact ⟨fun B W tk => (pe_callS Fk hr hg hm hk hb (fun σ => passAt tk σ) (ha.run B W tk) hdb he hpl).imp fun σ H Q h => tE_callM h⟩
end

/-! ### defs that run where no guard is around -/
structure FnG (P : Program) (w : World) (K : PySem.W.Frag) (mg : Str → Option Value) (base : Heap) (C : CXT) (k : Nat) (f : Addr) (fd : FuncData) (ps : List Str) (sp : Sp) : Prop where
  len : ∀ vs H Q E, sp vs H Q E → vs.length = ps.length
  run : ∀ (A : Around) (up : List Env) (s : Shared) (H : Hp) (gs : Args) (us : List Value) (vs : List V) (Q : VK) (E : XK), A.guards = some [] → Room k A → Env0 P w K mg base A up s H → BindsTo s fd gs (ps.zip us) → Vals vs us →
    sp vs H Q E → codeAny (model P w) A (.call (.ref f) gs) (CR C up P w H s Q E) s
theorem _root_.L2.FnOk.g {P : Program} {w : World} {K : PySem.W.Frag} {mg : Str → Option Value} {base : Heap} {C : CXT} {k : Nat} {f : Addr} {fd : FuncData} {ps : List Str} {sp : Sp} (F : FnOk P w K mg base C k f fd ps sp) : FnG P w K mg base C k f fd ps sp :=
  ⟨F.len, fun A up s H gs us vs Q E _ hr e0 hb r h => F.run A up s H gs us vs Q E hr e0 hb r h⟩
theorem FnG.mono {P : Program} {w : World} {K : PySem.W.Frag} {mg : Str → Option Value} {base : Heap} {C : CXT} {j k : Nat} {f : Addr} {fd : FuncData} {ps : List Str} {sp : Sp} (F : FnG P w K mg base C j f fd ps sp) (h : j ≤ k) : FnG P w K mg base C k f fd ps sp :=
  ⟨F.len, fun A up s H gs us vs Q E g hr e0 hb r z => F.run A up s H gs us vs Q E g (hr.mono h) e0 hb r z⟩
section
variable {P : Program} {w : World} {K : PySem.W.Frag} {mg : Str → Option Value} {base : Heap}
theorem okG {dvs : List V} {kws : List (Str × V)} {x qual : Str} {st : Stmt} {f : Addr} {fd : FuncData} {N ps : List Str} {k : Nat} {sp : Sp} (F : FunD K x qual (defArgs st) (defBody st) (defScope st) dvs kws f fd) (S : FnScope N ps (defScope st)) (len : ∀ vs H Q E, sp vs H Q E → vs.length = ps.length)
    (hbody : ∀ (cdv : Value) (A : Around) (up : List Env) (s : Shared) (H : Hp) (vs : List V) (Q : VK) (E : XK), A.guards = some [] → Room k (A.deeper (envOfC qual (defScope st) s.heap.objs.size f cdv)) → sp vs H Q E →
      ∃ t, PSs (cxOf (L2.CX P w) P w K mg base N qual (defScope st) f cdv A up s H E) (defBody st) t ∧ t { nx := fun _ H' => Q .non H', rt := Q } (start N vs) H) : FnG P w K mg base (L2.CX P w) (k + 1) f fd ps sp := by
  obtain ⟨oc, od, dV, kV, doc, pm, an, cdv, ct, osl, rfl, lk, hcd, _, _⟩ := F.ex
  constructor
  · exact len
  intro A up s H gs us vs Q E g0 hr e0 hb r hsp
  have inK : K.In s.heap := e0.mod.kin.keeps fun b o q => (e0.bs b o q).1
  have noL : s.heap.NoLimit := e0.mod.nolimit.keeps fun b o q => (e0.bs b o q).1
  have kinds : ∀ y ∈ ps.zip us, (defScope st).names.lookup y.1 = some .local ∨ ((defScope st).names.lookup y.1 = some .cell ∧ ((cellsFrom (s.heap.objs.size + 1) (defScope st).names []).lookup y.1).isSome = true) := by
    intro ⟨n, v⟩ hy
    rcases S.par n (List.of_mem_zip hy).1 with q | q
    · exact .inl q
    · exact .inr ⟨q, PySem.W.cellsFrom_some _ _ _ (.inl q)⟩
  have rec0 := PySem.W.codeRec_of inK hcd
  refine codeAny_call_function (by exact hr.depth) (inK _ _ lk) rfl S.co S.gen rfl rec0 (hb _ _ _ _ ?_)
  refine wpAny_newFunctionEnv_cells S.kind kinds ?_
  intro env he s1 z
  subst he
  refine ⟨noL.keeps z.toInCall.keep, codeAny_func ?_⟩
  obtain ⟨t, ht, hq⟩ := hbody cdv A up s H vs Q E g0 (hr.deeper _) hsp
  have I0 := inv_start (CX := L2.CX P w) (E := E) (base := base) S hr.hd e0 (len _ _ _ _ hsp) r z
  refine wpAny_mono (ht.run [] s1 (start N vs) H _ I0 hq) ?_ fun _ _ q => q
  intro fl s' hs
  cases fl with
  | ret u => obtain ⟨v, σ', H', J, rv, q⟩ := hs; exact ⟨v, H', J.os, J.bare, J.base, J.hok, rv, q⟩
  | next => obtain ⟨σ', H', J, q⟩ := hs; exact ⟨.non, H', J.os, J.bare, J.base, J.hok, rfl, q⟩
  | brk => exact hs.elim fun _ z => z.elim fun _ z => z.2.elim
  | cont => exact hs.elim fun _ z => z.elim fun _ z => z.2.elim
end
section
variable {X : Cx} {k : Nat} {f : Addr} {fd : FuncData} {ps : List Str} {sp : Sp} {E : St → XK} {x : Str} {p pos : Pos} {e : Expr} {es : List Expr} {t : TA}
theorem pe_callG (F : FnG X.prog X.w X.K X.mg X.base (L2.CX X.prog X.w) k f fd ps sp) (g0 : X.A.guards = some []) (hr : Room k X.A) (hg : Gl X x) (hm : X.mg x = some (.ref f)) (hk : PySem.W.keepIn X.K (.ref f) = true) (hb : Binds X.K fd ps []) (hx : ∀ σ, PassesAt (L2.CX X.prog X.w) X σ (E σ)) (ha : PA X (e :: es) t)
    (hdb : (x == ("__debug__" : Str)) = false := by decide) (he : starEach (e :: es) X.env = (false, eval e X.env) :: starEach es X.env := by rfl) (hpl : (backTo pos (starEach es X.env)).any (·.1) = false := by rfl) :
    PE X (.Call (.Name x p) (e :: es) [] pos) (tCallS sp E t) := by
  constructor
  intro pins s σ H Q I h
  refine wpAny_Call_Name_kw (ld_glob I hg hm ?_ hdb)
  refine PySem.W.callWith_K (h₀ := X.base) I.ok.mod.kin hk (thn (ha.run pos pins s σ H _ I h) ?_) he hpl
  rintro us s1 ⟨vs, H1, I1, r, q⟩
  refine ⟨I1.kIn, ?_⟩
  have q' : sp (vs ++ []) H1 Q (E σ) := by rw [List.append_nil]; exact q
  have r2 : Vals (vs ++ []) (us ++ []) := r.append .nil
  have hl : (us ++ []).length = ps.length := r2.length.symm.trans (F.len _ _ _ _ q')
  refine wpAny_call (codeAny_mono (F.run X.A X.stack s1 H1 ⟨us, []⟩ _ _ Q (E σ) g0 hr I1.env0 (hb s1 us I1.kIn hl) r2 q') ?_)
  intro rs s' hq
  cases rs with
  | error er => exact hx σ pins H1 s1 er s' I1 hq
  | ok fl =>
    cases fl with
    | ret u => exact I1.after hq
    | next => exact hq.elim
    | brk => exact hq.elim
    | cont => exact hq.elim
end

section
variable {P : Program} {w : World} {K : PySem.W.Frag} {mg : Str → Option Value} {base : Heap}
theorem def_fnMG {dvs : List V} {kws : List (Str × V)} {x qual : Str} {st : Stmt} {f : Addr} {fd : FuncData} {N ps : List Str} {k : Nat} {body : FS} (F : FunD K x qual (defArgs st) (defBody st) (defScope st) dvs kws f fd) (S : FnScope N ps (defScope st)) (hp : ps.length ≤ N.length)
    (hbody : ∀ (cdv : Value) (A : Around) (outer : List Env) (s : Shared) (H : Hp) (E : XK), A.guards = some [] → Room k (A.deeper (envOfC qual (defScope st) s.heap.objs.size f cdv)) → DSs (cxOf (L2.CX P w) P w K mg base N qual (defScope st) f cdv A outer s H E) (defBody st) body) :
    FnG P w K mg base (L2.CX P w) (k + 1) f fd ps (spM ⟨K, mg⟩ (mkM N.length ps.length body)) :=
  okG F S (fun vs H Q E h => len_M h) fun cdv A outer s H vs Q E g0 hr h => core_M hp (hbody cdv A outer s H E g0 hr) h
end
structure DefOkMG (P : Program) (w : World) (K : PySem.W.Frag) (mg : Str → Option Value) (base : Heap) (x : Str) (k : Nat) (F : FM) : Prop where
  ex : ∃ f fd ps, mg x = some (.ref f) ∧ PySem.W.keepIn K (.ref f) = true ∧ Binds K fd ps [] ∧ FnG P w K mg base (L2.CX P w) k f fd ps (spM ⟨K, mg⟩ F)
section
variable {X : Cx} {x : Str} {p pos : Pos} {e : Expr} {es : List Expr} {k : Nat}
theorem de_callMG {F : FM} {g : FA} (D : DefOkMG X.prog X.w X.K X.mg X.base x k F) (g0 : X.A.guards = some []) (hr : Room k X.A) (ha : DA X (e :: es) g) (hg : Gl X x := by rfl) (hdb : (x == ("__debug__" : Str)) = false := by decide)
    (he : starEach (e :: es) X.env = (false, eval e X.env) :: starEach es X.env := by rfl) (hpl : (backTo pos (starEach es X.env)).any (·.1) = false := by rfl) : DE X (.Call (.Name x p) (e :: es) [] pos) (E.callM F g) := by
  obtain ⟨f, fd, ps, hm, hk, hb, Fk⟩ := D.ex
  exact ⟨fun B W tk => (pe_callG Fk g0 hr hg hm hk hb (fun σ => passAt tk σ) (ha.run B W tk) hdb he hpl).imp fun σ H Q h => tE_callM h⟩
end

/-! ### the end of a law whose def wants no guards -/
theorem lawG {P : Program} {w : World} {K : PySem.W.Frag} {mg mb : Str → Option Value} {C : CXT} {k : Nat} {fa a : Addr} {fd : FuncData} {x : Str} {sp : Sp} {s1 : Shared} {vs : List Value} {ns : List Int}
    (inK : K.In s1.heap) (hm : s1.heap.Ns mainGlobals mg) (hb : s1.heap.Ns builtinsNs mb) (hbb : ∀ x : Str, x ≠ "__name__" → mb x = bootBuiltins x) (noL : s1.heap.NoLimit) (g0 : s1.gens = #[])
    (ha : s1.heap.get? a = some { cls := .type "list", data := .seq vs.toArray }) (hi : IntsAre vs ns) (hl : ns.length ≤ sizeLine) (hr : Room k callerA)
    (F : ∀ base : Heap, K.In base → base.Ns mainGlobals mg → FnG P w K mg base C k fa fd [x] sp) (bnd : ∀ (s : Shared) (u : Value), BindsTo s fd ⟨[u], []⟩ [(x, u)])
    (hsp : ∀ H : Hp, Only H → SqL K H a (ns.map V.int) → sp [.ref a] H (fun v _ => v = .bl true) fun _ _ _ => False)
    (hC : ∀ H e s', C [] H s1 (fun _ _ _ => False) e s' → False) :
    codeAny (model P w) callerA (.call (.ref fa) ⟨[.ref a], []⟩) (fun r s' => r = .ok (.ret (.bool true)) ∧ OldK s1.heap s'.heap ∧ s'.os = s1.os ∧ AllBare s'.gens) s1 := by
  suffices go : ∀ H : Hp, Only H → SqL K H a (ns.map V.int) → HOk P w H s1.heap → (∀ b, H b ≠ none → b = a ∧ K.lookup a = none) →
      codeAny (model P w) callerA (.call (.ref fa) ⟨[.ref a], []⟩) (fun r s' => r = .ok (.ret (.bool true)) ∧ OldK s1.heap s'.heap ∧ s'.os = s1.os ∧ AllBare s'.gens) s1 by
    cases hk : K.lookup a with
    | some o =>
      have e := inK a o hk
      rw [ha] at e
      cases e
      refine go (fun _ => none) (fun _ => .inl rfl) (.inr ⟨_, vs.toArray, _, hk, rfl, rfl, rfl, ?_, ?_⟩) (fun b u z => nomatch z) (fun b z => absurd rfl z)
      · rw [List.size_toArray, hi.length]; exact hl
      · simpa using vals_ints hi
    | none =>
      let o0 : Obj := { cls := .type "list", data := .seq vs.toArray }
      refine go (fun b => if b = a then some (.frz o0 (.lst (ns.map V.int))) else none) (fun b => ?_) (.inl (.inr ⟨o0, if_pos rfl⟩)) (fun b u z => ?_) (fun b z => ?_)
      · rcases Classical.em (b = a) with h | h
        · exact .inr ⟨o0, _, if_pos h⟩
        · exact .inl (if_neg h)
      · dsimp only at z
        split at z
        · rename_i h
          cases z
          subst h
          exact ⟨ha, by rw [List.length_map]; exact hl, vs, _, vals_ints hi, ha⟩
        · cases z
      · rcases Classical.em (b = a) with h | h
        · exact ⟨h, hk⟩
        · exact (z (if_neg h)).elim
  intro H hO hS hok hA
  have keep : ∀ {b : Addr} {o : Obj}, s1.heap.get? b = some o → H b = none → (hidT s1.heap H).get? b = some o := fun e n => hidT_get e n
  have offA : ∀ {b : Addr}, b ≠ a → H b = none := fun {b} ne => by
    cases q : H b with
    | none => rfl
    | some u => exact (ne (hA b (by rw [q]; exact nofun)).1).elim
  have noD : ∀ {b : Addr} {o : Obj} {es : Array DictEntry} {ep : Nat}, s1.heap.get? b = some o → o.data = .dict es ep → H b = none := fun {b o es ep} e d => by
    refine offA fun z => ?_
    rw [z, ha] at e
    cases e
    cases (show Data.seq vs.toArray _ = Data.dict es ep from d)
  have nsB : ∀ {b : Addr} {m : Str → Option Value}, s1.heap.Ns b m → (hidT s1.heap H).Ns b m := fun {b m} z => by
    obtain ⟨o, es, ep, e, d, r⟩ := z
    exact ⟨o, es, ep, keep e (noD e d), d, r⟩
  have inB : K.In (hidT s1.heap H) := fun b o e => keep (inK b o e) <| by
    cases q : H b with
    | none => rfl
    | some u =>
      obtain ⟨z1, z2⟩ := hA b (by rw [q]; exact nofun)
      rw [z1, z2] at e
      cases e
  have md : Mod K mg (hidT s1.heap H) := ⟨inB, nsB hm, ⟨mb, nsB hb, hbb⟩, noL.elim fun mc z => ⟨mc, nsB z.1, z.2⟩⟩
  have e0 : Env0 P w K mg (hidT s1.heap H) callerA [] s1 H := ⟨rfl, md, fun b o e => of_hidT e, Nat.le_of_eq (hidT_size _ _), trivial, (fun b z => by cases z), hok, .of_eq g0⟩
  have rn := (F _ inB (nsB hm)).run callerA [] s1 H ⟨[.ref a], []⟩ [.ref a] [.ref a] _ _ rfl hr e0 (bnd s1 (.ref a)) (.cons rfl .nil) (hsp H hO hS)
  refine codeAny_mono rn ?_
  intro r s' h
  cases r with
  | error e => exact (hC H e s' h).elim
  | ok fl =>
    cases fl with
    | next => exact h.elim
    | brk => exact h.elim
    | cont => exact h.elim
    | ret u =>
      obtain ⟨v, H', os, bare, un, hok', rv, q⟩ := h
      obtain rfl : v = .bl true := q
      obtain rfl : u = Value.bool true := rv
      refine ⟨rfl, OldK.of_keep ?_, os, bare⟩
      intro b o e
      rcases hO b with z | ⟨ob, xs, z⟩
      · exact un.keep b o e z (fun z => nomatch z) (fun z => nomatch z)
      · have z2 := un.frzs b ob _ z
        have h1 := (hok b _ z).1
        have h2 := (hok' b _ z2).1
        rw [e] at h1
        cases h1
        exact h2
theorem walkG {l : PySem.W.OpenLaw} {n k : Nat} {q : Program} {loose : List Str} {XP : (Str → Option Value) → Heap → Prop} {YP : World → Heap → Prop} {d : DefRec} {x : Str}
    (hn : l.most = some n) (hn2 : n ≤ sizeLine) (hdf : d.params.defaults = []) (hr : Room k callerA)
    (F : ∀ (w : World) (mg : Str → Option Value) (fa : Addr) (h : Heap), YP w h → h.Ns mainGlobals mg → mg d.name = some (.ref fa) → ∃ (K : PySem.W.Frag) (fd : FuncData) (sp : Sp), K.In h ∧ (∀ (s : Shared) (u : Value), BindsTo s fd ⟨[u], []⟩ [(x, u)]) ∧
      (∀ (H : Hp) (a : Addr) (ns : List Int), ns.length ≤ n → Only H → SqL K H a (ns.map V.int) → sp [.ref a] H (fun v _ => v = .bl true) fun _ _ _ => False) ∧ ∀ base : Heap, K.In base → base.Ns mainGlobals mg → FnG l.prog w K mg base (L2.CX l.prog w) k fa fd [x] sp)
    (hC : ∀ (w : World) (H : Hp) (s : Shared) (e : Value) (s' : Shared), L2.CX l.prog w [] H s (fun _ _ _ => False) e s' → False) : PySem.W.WalkO q loose XP YP l.row.toRowW d [] (fun f vs => PySem.call f vs) := by
  refine Att.attach_call hn hdf ?_
  intro w s0 s1 mg mb fa o pm cd doc a vs ns G Y ho hd hcd hmg hobj hints hlen hg
  obtain ⟨K, fd, sp, inK, hb, hsp, hF⟩ := F w mg fa _ Y G.T.g hmg
  exact lawG inK G.T.g G.T.b G.T.builtins G.T.nolimit hg hobj hints (Nat.le_trans hlen hn2) hr hF hb (fun H hO hS => hsp H a ns hlen hO hS) fun H e s' => hC w H s1 e s'
end DL
-- DL9
set_option maxRecDepth 100000
set_option maxHeartbeats 4000000
/-! DL9: repr, powers, products, divmod, pairs of names. -/
namespace DL
open PySem PySem.Spec PyProof.Rows L2

/-! ### repr -/
mutual
theorem toPy_noDict : ∀ {d : D} {p : PyData}, toPy d = some p → p.hasDict = false
  | .non, _, e => by rw [toPy] at e; cases e; rfl
  | .bl _, _, e => by rw [toPy] at e; cases e; rfl
  | .int _, _, e => by rw [toPy] at e; cases e; rfl
  | .str _, _, e => by rw [toPy] at e; cases e; rfl
  | .tup ds, _, e => by
    rw [toPy] at e
    cases q : toPys ds with
    | none => rw [q] at e; cases e
    | some ps => rw [q] at e; cases e; simpa [PyData.hasDict] using toPys_noDict q
  | .lst ds, _, e => by
    rw [toPy] at e
    cases q : toPys ds with
    | none => rw [q] at e; cases e
    | some ps => rw [q] at e; cases e; simpa [PyData.hasDict] using toPys_noDict q
  | .dcK _ _, _, e => by rw [toPy] at e; cases e
  | .dcT _ _, _, e => by rw [toPy] at e; cases e
  | .web _ _ _, _, e => by rw [toPy] at e; cases e
  | .exc0 _, _, e => by rw [toPy] at e; cases e
  | .exc1 _ _ _, _, e => by rw [toPy] at e; cases e
  | .ptr _, _, e => by rw [toPy] at e; cases e
  | .obj _ _ _, _, e => by rw [toPy] at e; cases e
  | .scr _, _, e => by rw [toPy] at e; cases e
theorem toPys_noDict : ∀ {d : List D} {p : List PyData}, toPys d = some p → PyData.hasDictAll p = false
  | [], _, e => by rw [toPys] at e; cases e; rfl
  | x :: xs, _, e => by
    rw [toPys] at e
    cases q : toPy x with
    | none => simp [q] at e
    | some p1 =>
      cases q2 : toPys xs with
      | none => simp [q, q2] at e
      | some p2 =>
        simp only [q, q2, Option.some.injEq] at e
        subst e
        simp [PyData.hasDictAll, toPy_noDict q, toPys_noDict q2]
end
def keyPy : Key → PyData
  | .inl i => .int i
  | .inr x => .str x
/-- as toPy; a dict of ints, besides -/
def pyR : D → Option PyData
  | .dcK ks ds => match intsOf ds with
    | some is => if ks.length = is.length then some (.dict ((ks.map keyPy).zip (is.map .int))) else none
    | none => none
  | d => toPy d
def rpD (d : D) : Option D := match pyR d with
  | some p => if (p.showable && decide (p.shown.length ≤ sizeLine) && decide (p.depth ≤ 64)) = true then some (.str p.shown) else none
  | none => none
section
variable {X : Cx} {pins : List (Addr × Obj)} {σ : St} {H : Hp} {s : Shared}
theorem reads_keys {h : Heap} {P : Program} {w : World} : ∀ {es : List DictEntry} {kvs : List (Key × Value)}, Pairs (mixKind P w) es kvs → ReadsAll h (es.map (·.key)) ((kvs.map (·.1)).map keyPy) []
  | _, _, .nil => .nil
  | _, _, .cons (e := e) (kv := kv) h1 _ t => by
    have r := reads_keys (h := h) t
    obtain ⟨k, v⟩ := kv
    rcases keyIs_shape (show keyIs k e.key = true from h1) with ⟨i, tk, rfl, e2⟩ | ⟨x, tk, rfl, e2⟩
    · show ReadsAll h (e.key :: _) (.int i :: _) []
      rw [e2]; exact .cons (as := []) (bs := []) (.int i tk) r
    · show ReadsAll h (e.key :: _) (.str x :: _) []
      rw [e2]; exact .cons (as := []) (bs := []) (.str x tk) r
theorem reads_vals {h : Heap} {P : Program} {w : World} : ∀ {es : List DictEntry} {kvs : List (Key × Value)} {kvs0 : List (Key × V)} {is : List Int}, Pairs (mixKind P w) es kvs → KV kvs0 kvs → kvs0.map (·.2) = is.map V.int → ReadsAll h (es.map (·.val)) (is.map .int) []
  | _, _, _, [], .nil, .nil, _ => .nil
  | _, _, _, i :: is, .cons (e := e) (kv := kv) h1 h2 t, .cons q qs, e3 => by
    simp only [List.map_cons, List.cons.injEq] at e3
    have r := reads_vals (h := h) t qs e3.2
    show ReadsAll h (e.val :: _) (.int i :: _) []
    have q2 := q.2
    rw [e3.1] at q2
    obtain ⟨tk, q2⟩ := q2
    rw [h2, q2]
    exact .cons (as := []) (bs := []) (.int i tk) r
  | _, _, _, _ :: _, .nil, .nil, e3 => by simp at e3
  | _, _, _, [], .cons _ _ _, .cons _ _, e3 => by simp at e3
theorem kv_keys : ∀ {kvs0 : List (Key × V)} {kvs : List (Key × Value)}, KV kvs0 kvs → kvs0.map (·.1) = kvs.map (·.1)
  | _, _, .nil => rfl
  | _, _, .cons q qs => by
    rw [List.map_cons, List.map_cons, kv_keys qs, q.1]
theorem reads_of {G : Hp} {v : V} {u : Value} {d : D} {p : PyData} (I : Inv X pins σ H s) (l : Le G H) (o : ORel ⟨X.K, X.mg⟩ G H v d) (rv : RelV v u) (e : pyR d = some p) : ∃ as, Reads s.heap u p as ∧ (p.hasDict = true → sysModules ∉ as) := by
  have easy : toPy d = some p → ∃ as, Reads s.heap u p as ∧ (p.hasDict = true → sysModules ∉ as) := fun e => by
    obtain ⟨as, r⟩ := Dp.reads I p v u (o.dp l e) rv
    exact ⟨as, r, fun h => by rw [toPy_noDict e] at h; cases h⟩
  cases d with
  | dcK ks ds =>
    unfold pyR at e
    dsimp only at e
    cases q : intsOf ds with
    | none => rw [q] at e; cases e
    | some is =>
      rw [q] at e
      dsimp only at e
      split at e
      · rename_i hlen
        cases e
        obtain ⟨a, kvs, rfl, hr, hk, rr⟩ := o.dcK l
        rw [intsOf_eq q] at rr
        have ev := rr.ints
        obtain ⟨z, y, vs, kv, ob, es, ep, hg, hx, hd, hks, hp, hn⟩ := hr.ok I.hok
        cases (show u = Value.ref a from rv)
        have r1 := reads_keys (h := s.heap) hp
        have r2 := reads_vals (h := s.heap) hp kv ev
        rw [← kv_keys kv, hk] at r1
        have l1 : (ks.map keyPy).length = (is.map PyData.int).length := by rw [List.length_map, List.length_map]; exact hlen
        refine ⟨[a], ?_, fun _ m => ?_⟩
        · have := Reads.dict (h := s.heap) (a := a) (kvs := (ks.map keyPy).zip (is.map .int)) (as := []) (bs := []) hg hx.1 hd (by rw [List.map_fst_zip (Nat.le_of_eq l1)]; exact r1) (by rw [List.map_snd_zip (Nat.le_of_eq l1.symm)]; exact r2)
          exact this
        · rw [List.mem_singleton] at m
          rw [← m] at y
          simp at y
      · cases e
  | _ => exact easy e
end
section
variable {X : Cx}
theorem c_repr (g0 : X.A.guards = some []) (hu : X.A.units + 100 < cLine) : Call1 X (.builtin "repr") rpD := by
  intro pins s σ H xs us Q I r ⟨v, e, G, d, z, l, o, hz, k⟩
  subst e
  cases r with
  | @cons _ u _ _ rv rr =>
    cases rr
    unfold rpD at hz
    cases hp : pyR d with
    | none => rw [hp] at hz; cases hz
    | some p =>
      rw [hp] at hz
      dsimp only at hz
      split at hz
      · rename_i hc
        cases hz
        rw [Bool.and_eq_true, Bool.and_eq_true] at hc
        obtain ⟨⟨c1, c2⟩, c3⟩ := hc
        have c2 := of_decide_eq_true c2
        have c3 := of_decide_eq_true c3
        obtain ⟨as, rd, hs⟩ := reads_of I l o rv hp
        have fin : ∀ (tk : Nat) (t' : Tok), EP X pins σ Q (.str p.shown tk) { s with toks := t' } := fun tk t' => ⟨.str p.shown, H, I.kept (t' := t') fun _ _ z => z, ⟨tk, rfl⟩, Kont.same k l (.str _)⟩
        cases rd with
        | none => exact PySem.P.repr_of_none (fin _ _)
        | bool b =>
          refine PySem.P.repr_of_bool ?_
          have := fin s.toks (s.toks + 1)
          simpa only [PyData.shown] using this
        | int i t => exact PySem.P.repr_of_int (by simpa [PyData.showable] using c1) (fin _ _)
        | str x t => exact PySem.P.repr_of_str (fin _ _) c2
        | list h1 h2 h3 h4 => exact repr_of_reads' (.list h1 h2 h3 h4) c1 hs g0 (by omega) (fun _ _ z => z) (fun h' tu tk hk => ⟨.str _, H, I.kept (t' := tk) hk, ⟨tu, rfl⟩, Kont.same k l (.str _)⟩) c2
        | tuple h1 h2 h3 h4 => exact repr_of_reads' (.tuple h1 h2 h3 h4) c1 hs g0 (by omega) (fun _ _ z => z) (fun h' tu tk hk => ⟨.str _, H, I.kept (t' := tk) hk, ⟨tu, rfl⟩, Kont.same k l (.str _)⟩) c2
        | dict h1 h2 h3 h4 h5 => exact repr_of_reads' (.dict h1 h2 h3 h4 h5) c1 hs g0 (by omega) (fun _ _ z => z) (fun h' tu tk hk => ⟨.str _, H, I.kept (t' := tk) hk, ⟨tu, rfl⟩, Kont.same k l (.str _)⟩) c2
      · cases hz
end

/-! ### powers, products -/
def powD : D → D → Option D := iiD (fun i j => decide (0 ≤ j ∧ j ≤ 1000000 ∧ i.natAbs < 2 ^ 64)) fun i j => i ^ j.toNat
/-- products of wide ints; lists by a number -/
def mulW : D → D → Option D
  | .int i, .int j => if i.natAbs.log2 + j.natAbs.log2 < 1000000 then some (.int (i * j)) else none
  | .lst xs, .int j => if -(2 ^ 63) ≤ j ∧ j < 2 ^ 63 ∧ xs.length * j.toNat ≤ sizeLine then some (.lst (List.replicate j.toNat xs).flatten) else none
  | _, _ => none
theorem VRels.rep {T : Stt} {G : Hp} {vs : List V} {ds : List D} (r : VRels T G vs ds) : ∀ n : Nat, VRels T G (List.replicate n vs).flatten (List.replicate n ds).flatten
  | 0 => .nil
  | n + 1 => by
    rw [List.replicate_succ, List.replicate_succ, List.flatten_cons, List.flatten_cons]
    exact r.append (VRels.rep r n)
section
variable {X : Cx}
theorem op_powD : OpD X (binaryOp .Pow) powD := op_iiD op_pow fun i j h => of_decide_eq_true (p := 0 ≤ j ∧ j ≤ 1000000 ∧ i.natAbs < 2 ^ 64) h
theorem op_mulWD : OpD X (binaryOp .Mult) mulW := by
  intro pins s σ H x y v u Q I rx ry h
  obtain ⟨G, d, e, z, l, ox, oy, hz, k⟩ := h
  unfold mulW at hz
  split at hz
  · split at hz
    · rename_i q
      cases hz
      obtain rfl := ox.int
      obtain rfl := oy.int
      exact op_mulW pins s σ H _ _ v u Q I rx ry ⟨_, _, rfl, rfl, q, Kont.same k l (.int _)⟩
    · cases hz
  · split at hz
    · rename_i xs j q
      cases hz
      obtain ⟨a, vs, rfl, h1, r1⟩ := ox.lst l
      obtain rfl := oy.int
      exact op_rep pins s σ H _ _ v u Q I rx ry ⟨a, j, vs, rfl, rfl, h1, q.1, q.2.1, by rw [r1.length]; exact q.2.2, fun p hp => Kont.lst k l hp (r1.rep _)⟩
    · cases hz
  · cases hz
/-! divmod -/
def dvmD : List D → Option D
  | [.int i, .int j] => if 0 < j ∧ j.natAbs.log2 < 9000 then some (.tup [.int (i / j), .int (i % j)]) else none
  | _ => none
theorem c_divmod : CallD X (.builtin "divmod") dvmD := by
  intro pins s σ H xs us Q I r ⟨G, ds, z, l, rs, hz, k⟩
  unfold dvmD at hz
  split at hz
  · split at hz
    · rename_i i j q
      cases hz
      obtain rfl := two_ints rs
      exact call_divmodW pins s σ H _ us Q I r ⟨i, j, rfl, ⟨q.1, PyProof.noPylong_of_log2 q.2⟩, fun p hp => Kont.tup k l hp (.cons (.int _) (.cons (.int _) .nil))⟩
    · cases hz
  · cases hz
end

/-! ### a, b = x, y of plain names -/
def S.par (is : List Nat) (g : FA) : FS := fun env => (g env).toS fun ds e => match bindTs (is.map .nm) ds e with
  | some e2 => .nx e2
  | none => .stk
section
variable {X : Cx} {pos : Pos}
theorem ds_par (i j : Nat) {x y : Str} {a b : Expr} {g : FA} {px py pt : Pos} {kt k2 pt2} (hc : X.calm = true) (hN : X.N.Nodup) (ha : DA X [a, b] g) (hi : X.N[i]? = some x := by rfl) (hj : X.N[j]? = some y := by rfl) (hij : i ≠ j := by decide)
    (hx : X.env.scope.names.lookup x = some .local := by rfl) (hy : X.env.scope.names.lookup y = some .local := by rfl)
    (hw : swappedStores [.Tuple [.Name x px, .Name y py] kt pt] (.Tuple [a, b] k2 pt2) X.env = pure (some [x, y]) := by rfl)
    (hs : swapsWithSole [.Tuple [.Name x px, .Name y py] kt pt] (.Tuple [a, b] k2 pt2) pos.line X.env = pure false := by rfl) :
    DS X (.Assign [.Tuple [.Name x px, .Name y py] kt pt] (.Tuple [a, b] k2 pt2) pos) (S.par [i, j] g) := by
  refine ⟨fun B W tk ps => (ps_par hc hN hi hj hij hx hy (ha.run B W tk) hw hs).imp fun De σ H q => ?_⟩
  obtain ⟨G, env, Sr, q⟩ := q
  refine ⟨G, env, Sr, oS_toS q fun ds e' G' H' S' l k vs r => ?_⟩
  cases r with
  | nil => simp [bindTs, oS] at k
  | cons r1 r =>
    cases r with
    | nil => simp [bindTs, bindT, oS] at k
    | cons r2 r =>
      cases r with
      | cons r3 r =>
        simp only [List.map_cons, List.map_nil, bindTs, bindT, Option.bind_some] at k
        exact k.elim
      | nil =>
        simp only [List.map_cons, List.map_nil, bindTs, bindT, Option.bind_some] at k
        exact ⟨_, _, rfl, k _ G' H' ((S'.set r1 i).set r2 j) (Same.refl G')⟩
end

/-! ### {"k": v, ..} -/
def dspL : List (Str × FE) → Ev → Out (List D)
  | [], e => .ok [] e
  | (_, f) :: r, e => (f e).bind fun a e1 => match frz e1 a with
    | some (d, e2) => (dspL r e2).bind fun ds e3 => .ok (d :: ds) e3
    | none => .stk
def E.dsp (kfs : List (Str × FE)) : FD := fun env => (dspL kfs env).bind fun ds e => if kfs.length ≤ 15 ∧ (kfs.map (·.1)).Nodup then .ok (.dcK (kfs.map fun q => .inr q.1) ds) e else .stk
def trD (T : Stt) (W : WX) (kfs : List (Str × FE)) : List (TE × TE) := kfs.map fun q => (tC (.str q.1), fun σ H Q => ∃ B, tE T B W q.2 σ H Q)
structure DPs (X : Cx) (pos : Pos) (keys : List (Option Expr)) (vals : List Expr) (kfs : List (Str × FE)) : Prop where
  run : ∀ (W : WX), Takes X W → PPs X pos keys vals (trD ⟨X.K, X.mg⟩ W kfs)
theorem pairs_D {T : Stt} {W : WX} {σ : St} {B : Bse} : ∀ {kfs : List (Str × FE)} {H : Hp} {Q : List (V × V) → Hp → Prop} {G : Hp} {env : Ev}, StR T B G H σ env →
    oE T B W σ G (dspL kfs env) (fun ds e' G' H' => ∀ vs, VRels T G' vs ds → Q ((kfs.map (·.1)).zipWith (fun k v => (V.str k, v)) vs) H') → tPairs (trD T W kfs) σ H Q
  | [], H, Q, G, env, S, h => h G H S (Same.refl G) [] .nil
  | (k, f) :: r, H, Q, G, env, S, h => by
    refine ⟨B, G, env, S, ?_⟩
    show oE T B W σ G (f env) _
    rw [dspL] at h
    cases q : f env with
    | stk => simp [q, oE] at h
    | exc x e' => simp only [q, Out.bind_exc] at h; exact h
    | ok a e1 =>
      simp only [q, Out.bind_ok] at h
      refine fun G1 H1 S1 l1 v1 r1 => ?_
      cases qf : frz e1 a with
      | none => simp [qf, oE] at h
      | some p =>
        obtain ⟨d, e2⟩ := p
        simp only [qf] at h
        obtain ⟨G2, S2, l2, rv⟩ := S1.frz r1 qf
        refine pairs_D S2 ?_
        cases q2 : dspL r e2 with
        | stk => simp [q2, oE] at h
        | exc x e' =>
          simp only [q2, Out.bind_exc] at h
          exact fun cls d G' H' S' l' => h cls d G' H' S' ((l1.trans l2).trans l')
        | ok ds e3 =>
          simp only [q2, Out.bind_ok] at h
          exact fun G3 H3 S3 l3 vs rvs => h G3 H3 S3 ((l1.trans l2).trans l3) (v1 :: vs) (.cons (rv.same l3) rvs)
theorem merge_new : ∀ {kvs acc : List (Key × V)}, (acc.map (·.1) ++ kvs.map (·.1)).Nodup → mergeK acc kvs = acc ++ kvs
  | [], acc, _ => by simp [mergeK]
  | (k, v) :: r, acc, h => by
    have h2 : valV acc k = none := by
      cases q : valV acc k with
      | none => rfl
      | some w =>
        have : k ∈ acc.map (·.1) := by
          unfold valV at q
          cases q3 : acc.find? fun kv => decide (kv.1 = k) with
          | none => rw [q3] at q; cases q
          | some z =>
            have z1 := List.find?_some q3
            have z2 := List.mem_of_find?_eq_some q3
            exact List.mem_map.mpr ⟨z, z2, of_decide_eq_true z1⟩
        have := (List.nodup_append.mp h).2.2 k this k (by simp)
        exact (this rfl).elim
    show mergeK (putK acc k v) r = _
    rw [putK_new v h2, merge_new (by simpa using h)]
    simp
theorem zip_keys : ∀ {ks : List Str} {vs : List V}, ks.length = vs.length → (ks.zipWith (fun k v => ((Sum.inr k : Key), v)) vs).map (·.1) = ks.map Sum.inr ∧ (ks.zipWith (fun k v => ((Sum.inr k : Key), v)) vs).map (·.2) = vs ∧
    ks.zipWith (fun k v => (V.str k, v)) vs = (ks.zipWith (fun k v => ((Sum.inr k : Key), v)) vs).map (fun kv => (kV kv.1, kv.2))
  | [], [], _ => ⟨rfl, rfl, rfl⟩
  | k :: ks, v :: vs, h => by
    obtain ⟨a, b, c⟩ := zip_keys (ks := ks) (vs := vs) (by simpa using h)
    refine ⟨?_, ?_, ?_⟩
    · rw [List.zipWith_cons_cons, List.map_cons, List.map_cons, a]
    · rw [List.zipWith_cons_cons, List.map_cons, b]
    · rw [List.zipWith_cons_cons, List.zipWith_cons_cons, List.map_cons, c]; rfl
  | [], _ :: _, h => by simp at h
  | _ :: _, [], h => by simp at h
theorem dspL_len : ∀ {kfs : List (Str × FE)} {e e' : Ev} {ds : List D}, dspL kfs e = .ok ds e' → ds.length = kfs.length
  | [], e, e', ds, h => by rw [dspL] at h; cases h; rfl
  | (k, f) :: r, e, e', ds, h => by
    rw [dspL] at h
    cases q : f e with
    | stk => simp [q] at h
    | exc x e2 => simp [q] at h
    | ok a e1 =>
      simp only [q, Out.bind_ok] at h
      cases qf : frz e1 a with
      | none => simp [qf] at h
      | some p =>
        obtain ⟨d, e2⟩ := p
        simp only [qf] at h
        cases q2 : dspL r e2 with
        | stk => simp [q2] at h
        | exc x e3 => simp [q2] at h
        | ok ds2 e3 =>
          simp only [q2, Out.bind_ok, Out.ok.injEq] at h
          obtain ⟨rfl, _⟩ := h
          simp [dspL_len q2]
section
variable {X : Cx} {pos : Pos}
theorem dps_nil : DPs X pos [] [] [] := ⟨fun W tk => pps_nil⟩
theorem dps_cons {k : Str} {j : Nat} {kp : Pos} {v : Expr} {ks : List (Option Expr)} {vs : List Expr} {f : FE} {kfs : List (Str × FE)} (hv : DE X v f) (hr : DPs X pos ks vs kfs) : DPs X pos (some (.Constant (.str k) j kp) :: ks) (v :: vs) ((k, f) :: kfs) :=
  ⟨fun W tk => pps_cons pe_str (pe_any fun B => hv.run B W tk) (hr.run W tk)⟩
theorem df_dsp {keys : List (Option Expr)} {vals : List Expr} {kfs : List (Str × FE)} (h : DPs X pos keys vals kfs) (hall : keys.all (·.isSome) = true := by rfl) (hl : keys.length = vals.length := by rfl) (h0 : keys ≠ [] := by decide) (h15 : keys.length ≤ 15 := by decide) : DF X (.Dict keys vals pos) (E.dsp kfs) := by
  refine ⟨fun B W tk => (pe_disp (h.run W tk) hall hl h0 h15).imp fun σ H Q q => ?_⟩
  obtain ⟨G, env, S, q⟩ := q
  intro p hp
  obtain ⟨S1, n1, n2, n3⟩ := S.fresh (o := .dK []) hp
  obtain ⟨b2, S2⟩ := S1.pinO (u0 := .dK []) True.intro n1.2 n2 upd_same n3
  refine pairs_D S2 ?_
  unfold E.dsp at q
  cases qd : dspL kfs env with
  | stk => simp [qd, oE] at q
  | exc x e' =>
    simp only [qd, Out.bind_exc] at q
    exact fun cls d G' H' S' l' => q cls d G' H' (S'.back b2) l'
  | ok ds e1 =>
    simp only [qd, Out.bind_ok] at q
    refine fun G1 H1 S3 l1 vs r1 => ?_
    split at q
    · rename_i hc
      obtain ⟨hp1, _, hp2⟩ := S3.lk p (.dK []) (show upd B.3 p _ p = _ from upd_same)
      have g1 : G1 p = none := by
        rcases hp2 with ⟨o, w, z⟩ | z
        · cases z
        · exact z.1
      have hlen : (kfs.map (·.1)).length = vs.length := by rw [List.length_map, r1.length, dspL_len qd]
      obtain ⟨z1, z2, z3⟩ := zip_keys hlen
      refine ⟨hp1, _, z3, ?_, ?_⟩
      · rw [List.length_zipWith]; exact Nat.le_trans (Nat.min_le_left _ _) (by rw [List.length_map]; exact hc.1)
      · have nd : ((([] : List (Key × V)).map (·.1)) ++ ((kfs.map (·.1)).zipWith (fun k v => ((Sum.inr k : Key), v)) vs).map (·.1)).Nodup := by
          rw [z1]
          simp only [List.map_nil, List.nil_append]
          exact List.Pairwise.map _ (fun a b h z => h (Sum.inr.inj z)) hc.2
        rw [merge_new nd, List.nil_append]
        have S4 := (StR.growO (u0 := .dK []) (u1 := .dK ((kfs.map (·.1)).zipWith (fun k v => ((Sum.inr k : Key), v)) vs)) True.intro True.intro S3 n1.1)
        have b4 : BExt B ⟨B.1, B.2, upd B.3 p (.dK ((kfs.map (·.1)).zipWith (fun k v => ((Sum.inr k : Key), v)) vs)), B.4⟩ := ⟨rfl, rfl, fun a w e => by
          show upd B.3 p _ a = _
          rw [upd_ne (fun z => by rw [z, n1.2] at e; cases e)]; exact e, rfl⟩
        refine q G1 _ (S4.back b4) l1 p n1 g1 (fun j d' e z => ?_) ⟨_, upd_same, by rw [z1, List.map_map]; rfl, by rw [z2]; exact r1⟩
        obtain ⟨p2, a1, a2, a3, a4⟩ := S3.own j d' e
        rw [a1] at z
        cases z
        have y : upd B.3 p (.dK []) p = none := a2.2
        rw [upd_same] at y
        cases y
    · exact q.elim
end
end DL
-- DL10
set_option maxRecDepth 100000
set_option maxHeartbeats 4000000
/-! DL10: exceptions as values: made by place, by name; their class asked, their field read. -/
namespace PySem
namespace DLX
open PySem.W PySem.Calls PyProof.Rows PySem.HandSPX
section
variable {M : Model} {prog : Program} {w : World} {A : Around} {E : Value → Shared → Prop} {R : Result → Shared → Prop} {h : Heap} {g : Array GenState} {d : Drawn} {t : Nat} {os : OsState}
variable {nm q : Str} {C N : Addr} {bs bm bmB : List Value} {hd : Bool} {sn sub : List Value} {sns : List Str} {ab : Bool} {col : Option Bool} {dd : Option Addr} {k0 k1 k2 k3 k5 : Option Value} {B nw ini : String} {f : Str} {v : Value}
theorem in_own (FB : ExcBaseFacts B nw ini bmB) (sm : ∀ X : String, bm.contains (.type X) = bmB.contains (.type X)) : (Value.ref C :: bm).contains (.type B) = true := by
  rw [List.contains_cons, sm B, FB.hasB, Bool.or_true]
theorem check_kw (FB : ExcBaseFacts B nw ini bmB) (sm : ∀ X : String, bm.contains (.type X) = bmB.contains (.type X)) {Q : Unit → Shared → Prop}
    (at_ : h.get? C = some (excClassObj nm q C N bs bm hd sns sub ab col dd k0 k1 k2 k3 k5 nw)) (z : Q () ⟨h, g, d, t, os⟩) : wpAny M A (checkBuiltinCall nw ⟨[.ref C], [(f, v)]⟩) Q E ⟨h, g, d, t, os⟩ := by
  have isB := in_own (C := C) FB sm
  have st := FB.noStar
  simp only [checkBuiltinCall, FB.newKind, FB.newSplit, FB.newRow]
  repeat (first | refine wpAny_loadPart_at at_ ?_ | (refine wpAny_isSubtype_exc at_ ?_; rw [isB]) | refine wpAny_staticBase_exc at_ ?_ | refine wpAny_madeBy_exc at_ ?_ | simp only [bne_self_eq_false, Bool.false_eq_true, if_false] | wp_step)
  exact z
theorem new_kw (FB : ExcBaseFacts B nw ini bmB) (sm : ∀ X : String, bm.contains (.type X) = bmB.contains (.type X)) (at_ : h.get? C = some (excClassObj nm q C N bs bm hd sns sub ab col dd k0 k1 k2 k3 k5 nw))
    (z : R (.ok (.ret (.ref (h.objs.size + 1)))) ⟨(h.push (W.kdv_tup [])).push (excO C h.objs.size), g, d, t, os⟩) : codeAny (model prog w) A (.builtin nw ⟨[.ref C], [(f, v)]⟩) R ⟨h, g, d, t, os⟩ := by
  have en := FB.ends
  have isB := in_own (C := C) FB sm
  have isA : (Value.ref C :: bm).contains (.type "AttributeError") = false := by
    rw [List.contains_cons, sm, FB.noAttr]; rfl
  have isN : (Value.ref C :: bm).contains (.type "NameError") = false := by
    rw [List.contains_cons, sm, FB.noName]; rfl
  refine codeAny_builtinAt FB.entry ?_
  unfold Builtin.«BaseException.__new__»
  refine wpAt_bind (show wpAt _ _ _ (stack >>= _) _ _ _ from wpAt_bind (wpAt_stack fun p below => wpAt_of_wpAny ?_))
  wp_walk
  apply wpAt_of_wpAny
  rw [FB.owner]
  repeat (first | with_reducible refine wpAny_madeHere_exc FB.canon at_ ?_ | with_reducible refine wpAny_loadPart_at at_ ?_ | (with_reducible refine wpAny_isSubtype_exc at_ ?_; first | rw [isB] | rw [isA] | rw [isN]) | wp_step)
  show R _ _
  rw [Heap.size_push]
  exact z
theorem type_call_kw (FB : ExcBaseFacts B nw ini bmB) (sm : ∀ X : String, bm.contains (.type X) = bmB.contains (.type X)) {fI : Addr} {Q : Fin → Shared → Prop} (at_ : h.get? C = some (excClassObj nm q C N bs bm hd sns sub ab col dd k0 k1 k2 k3 k5 nw))
    (li : W.Looks (model prog w) h (typeLookup (.ref C) "__init__") (some (.ref fI))) (lb : ∀ self, W.Looks (model prog w) h (bindSpecial (.ref fI) self) (.ref fI, [self]))
    (z : codeAny (model prog w) A (.call (.ref fI) ⟨[.ref (h.objs.size + 1)], [(f, v)]⟩) (fun r s' => match r with | .ok (.ret v) => v = .none ∧ Q (.done (.ret (.ref (h.objs.size + 1)))) s' | .ok _ => False | .error e => E e s') ⟨(h.push (W.kdv_tup [])).push (excO C h.objs.size), g, d, t, os⟩) :
    wpAny (model prog w) A (Builtin.«type.__call__» ⟨[.ref C], [(f, v)]⟩) Q E ⟨h, g, d, t, os⟩ := by
  repeat (first | with_reducible refine wpAny_loadPart_at at_ ?_ | with_reducible refine wpAny_madeBy_exc at_ ?_ | wp_step)
  refine codeAny_call_builtin_code (Code.quiet_builtin _ FB.quiet) (check_kw FB sm at_ (new_kw FB sm at_ ?_))
  show wpAny _ _ _ _ _ _
  have old : ∀ b o, h.get? b = some o → ((h.push (W.kdv_tup [])).push (excO C h.objs.size)).get? b = some o := fun b o e => Heap.get?_push_of_some _ (Heap.get?_push_of_some _ e)
  have at2 := old _ _ at_
  have new2 : ((h.push (W.kdv_tup [])).push (excO C h.objs.size)).get? (h.objs.size + 1) = some (excO C h.objs.size) := by heap_get
  have isC : (Value.ref C :: bm).contains (.ref C) = true := by simp
  have li2 := li.keeps old
  have lb2 := (lb (.ref (h.objs.size + 1))).keeps old
  unfold isInstance
  repeat (first | with_reducible refine wpAny_loadPart_at new2 ?_ | (with_reducible refine wpAny_isSubtype_exc at2 ?_; rw [isC]) | wp_step)
  show wpAny _ _ (typeLookup (.ref C) _) _ _ _
  refine li2.at (wpAny_holding (wpAny_bind (lb2.at (wpAny_bind (wpAny_call (codeAny_mono z ?_))))))
  intro r s' y
  rcases r with e | (v | _ | _ | _) <;> first | exact y | exact y.elim | skip
  obtain ⟨rfl, y⟩ := y
  first
    | exact wpAny_pure (wpAny_pure y)
    | (wp_walk; exact y)
theorem call_kw (FB : ExcBaseFacts B nw ini bmB) (sm : ∀ X : String, bm.contains (.type X) = bmB.contains (.type X)) {fI : Addr} (at_ : h.get? C = some (excClassObj nm q C N bs bm hd sns sub ab col dd k0 k1 k2 k3 k5 nw))
    (li : W.Looks (model prog w) h (typeLookup (.ref C) "__init__") (some (.ref fI))) (lb : ∀ self, W.Looks (model prog w) h (bindSpecial (.ref fI) self) (.ref fI, [self]))
    (z : codeAny (model prog w) (A.under (.builtin "type.__call__" ⟨[.ref C], [(f, v)]⟩)) (.call (.ref fI) ⟨[.ref (h.objs.size + 1)], [(f, v)]⟩) (W.InitBack (h.objs.size + 1) R) ⟨(h.push (W.kdv_tup [])).push (excO C h.objs.size), g, d, t, os⟩) :
    codeAny (model prog w) A (.call (.ref C) ⟨[], [(f, v)]⟩) R ⟨h, g, d, t, os⟩ := by
  have l1 := tc_lookup
  have l2 := tc_bind (.ref C)
  have ty : (⟨h, g, d, t, os⟩ : Shared).TypeIs (.ref C) "type" := ⟨_, at_, rfl⟩
  refine codeAny_of_tree (show wpAny _ _ (callAny (.ref C) _) _ _ _ from ?_)
  repeat (any_goals (first | assumption | with_reducible refine wpAny_loadPart_at at_ ?_ | wp_step))
  refine ⟨rfl, ?_⟩
  refine codeAny_call_builtin_at (Code.quiet_builtin _ (by decide +kernel)) entry_typeCall (wpAny_check_type_call_sub at_ (type_call_kw FB sm at_ li lb (codeAny_mono z ?_)))
  intro r s' y
  rcases r with e | (v | _ | _ | _) <;> exact y
end
end DLX
end PySem

namespace DL
open PySem PySem.Spec PyProof.Rows L2
theorem upd_over {H : Hp} {a dx : Addr} {o1 o2 o : HO} : L2.upd (L2.upd (L2.upd H a o1) dx o) a o2 = L2.upd (L2.upd H dx o) a o2 := by
  funext b
  by_cases h1 : b = a
  · subst h1; rw [upd_same, upd_same]
  · rw [upd_ne h1, upd_ne h1]
    by_cases h2 : b = dx
    · subst h2; rw [upd_same, upd_same]
    · rw [upd_ne h2, upd_ne h2, upd_ne h1]
/-- C(v), a new exception with its field -/
def qMk (C : Addr) (f : Str) (v : V) (H : Hp) (Q : VK) : Prop := ∀ a dx, H a = none → H dx = none → dx ≠ a → Q (.ref a) (L2.upd (L2.upd H dx (exd dx [(f, v)])) a (exo a C (some dx)))
section
variable {X : Cx} {C fI : Addr} {fd : FuncData} {f x : Str} {e : Expr} {te : TE} {p pos kpos : Pos}
theorem run_exv {pins : List (Addr × Obj)} {σ : St} {H : Hp} {s : Shared} {Q : VK} {v : V} {u : Value} {us : List Value} {kw : List (Str × Value)} (T : OexC X.K C) (iC : PySem.W.findIn X.K (.ref C) "__init__" = some (some (.ref fI))) (tI : PySem.W.typeIn X.K (.ref fI) = some (.type "function"))
    (Fi : FnOk X.prog X.w X.K X.mg X.base CX0 1 fI fd ["self", f] (spInit C f)) (hr : Room 2 X.A) (hb : ∀ s a, X.K.In s.heap → BindsTo s fd ⟨.ref a :: us, kw⟩ ([("self" : Str), f].zip [.ref a, u])) (how : us = [u] ∧ kw = [] ∨ us = [] ∧ ∃ g, kw = [(g, u)])
    (I : Inv X pins σ H s) (r : RelV v u) (h : qMk C f v H Q) : wpAny (model X.prog X.w) X.A (call (.ref C) us kw) (EP X pins σ Q) X.xe s := by
  obtain ⟨nm, q, N, bs, bm, sn, sub, ab, col, dd, k0, k1, k2, k3, k5, hC, hbm⟩ := T.cls
  obtain ⟨hp, g, dr, tk, os⟩ := s
  have hle : hp.objs.size ≤ hp.objs.size + 1 := Nat.le_succ _
  have hn : H (hp.objs.size + 1) = none := I.hok.fresh hle
  have hlen : us.length ≤ sizeLine := by
    rcases how with ⟨e, _⟩ | ⟨e, _⟩ <;> rw [e, sizeLine_eq] <;> simp
  have old : ∀ b o, hp.get? b = some o → ((hp.push (PySem.W.kdv_tup us)).push (PySem.HandSPX.excO C hp.objs.size)).get? b = some o := fun b o z => Heap.get?_push_of_some _ (Heap.get?_push_of_some _ z)
  have new2 : ((hp.push (PySem.W.kdv_tup us)).push (PySem.HandSPX.excO C hp.objs.size)).get? (hp.objs.size + 1) = some (PySem.HandSPX.excO C hp.objs.size) := by heap_get
  have I2 := I.laid (t' := tk) (a := hp.objs.size + 1) (o := exo (hp.objs.size + 1) C none) (h' := (hp.push (PySem.W.kdv_tup us)).push (PySem.HandSPX.excO C hp.objs.size)) old hle (exo_ok new2)
  have hq : spInit C f [.ref (hp.objs.size + 1), v] (L2.upd H (hp.objs.size + 1) (exo (hp.objs.size + 1) C none)) (fun w H2 => w = .non ∧ Q (.ref (hp.objs.size + 1)) H2) (fun _ _ _ => False) := by
    refine ⟨_, v, rfl, upd_same, fun dx n ne => ⟨rfl, ?_⟩⟩
    rw [upd_ne ne] at n
    rw [upd_over]
    exact h _ dx hn n ne
  have inner : ∀ A2 : Around, Room 1 A2 → Env0 X.prog X.w X.K X.mg X.base A2 X.stack ⟨(hp.push (PySem.W.kdv_tup us)).push (PySem.HandSPX.excO C hp.objs.size), g, dr, tk, os⟩ (L2.upd H (hp.objs.size + 1) (exo (hp.objs.size + 1) C none)) →
      codeAny (model X.prog X.w) A2 (.call (.ref fI) ⟨.ref (hp.objs.size + 1) :: us, kw⟩) (PySem.W.InitBack (hp.objs.size + 1) fun r s' => match r with
        | .ok (.ret y) => EP X pins σ Q y s'
        | .ok _ => False
        | .error er => X.xe er s') ⟨(hp.push (PySem.W.kdv_tup us)).push (PySem.HandSPX.excO C hp.objs.size), g, dr, tk, os⟩ := fun A2 r2 e2 => by
    refine codeAny_mono (Fi.run A2 X.stack _ _ ⟨.ref (hp.objs.size + 1) :: us, kw⟩ [.ref (hp.objs.size + 1), u] [.ref (hp.objs.size + 1), v] _ _ r2 e2 (hb _ _ I2.kIn) (.cons rfl (.cons r .nil)) hq) ?_
    intro rs s' z
    cases rs with
    | error er => exact (pass0 (X := X) pins σ _ _ er s' I2 z)
    | ok fl =>
      cases fl with
      | ret y =>
        obtain ⟨w, H', J, rw', ew, q3⟩ := I2.after z
        subst ew
        exact ⟨rw', .ref (hp.objs.size + 1), H', J, rfl, q3⟩
      | next => exact z.elim
      | brk => exact z.elim
      | cont => exact z.elim
  have lk := PySem.W.looks_findIn (M := model X.prog X.w) I.kIn iC
  have lb : ∀ self, PySem.W.Looks (model X.prog X.w) hp (bindSpecial (.ref fI) self) (.ref fI, [self]) := fun self => PySem.W.bind_fn I.kIn self tI
  have same : ∀ Y : String, bm.contains (.type Y) = _ := fun Y => PySem.HandSPX.refsVE_contains Y bm hbm
  rcases how with ⟨rfl, rfl⟩ | ⟨rfl, g2, rfl⟩
  · exact wpAny_call (PySem.HandSPX.call_own F.excBase_ValueError same (I.kIn _ _ hC) lk lb hlen (inner _ (hr.make C _ _) (I2.env0.make C _ _)))
  · exact wpAny_call (PySem.DLX.call_kw F.excBase_ValueError same (I.kIn _ _ hC) lk lb (inner _ (hr.make C _ _) (I2.env0.make C _ _)))
end

/-! ### the error classes of a program: CampError under ValueError, all others under it -/
/-- c stands under b -/
def subE (c b : Str) : Bool := decide (c = b) || decide (b = "CampError")
structure XC (K : PySem.W.Frag) (C : Addr) : Prop where
  cl : (PySem.W.clsIn K C).isSome = true
  ga : PySem.W.findIn K (.ref C) "__getattribute__" = some (some (.builtin "BaseException.__getattribute__"))
  gt : PySem.W.findIn K (.ref C) "__getattr__" = some none
  sb : PySem.W.subIn K (.ref C) (.type "BaseException") = some true
  ca : PySem.W.findIn K (.ref C) "__class__" = some (some (.builtin "object.__class__"))
  cg : PySem.W.specialIn K (.builtin "object.__class__") "__get__" = some (some (.builtin "getset_descriptor.__get__"))
  ct : PySem.W.takesIn K (.builtin "object.__class__") = some true
  mr : PySem.W.mroIn K C (.type "object") = some true
  hd : PySem.W.hasDictIn K C = true
  kp : PySem.W.keepIn K (.ref C) = true
  ve : PySem.W.kitOne K (.ref C) (.type "ValueError") = some true
def xcB (K : PySem.W.Frag) (C : Addr) : Bool := (PySem.W.clsIn K C).isSome && decide (PySem.W.findIn K (.ref C) "__getattribute__" = some (some (.builtin "BaseException.__getattribute__"))) && decide (PySem.W.findIn K (.ref C) "__getattr__" = some none) && decide (PySem.W.subIn K (.ref C) (.type "BaseException") = some true) &&
  decide (PySem.W.findIn K (.ref C) "__class__" = some (some (.builtin "object.__class__"))) && decide (PySem.W.specialIn K (.builtin "object.__class__") "__get__" = some (some (.builtin "getset_descriptor.__get__"))) && decide (PySem.W.takesIn K (.builtin "object.__class__") = some true) && decide (PySem.W.mroIn K C (.type "object") = some true) &&
  PySem.W.hasDictIn K C && PySem.W.keepIn K (.ref C) && decide (PySem.W.kitOne K (.ref C) (.type "ValueError") = some true)
theorem xcB_ok {K : PySem.W.Frag} {C : Addr} (h : xcB K C = true) : XC K C := by
  unfold xcB at h
  simp only [Bool.and_eq_true, decide_eq_true_eq] at h
  obtain ⟨⟨⟨⟨⟨⟨⟨⟨⟨⟨h1, h2⟩, h3⟩, h4⟩, h5⟩, h6⟩, h7⟩, h8⟩, h9⟩, h10⟩, h11⟩ := h
  exact ⟨h1, h2, h3, h4, h5, h6, h7, h8, h9, h10, h11⟩
/-- an error class with an __init__ that keeps one thing, given by place or by name -/
structure ExcI (P : Program) (w : World) (K : PySem.W.Frag) (mg : Str → Option Value) (base : Heap) (c f : Str) : Prop where
  ex : ∃ C fI fd, mg c = some (.ref C) ∧ OexC K C ∧ PySem.W.findIn K (.ref C) f = some none ∧ PySem.W.findIn K (.ref C) "__init__" = some (some (.ref fI)) ∧ PySem.W.typeIn K (.ref fI) = some (.type "function") ∧ FnOk P w K mg base CX0 1 fI fd ["self", f] (spInit C f) ∧ Binds K fd ["self", f] [] ∧
    ∀ (s : Shared) (a : Addr) (u : Value), K.In s.heap → BindsTo s fd ⟨[.ref a], [(f, u)]⟩ [("self", .ref a), (f, u)]
/-- an error class without -/
structure ExcN (K : PySem.W.Frag) (mg : Str → Option Value) (c : Str) : Prop where
  ex : ∃ C, mg c = some (.ref C) ∧ PySem.W.keepIn K (.ref C) = true ∧ PySem.W.excIn K C He.veBase "ValueError.__new__" = true
/-- what isinstance answers of the error classes cs -/
structure ErrT (K : PySem.W.Frag) (mg : Str → Option Value) (cs : List Str) : Prop where
  xc : ∀ c ∈ cs, ∀ C, mg c = some (.ref C) → XC K C
  is : ∀ c ∈ cs, ∀ b ∈ cs, ∀ C D, mg c = some (.ref C) → mg b = some (.ref D) → PySem.W.kitOne K (.ref C) (.ref D) = some (subE c b)
def E.xv (c f : Str) (g : FE) : FE := fun env => (g env).bind fun a e => match frz e a with
  | some (d, e2) => .ok (.dv (.exc1 c f d)) e2
  | none => .stk
theorem tE_xv {T : Stt} {B : Bse} {W : WX} {c f : Str} {C : Addr} {g : FE} {σ : St} {H : Hp} {Q : VK} (hm : T.mg c = some (.ref C)) (h : tE T B W (E.xv c f g) σ H Q) : tE T B W g σ H fun v H1 => qMk C f v H1 Q := by
  obtain ⟨G, env, S, h⟩ := h
  refine ⟨G, env, S, ?_⟩
  unfold E.xv at h
  cases q : g env with
  | stk => simp [q, oE] at h
  | exc x e' => simp only [q, Out.bind_exc] at h; exact h
  | ok a e1 =>
    simp only [q, Out.bind_ok] at h
    refine fun G1 H1 S1 l1 v r1 => ?_
    cases qf : frz e1 a with
    | none => simp [qf, oE] at h
    | some pr =>
      obtain ⟨d, e2⟩ := pr
      simp only [qf] at h
      obtain ⟨G2, S2, l2, rv⟩ := S1.frz r1 qf
      intro a dx ha hdx ne
      obtain ⟨S3, l3⟩ := S2.new (o := exd dx [(f, v)]) hdx (fun _ => exd_own)
      obtain ⟨S4, l4⟩ := S3.new (p := a) (o := exo a C (some dx)) (by rw [upd_ne (Ne.symm ne)]; exact ha) (fun _ => exo_own)
      refine h _ _ S4 (((l1.trans l2).trans l3).trans l4) _ (.exc1 hm upd_same ?_ (((rv.same l3).same l4)))
      rw [upd_ne ne, upd_same]
section
variable {X : Cx} {c f : Str} {e : Expr} {g : FE} {p pos kpos : Pos}
theorem de_xv (T : ExcI X.prog X.w X.K X.mg X.base c f) (hr : Room 2 X.A) (he : DE X e g) (hg : Gl X c := by rfl) (hdb : (c == ("__debug__" : Str)) = false := by decide)
    (hs : starEach (e :: []) X.env = (false, eval e X.env) :: starEach [] X.env := by rfl) (hpl : (backTo pos (starEach [] X.env)).any (·.1) = false := by rfl) : DE X (.Call (.Name c p) [e] [] pos) (E.xv c f g) := by
  obtain ⟨C, fI, fd, hm, TC, hno, iC, tI, F1, hb, hk⟩ := T.ex
  refine ⟨fun B W tk => ⟨fun pins s σ H Q I h => ?_⟩⟩
  have h2 := tE_xv (T := ⟨X.K, X.mg⟩) hm h
  refine wpAny_Call_Name_kw (ld_glob I hg hm ?_ hdb)
  refine PySem.W.callWith_K (h₀ := X.base) I.ok.mod.kin TC.kC (thn ((pa_cons (he.run B W tk) pa_nil hs).run pos pins s σ H (fun vs H1 => ∃ v, vs = [v] ∧ qMk C f v H1 Q) I ?_) ?_) hs hpl
  · refine (show tE _ B W g σ H _ from ?_)
    obtain ⟨G, env, S, h3⟩ := h2
    exact ⟨G, env, S, h3.mono (Same.refl G) fun a e' G' H' l k v r => ⟨v, rfl, k v r⟩⟩
  · rintro us s1 ⟨vs, H1, I1, r, v, rfl, q⟩
    cases r with
    | @cons _ u _ _ rv rr =>
      cases rr
      exact ⟨I1.kIn, run_exv TC iC tI F1 hr (fun s a inK => hb s [.ref a, u] inK rfl) (.inl ⟨rfl, rfl⟩) I1 rv q⟩
theorem de_xk (T : ExcI X.prog X.w X.K X.mg X.base c f) (hr : Room 2 X.A) (he : DE X e g) (hg : Gl X c := by rfl) (hdb : (c == ("__debug__" : Str)) = false := by decide)
    (hall : (backToKw pos (keywordEach [⟨some f, e, kpos⟩] X.env)).all (·.1.isSome) = true := by rfl) (hks : (backToKw pos (keywordEach [⟨some f, e, kpos⟩] X.env)).filterMap (·.1) = [f] := by rfl)
    (hpl : ((backTo pos (starEach [] X.env)).any (·.1) || (backToKw pos (keywordEach [⟨some f, e, kpos⟩] X.env)).any (·.1.isNone)) = false := by rfl) : DE X (.Call (.Name c p) [] [⟨some f, e, kpos⟩] pos) (E.xv c f g) := by
  obtain ⟨C, fI, fd, hm, TC, hno, iC, tI, F1, hb, hk⟩ := T.ex
  refine ⟨fun B W tk => ⟨fun pins s σ H Q I h => ?_⟩⟩
  have h2 := tE_xv (T := ⟨X.K, X.mg⟩) hm h
  refine wpAny_Call_Name_kw (ld_glob I hg hm ?_ hdb)
  refine PySem.W.callWith_KW0 (h₀ := X.base) I.ok.mod.kin TC.kC hall ?_ hpl
  refine thn ((pk_cons (he.run B W tk) pk_nil).run pos pins s σ H (fun vs H1 => ∃ v, vs = [v] ∧ qMk C f v H1 Q) I ?_) ?_
  · refine (show tE _ B W g σ H _ from ?_)
    obtain ⟨G, env, S, h3⟩ := h2
    exact ⟨G, env, S, h3.mono (Same.refl G) fun a e' G' H' l k v r => ⟨v, rfl, k v r⟩⟩
  · rintro us s1 ⟨vs, H1, I1, r, v, rfl, q⟩
    rw [hks]
    cases r with
    | @cons _ u _ _ rv rr =>
      cases rr
      exact ⟨I1.kIn, run_exv (us := []) (kw := [(f, u)]) TC iC tI F1 hr (fun s a inK => hk s a u inK) (.inr ⟨rfl, f, rfl⟩) I1 rv q⟩
def E.x0 (c : Str) : FE := fun env => .ok (.dv (.exc0 c)) env
theorem de_x0 (T : ExcN X.K X.mg c) (hg : Gl X c := by rfl) (hdb : (c == ("__debug__" : Str)) = false := by decide) : DE X (.Call (.Name c p) [] [] pos) (E.x0 c) := by
  obtain ⟨C, hm, kp, ec⟩ := T.ex
  refine ⟨fun B W tk => ⟨fun pins s σ H Q I h => ?_⟩⟩
  obtain ⟨G, env, S, h⟩ := h
  refine wpAny_Call_Name_kw (ld_glob I hg hm ?_ hdb)
  refine PySem.W.callWith_K0 I.kIn kp ?_
  show wpAny _ _ (call (.ref C) []) _ _ _
  obtain ⟨bm, N, nm, qn, bs, hdct, sn, sub, ab, col, dd, k0, k1, k2, k3, k5, mN, hC, hN, hni, T⟩ := exc_obj I.kIn ec
  refine wpAny_call_exc_subT F.excBase_ValueError T hC hN hni (fun h' a hm2 => ?_) (by rw [sizeLine_eq]; simp)
  have hn : H a = none := I.hok.gone hm2.new
  obtain ⟨t, ht, _, _⟩ := hm2.there
  have nm0 : NM (ExO (.ref C) a) := fun n z => by
    have z' : HO.ext _ = HO.own n := z
    cases z'
  obtain ⟨S2, l2⟩ := S.new (o := ExO (.ref C) a) hn nm0
  exact ⟨.ref a, _, I.laidN hm2.keeps hm2.new hn (L2.exO_ok ht ⟨rfl, rfl⟩ rfl rfl rfl (show 4 < 6 by decide)), rfl, h _ _ S2 l2 _ (.exc0 hm upd_same)⟩
end
end DL
-- DL11
set_option maxRecDepth 100000
set_option maxHeartbeats 4000000
/-! DL11: isinstance of exceptions that are values, their fields. -/
namespace DL
open PySem PySem.Spec PyProof.Rows L2
def isE (cs : List Str) (b : Str) : D → Option D
  | .exc0 c => if c ∈ cs then some (.bl (subE c b)) else none
  | .exc1 c _ _ => if c ∈ cs then some (.bl (subE c b)) else none
  | _ => none
def isV (cs : List Str) : D → Option D
  | .exc0 c => if c ∈ cs then some (.bl true) else none
  | .exc1 c _ _ => if c ∈ cs then some (.bl true) else none
  | _ => none
def fldX (cs : List Str) (f : Str) : D → Option D
  | .exc1 c g v => if c ∈ cs ∧ g = f then some v else none
  | _ => none
section
variable {X : Cx} {pins : List (Addr × Obj)} {σ : St} {H : Hp} {s : Shared}
theorem inst0 {a C : Addr} (I : Inv X pins σ H s) (h : H a = some (ExO (.ref C) a)) : ∃ ox, PySem.W.InstAt s.heap a ox C none := by
  have y : ObjOk X.prog X.w H s.heap a (.ext fun h => ∃ (oe : Obj) (vs : Array Value), h.get? a = some oe ∧ Zc (.ref C) none oe ∧ oe.data = .fields vs ∧ vs[1]? = some .none ∧ vs[2]? = some .none ∧ 4 < vs.size) := I.hok a _ h
  obtain ⟨⟨oe, vs, e, z, d, _⟩, _⟩ := y
  refine ⟨oe, e, z.1, ?_, ?_⟩
  · unfold PySem.W.notCls; rw [d] <;> rfl
  · rw [z.2]; exact True.intro
theorem inst1 {a C dx : Addr} {f : Str} {v : V} (I : Inv X pins σ H s) (h : H a = some (exo a C (some dx))) (h2 : H dx = some (exd dx [(f, v)])) : ∃ (ox od : Obj) (mA : Str → Option Value), PySem.W.InstAt s.heap a ox C (some od) ∧ (∀ g, PySem.W.lookIn g od = some (mA g)) ∧ ∀ g, RelO (([(f, v)] : List (Str × V)).lookup g) (mA g) := by
  obtain ⟨t1, e⟩ := exo_at I.hok h
  obtain ⟨mA, hns, rel⟩ := exd_at I.hok h2
  obtain ⟨od, ho, hl⟩ := lookIn_ns hns
  exact ⟨_, od, mA, ⟨e, rfl, rfl, ho⟩, hl, rel⟩
theorem XC.kit {C a : Addr} {ox : Obj} {od : Option Obj} (x : XC X.K C) : PySem.W.KitX X.K (.ref a) (.ref C) (fun h => PySem.W.InstAt h a ox C od) := PySem.W.kitx_exc x.cl x.ga x.gt x.sb x.ca x.cg x.ct x.mr
/-- isinstance of such a thing, by the table -/
theorem isi_exc {cs : List Str} {d : D} {G : Hp} {v : V} {u : Value} {c2 : Value} {ans : Str → Bool} {z : Bool} {Q : Value → Shared → Prop} {E : Value → Shared → Prop} (I : Inv X pins σ H s) (T : ErrT X.K X.mg cs) (l : Le G H) (o : ORel ⟨X.K, X.mg⟩ G H v d) (rv : RelV v u)
    (hc : ∀ c ∈ cs, ∀ C, X.mg c = some (.ref C) → PySem.W.kitOne X.K (.ref C) c2 = some (ans c)) (hd : ∃ c, (d = .exc0 c ∨ ∃ f x, d = .exc1 c f x) ∧ c ∈ cs ∧ ans c = z) (q : ∀ tk, Q (.bool z) { s with toks := tk }) :
    wpAny (model X.prog X.w) X.A (call (.builtin "isinstance") [u, c2]) Q E s := by
  obtain ⟨c, hd, hm, hz⟩ := hd
  rcases hd with rfl | ⟨f, x, rfl⟩
  · rcases o with o | ⟨p, _, y⟩
    · cases o with
      | exc0 hc0 h =>
        cases (show u = Value.ref _ from rv)
        obtain ⟨ox, J⟩ := inst0 I (l.nd h True.intro)
        exact PySem.W.kia_one (T.xc c hm _ hc0).kit I.kIn J (by rw [hc c hm _ hc0, hz]) (fun z => nomatch z) q
    · exact y.elim
  · rcases o with o | ⟨p, _, y⟩
    · cases o with
      | exc1 hc0 h h2 r =>
        cases (show u = Value.ref _ from rv)
        obtain ⟨ox, od, mA, J, _⟩ := inst1 I (l.nd h True.intro) (l.nd h2 True.intro)
        exact PySem.W.kia_one (T.xc c hm _ hc0).kit I.kIn J (by rw [hc c hm _ hc0, hz]) (fun z => nomatch z) q
    · exact y.elim
end
theorem lookup_one {f : Str} {v : V} : ([(f, v)] : List (Str × V)).lookup f = some v := by simp [List.lookup]
section
variable {X : Cx} {b f : Str} {e : Expr} {g : FE} {p p2 pos : Pos} {cs : List Str}
theorem c_isE (T : ErrT X.K X.mg cs) (hb : b ∈ cs) {D0 : Addr} (hm : X.mg b = some (.ref D0)) : CallR X (.builtin "isinstance") (fun vs H Q => ∃ v, vs = [v, .ref D0] ∧ r1D ⟨X.K, X.mg⟩ (isE cs b) v H Q) := by
  intro pins s σ H xs us Q I r ⟨v, e, G, d, z, l, o, hz, k⟩
  subst e
  cases r with
  | @cons _ u _ _ rv rr =>
    cases rr with
    | @cons _ u2 _ _ rv2 rr =>
      cases rr
      cases (show u2 = Value.ref D0 from rv2)
      have key : ∀ c, (d = .exc0 c ∨ ∃ f x, d = .exc1 c f x) → c ∈ cs → z = .bl (subE c b) → wpAny (model X.prog X.w) X.A (call (.builtin "isinstance") [u, .ref D0]) (EP X pins σ Q) X.xe s := fun c h1 h2 h3 => by
        subst h3
        exact isi_exc (ans := fun c => subE c b) I T l o rv (fun c hc C hC => T.is c hc b hb C D0 hC hm) ⟨c, h1, h2, rfl⟩ fun tk => ⟨.bl _, H, I.tok tk, rfl, Kont.same k l (.bl _)⟩
      unfold isE at hz
      split at hz
      · split at hz
        · rename_i c hc; cases hz; exact key c (.inl rfl) hc rfl
        · cases hz
      · split at hz
        · rename_i c _ _ hc; cases hz; exact key c (.inr ⟨_, _, rfl⟩) hc rfl
        · cases hz
      · cases hz
theorem c_isV (T : ErrT X.K X.mg cs) : CallR X (.builtin "isinstance") (fun vs H Q => ∃ v, vs = [v, .ty "ValueError"] ∧ r1D ⟨X.K, X.mg⟩ (isV cs) v H Q) := by
  intro pins s σ H xs us Q I r ⟨v, e, G, d, z, l, o, hz, k⟩
  subst e
  cases r with
  | @cons _ u _ _ rv rr =>
    cases rr with
    | @cons _ u2 _ _ rv2 rr =>
      cases rr
      cases (show u2 = Value.type "ValueError" from rv2)
      have key : ∀ c, (d = .exc0 c ∨ ∃ f x, d = .exc1 c f x) → c ∈ cs → z = .bl true → wpAny (model X.prog X.w) X.A (call (.builtin "isinstance") [u, .type "ValueError"]) (EP X pins σ Q) X.xe s := fun c h1 h2 h3 => by
        subst h3
        exact isi_exc (ans := fun _ => true) I T l o rv (fun c hc C hC => (T.xc c hc C hC).ve) ⟨c, h1, h2, rfl⟩ fun tk => ⟨.bl _, H, I.tok tk, rfl, Kont.same k l (.bl _)⟩
      unfold isV at hz
      split at hz
      · split at hz
        · rename_i c hc; cases hz; exact key c (.inl rfl) hc rfl
        · cases hz
      · split at hz
        · rename_i c _ _ hc; cases hz; exact key c (.inr ⟨_, _, rfl⟩) hc rfl
        · cases hz
      · cases hz
theorem de_isE (T : ErrT X.K X.mg cs) (hb : b ∈ cs) (hmb : ∃ D0, X.mg b = some (.ref D0)) (hm : X.mg "isinstance" = none) (he : DE X e g) (hgb : Gl X b := by rfl) (hg : Gl X "isinstance" := by rfl) (hdb : (b == ("__debug__" : Str)) = false := by decide)
    (hs : starEach [e, .Name b p2] X.env = (false, eval e X.env) :: starEach [.Name b p2] X.env := by rfl) (hs2 : starEach [.Name b p2] X.env = (false, eval (.Name b p2) X.env) :: starEach [] X.env := by rfl) (hpl : (backTo pos (starEach [.Name b p2] X.env)).any (·.1) = false := by rfl) :
    DE X (.Call (.Name "isinstance" p) [e, .Name b p2] [] pos) (E.c1 (isE cs b) g) := by
  obtain ⟨D0, hmb⟩ := hmb
  refine ⟨fun B W tk => (pe_callB (c_isE T hb hmb) hg hm (by decide +kernel) (pa_cons (he.run B W tk) (pa_cons (pe_glob (v := .ref D0) hgb hmb rfl hdb) pa_nil hs2) hs) (by decide) (by decide) hs hpl).imp fun σ H Q h => ?_⟩
  obtain ⟨G, env, S, h2⟩ := tE_u1 h
  exact ⟨G, env, S, h2.mono (Same.refl G) fun a e' G' H' l k v r => ⟨v, rfl, k v r⟩⟩
theorem de_isV (T : ErrT X.K X.mg cs) (hmb : X.mg "ValueError" = none) (hm : X.mg "isinstance" = none) (he : DE X e g) (hgb : Gl X "ValueError" := by rfl) (hg : Gl X "isinstance" := by rfl)
    (hs : starEach [e, .Name "ValueError" p2] X.env = (false, eval e X.env) :: starEach [.Name "ValueError" p2] X.env := by rfl) (hs2 : starEach [.Name "ValueError" p2] X.env = (false, eval (.Name "ValueError" p2) X.env) :: starEach [] X.env := by rfl) (hpl : (backTo pos (starEach [.Name "ValueError" p2] X.env)).any (·.1) = false := by rfl) :
    DE X (.Call (.Name "isinstance" p) [e, .Name "ValueError" p2] [] pos) (E.c1 (isV cs) g) := by
  refine ⟨fun B W tk => (pe_callB (c_isV T) hg hm (by decide +kernel) (pa_cons (he.run B W tk) (pa_cons (pe_bltn (v := .ty "ValueError") (u := .type "ValueError") hgb hmb (by decide +kernel) rfl) pa_nil hs2) hs) (by decide) (by decide) hs hpl).imp fun σ H Q h => ?_⟩
  obtain ⟨G, env, S, h2⟩ := tE_u1 h
  exact ⟨G, env, S, h2.mono (Same.refl G) fun a e' G' H' l k v r => ⟨v, rfl, k v r⟩⟩
theorem de_fldX (T : ErrT X.K X.mg cs) (hno : ∀ c ∈ cs, ∀ C, X.mg c = some (.ref C) → PySem.W.findIn X.K (.ref C) f = some none) (he : DE X e g) (hb : attributeBase e f X.env (eval e X.env) = eval e X.env := by rfl) : DE X (.Attribute e f pos) (E.c1 (fldX cs f) g) := by
  refine ⟨fun B W tk => ⟨fun pins s σ H Q I h => ?_⟩⟩
  obtain ⟨G, env, S, h2⟩ := tE_u1 h
  refine attr_of hb (thn (he.run B W tk |>.run pins s σ H (fun v H1 => r1D ⟨X.K, X.mg⟩ (fldX cs f) v H1 Q) I ⟨G, env, S, h2⟩) ?_)
  rintro u s1 ⟨v, H1, I1, rv, G2, d, z, l, o, hz, k⟩
  unfold fldX at hz
  split at hz
  · split at hz
    · rename_i c g0 x hc
      obtain ⟨hc, rfl⟩ := hc
      cases hz
      rcases o with o | ⟨p, _, y⟩
      · cases o with
        | exc1 hc0 h h3 r =>
          cases (show u = Value.ref _ from rv)
          obtain ⟨ox, od, mA, J, hl, rel⟩ := inst1 I1 (l.nd h True.intro) (l.nd h3 True.intro)
          have xc := T.xc c hc _ hc0
          have rg := rel g0
          rw [show ([(g0, _)] : List (Str × V)).lookup g0 = some _ from lookup_one] at rg
          obtain ⟨uu, hu, ru⟩ := RelO.some_of rg
          exact HandSPX.exc_get I1.kIn J xc.ga xc.gt xc.sb (PySem.W.findObj_own xc.hd (hno c hc _ hc0) rfl (by rw [hl, hu])) (handed_of ru) ⟨_, H1, I1.tok _, ru, Kont.same k l r⟩
      · exact y.elim
    · cases hz
  · cases hz
end
end DL
-- DL12
set_option maxRecDepth 100000
set_option maxHeartbeats 4000000
/-! DL12: small words for the printed proofs. -/
namespace DL
open PySem PySem.Spec PyProof.Rows L2
structure FunAt (K : PySem.W.Frag) (mg : Str → Option Value) (x : Str) (st : Stmt) : Prop where
  ex : ∃ f fd, mg x = some (.ref f) ∧ FunD K x x (defArgs st) (defBody st) (defScope st) [] [] f fd
theorem un_lt {k : Nat} {A : Around} (r : Room k A) (n : Nat) (hn : n ≤ 200) : A.units + n < cLine := by
  have := r.un
  omega
theorem un_lt0 {k : Nat} {A : Around} (r : Room k A) : A.units < cLine := by
  have := r.un
  omega
structure ErrAll (cs fs : List Str) (K : PySem.W.Frag) (mg : Str → Option Value) : Prop where
  t : ErrT K mg cs
  no : ∀ f, f ∈ fs → ∀ c ∈ cs, ∀ C, mg c = some (.ref C) → PySem.W.findIn K (.ref C) f = some none
  m : ∀ c, c ∈ cs → ∃ D0, mg c = some (.ref D0)
end DL
-- DL13
set_option maxRecDepth 100000
set_option maxHeartbeats 4000000
/-! DL13: facts of the head: defs, error classes. -/
namespace DL
open PySem PySem.Spec PyProof.Rows L2 He
/-- He's hook of facts and defs, with a Bool of one's own -/
def hookQ (n : Nat) (fa : List Fa) (fn : List DefD) (ex : PySem.W.Frag → Bool) : PySem.W.Hook where
  α := AlD × Bool
  obs := fun s => (fun K => (obsD fa fn K, ex K)) (frG s.heap.get? (asD s.heap.get? n))
  val := fun _ => (valD fn, true)
  says := fun _ h => ∃ K : PySem.W.Frag, K.In h ∧ SaysD fa fn K ∧ ex K = true
  of := fun _ _ e => ⟨_, frG_in, congrArg (fun z : AlD × Bool => z.1) e, congrArg (fun z : AlD × Bool => z.2) e⟩
  keeps := fun _ _ _ ⟨K, hK, c⟩ k => ⟨K, PySem.W.Frag.In.keeps hK k, c⟩
def obQ (n : Nat) (fa : List Fa) (fn : List DefD) (ex : PySem.W.Frag → Bool) (g : Addr → Option Obj) : AlD × Bool := (fun K => (obsD fa fn K, ex K)) (frG g (asD g n))
theorem obQ_eq {n : Nat} {fa : List Fa} {fn : List DefD} {ex : PySem.W.Frag → Bool} {g : Addr → Option Obj} {s : Shared} (h : ∀ a, g a = s.heap.get? a) : obQ n fa fn ex g = (hookQ n fa fn ex).obs s := by
  have e : g = s.heap.get? := funext h
  rw [e] <;> rfl
section
variable {fa : List Fa} {fn : List DefD} {K : PySem.W.Frag}
theorem fact_of (c : SaysD fa fn K) {f : Fa} (h : f ∈ fa) : f.ok K = true := by
  obtain ⟨i, hi, e⟩ := List.mem_iff_getElem.mp h
  exact c.fact i (f := f) (by rw [List.getElem?_eq_getElem hi, e])
theorem defs_of (c : SaysD fa fn K) {d : DefD} (h : d ∈ fn) : ∃ fd, FunD K d.name d.qual d.params d.body d.scope (d.dvs K) (d.kws K) (fAd K d.at_) fd := by
  obtain ⟨i, hi, e⟩ := List.mem_iff_getElem.mp h
  exact c.def_ i (d := d) (by rw [List.getElem?_eq_getElem hi, e])
end
/-- a def of the top -/
def defT (x : Str) (st : Stmt) : DefD := ⟨(x, none), x, x, defArgs st, defBody st, defScope st, [], []⟩
/-- a method -/
def defM (c m q : Str) (st : Stmt) : DefD := ⟨(c, some m), m, q, defArgs st, defBody st, defScope st, [], []⟩
theorem funAt_of {fa : List Fa} {fn : List DefD} {K : PySem.W.Frag} {h : Heap} {mg : Str → Option Value} (X : K.In h) (G : h.Ns mainGlobals mg) (c : SaysD fa fn K) (x : Str) (st : Stmt) (i j : Nat) (h1 : fa[i]? = some (.glo x)) (h2 : fn[j]? = some (defT x st)) : FunAt K mg x st := by
  obtain ⟨fd, F⟩ := c.def_ j (d := defT x st) h2
  exact ⟨⟨_, fd, glo_ok X G (c.fact i (f := .glo x) h1), F⟩⟩
/-! ### error classes -/
def oexB (K : PySem.W.Frag) (C : Addr) : Bool := (match K.lookup C with
  | some ⟨.type "type", _, .cls cd, sl⟩ => (match cd.mro, sl.toList with
    | .ref C' :: bm, [_, _, _, _, some (.builtin n), _] => C' == C && n == "ValueError.__new__" && !cd.hasDel && cd.hasDict && PySem.HandSPX.refsVE bm
    | _, _ => false)
  | _ => false) && decide (PySem.W.findIn K (.ref C) "__setattr__" = some (some (.builtin "object.__setattr__"))) && decide (PySem.W.subIn K (.ref C) (.type "BaseException") = some true) && decide (PySem.W.typeIn K (.ref C) = some (.type "type")) && PySem.W.keepIn K (.ref C)
theorem oexB_ok {K : PySem.W.Frag} {C : Addr} (h : oexB K C = true) : OexC K C := by
  unfold oexB at h
  simp only [Bool.and_eq_true, decide_eq_true_eq] at h
  obtain ⟨⟨⟨⟨h0, h1⟩, h2⟩, h3⟩, h4⟩ := h
  refine ⟨?_, h1, h2, h3, h4⟩
  split at h0
  · rename_i dd cd sl ho
    split at h0
    · rename_i C' bm k0 k1 k2 k3 n k5 hm hs
      simp only [Bool.and_eq_true, beq_iff_eq, Bool.not_eq_true'] at h0
      obtain ⟨⟨⟨⟨rfl, rfl⟩, hdel⟩, hdi⟩, hv⟩ := h0
      obtain ⟨nm, bs, mro, ns, qn, hd, sn, sub, ab, col, del⟩ := cd
      dsimp only at hm hdel hdi
      subst hm hdel hdi
      obtain ⟨l⟩ := sl
      dsimp only at hs
      subst hs
      exact ⟨nm, qn, ns, bs, bm, sn, sub, ab, col, dd, k0, k1, k2, k3, k5, ho, hv⟩
    · cases h0
  · cases h0
def initB (K : PySem.W.Frag) (c f : Str) : Bool := oexB K (ga K c) && eqO (PySem.W.findIn K (.ref (ga K c)) "__init__") (some (some (.ref (ma K (ga K c) "__init__")))) && decide (PySem.W.typeIn K (.ref (ma K (ga K c) "__init__")) = some (.type "function")) && eqO (PySem.W.findIn K (.ref (ga K c)) f) (some none)
def errB (K : PySem.W.Frag) (cs fs : List Str) : Bool := cs.all fun c => eqO (PySem.W.nsIn K mainGlobals c) (some (some (.ref (ga K c)))) && (xcB K (ga K c) && (cs.all (fun b => decide (PySem.W.kitOne K (.ref (ga K c)) (.ref (ga K b)) = some (subE c b))) && fs.all fun f => eqO (PySem.W.findIn K (.ref (ga K c)) f) (some none)))
section
variable {K : PySem.W.Frag} {h : Heap} {mg : Str → Option Value} {base : Heap} {P : Program} {w : World}
theorem errAll_of (X : K.In h) (G : h.Ns mainGlobals mg) {cs fs : List Str} (e : errB K cs fs = true) : ErrAll cs fs K mg := by
  have at_ : ∀ c ∈ cs, mg c = some (.ref (ga K c)) ∧ xcB K (ga K c) = true ∧ (∀ b ∈ cs, PySem.W.kitOne K (.ref (ga K c)) (.ref (ga K b)) = some (subE c b)) ∧ ∀ f ∈ fs, PySem.W.findIn K (.ref (ga K c)) f = some none := fun c hc => by
    obtain ⟨e1, e2⟩ := ba (List.all_eq_true.mp e c hc)
    obtain ⟨e2, e3⟩ := ba e2
    obtain ⟨e3, e4⟩ := ba e3
    exact ⟨PySem.W.mg_of X G (eqO_ok e1), e2, fun b hb => of_decide_eq_true (List.all_eq_true.mp e3 b hb), fun f hf => eqO_ok (List.all_eq_true.mp e4 f hf)⟩
  refine ⟨⟨fun c hc C hC => ?_, fun c hc b hb C D hC hD => ?_⟩, fun f hf c hc C hC => ?_, fun c hc => ⟨_, (at_ c hc).1⟩⟩
  · rw [(at_ c hc).1] at hC; cases hC; exact xcB_ok (at_ c hc).2.1
  · rw [(at_ c hc).1] at hC; cases hC
    rw [(at_ b hb).1] at hD; cases hD
    exact (at_ c hc).2.2.1 b hb
  · rw [(at_ c hc).1] at hC; cases hC; exact (at_ c hc).2.2.2 f hf
theorem excN_of (X : K.In h) (G : h.Ns mainGlobals mg) {c : Str} (h1 : (Fa.glo c).ok K = true) (h2 : (Fa.exc c).ok K = true) : ExcN K mg c := ⟨⟨_, glo_ok X G h1, (exc_ok h2).2.1, (exc_ok h2).1⟩⟩
theorem excI_of (X : K.In h) (G : h.Ns mainGlobals mg) {c f q : Str} {st : Stmt} {fd : FuncData} (h1 : (Fa.glo c).ok K = true) (h2 : initB K c f = true) (Fd : FunD K "__init__" q (defArgs st) (defBody st) (defScope st) [] [] (ma K (ga K c) "__init__") fd) (S : FnScope ["self", f] ["self", f] (defScope st))
    (hb : ∀ (cdv : Value) (A : Around) (outer : List Env) (s : Shared) (H : Hp) (E : XK), PSs (cxOf CX0 P w K mg base ["self", f] q (defScope st) (ma K (ga K c) "__init__") cdv A outer s H E).nox (defBody st) (tOst K f (tVar 0) (tVar 1)))
    (b1 : ∀ (kV doc pm : Value) (an : Option Addr) (cdv ct : Value) (us : List Value), us.length = 2 → bindArgs (PySem.W.fnOf "__init__" q (defArgs st) (defBody st) (defScope st) .none kV doc pm an cdv ct) ⟨us, []⟩ = pure ([("self" : Str), f].zip us))
    (b2 : ∀ (kV doc pm : Value) (an : Option Addr) (cdv ct : Value) (a : Addr) (u : Value), bindArgs (PySem.W.fnOf "__init__" q (defArgs st) (defBody st) (defScope st) .none kV doc pm an cdv ct) ⟨[.ref a], [(f, u)]⟩ = pure [(("self" : Str), .ref a), (f, u)]) : ExcI P w K mg base c f := by
  unfold initB at h2
  obtain ⟨h2, h6⟩ := ba h2
  obtain ⟨h2, h5⟩ := ba h2
  obtain ⟨h3, h4⟩ := ba h2
  refine ⟨⟨_, _, fd, glo_ok X G h1, oexB_ok h3, eqO_ok h6, eqO_ok h4, of_decide_eq_true h5, ok_init Fd (oexB_ok h3) (eqO_ok h6) S hb, Fd.bindsN b1, fun s a u _ => ?_⟩⟩
  obtain ⟨oc, od, dV, kV, doc, pm, an, cdv, ct, osl, rfl, lk, hcd, hD, hK⟩ := Fd.ex
  rcases hD with ⟨_, rfl⟩ | ⟨e, _⟩
  · exact .of_eq (b2 kV doc pm an cdv ct a u)
  · exact absurd rfl e
end
end DL
-- K99a
set_option maxRecDepth 100000
set_option maxHeartbeats 8000000
/-! K99: the defs. -/
namespace K99
open PySem PySem.Spec PyProof.Rows L2 DL
def top (i : Nat) : Stmt := PySem.Challenge.pw_campwebs_k99_errors_whole.main.body.getD i (.Pass ⟨0, 0, 0, 0⟩)
def errs : List Str := ["CampError", "InvalidNumber", "InvalidLot", "InvalidRound", "InvalidLine", "NotAWeb", "NotAParty", "InvalidFriends", "InvalidFoes", "InvalidPrices", "InvalidOpen", "InvalidWalk", "InvalidDeed", "InvalidText", "Barred", "NothingToUndo", "NotInCamps"]
def flds : List Str := ["given", "index", "reason"]
abbrev s__law_pool : Stmt := top 19
abbrev N__law_pool : List Str := ["script", "k", "cell", "mixed", "wide", "each"]
abbrev ps__law_pool : List Str := ["script", "k"]
theorem sc__law_pool : FnScope N__law_pool ps__law_pool (defScope s__law_pool) := ⟨rfl, rfl, rfl, by decide +kernel, rfl, by decide +kernel, by decide +kernel⟩
def B__law_pool : FS := (S.seq (S.par [2, 3] (A.cons (E.c1 sumD (E.sl (E.var 0) (P.at (E.var 1)) (P.at (E.bin addD (E.var 1) (E.cst (.int 1)))))) (A.cons (E.bin addD (E.cst (.int 50021)) (E.bin mulD (E.cst (.int 977)) (E.var 1))) A.nil)))
  (S.seq (S.set 4 (E.bin mulW (E.bin mulW (E.bin mulW (E.bin mulW (E.bin mulW (E.bin powD (E.cst (.int 10)) (E.cst (.int 64))) (E.bin powD (E.cst (.int 10)) (E.cst (.int 64)))) (E.bin powD (E.cst (.int 10)) (E.cst (.int 64)))) (E.bin powD (E.cst (.int 10)) (E.cst (.int 64)))) (E.bin powD (E.cst (.int 10)) (E.cst (.int 64)))) (E.bin powD (E.cst (.int 10)) (E.cst (.int 64)))))
  (S.seq (S.for_ (I.seq (E.sl (E.var 0) P.no (P.at (E.cst (.int 12))))) (.nm 5) (S.seq (S.set 3 (E.bin modD (E.bin addD (E.bin addD (E.bin mulD (E.var 3) (E.cst (.int 48271))) (E.bin mulD (E.bin modD (E.var 5) (E.cst (.int 2147483399))) (E.cst (.int 19)))) (E.cst (.int 7))) (E.cst (.int 2147483399))))
  S.nop))
  (S.seq (S.ret (E.mk (E.lst (A.cons (E.ite (Tt.or (Tt.val (E.bin ltD (E.var 2) (E.cst (.int 0)))) (Tt.val (E.bin geD (E.var 2) (E.bin powD (E.cst (.int 10)) (E.cst (.int 18)))))) (E.bin modD (E.c1 absD (E.var 2)) (E.var 4)) (E.cst (.int 0))) (A.cons (E.var 3) (A.cons (E.cst (.int 0)) A.nil))))))
  S.nop))))
def F__law_pool : FM := mkM 6 2 B__law_pool
theorem fn__law_pool {P : Program} {w : World} {K : PySem.W.Frag} {mg : Str → Option Value} {base : Heap} {f : Addr} {fd : FuncData} (Fd : FunD K "_law_pool" "_law_pool" (defArgs s__law_pool) (defBody s__law_pool) (defScope s__law_pool) [] [] f fd) (fr_sum : mg "sum" = none) (fr_abs : mg "abs" = none) : FnOk P w K mg base (L2.CX P w) 1 f fd ps__law_pool (spM ⟨K, mg⟩ F__law_pool) := by
  refine def_fnM (N := N__law_pool) (body := B__law_pool) Fd sc__law_pool (by decide) fun cdv A outer s H E hr => ?_
  have un := un_lt hr
  have un0 := un_lt0 hr
  exact (ds_cons (ds_par 2 3 rfl sc__law_pool.nd (da_cons (de_b1 (c_sum rfl) fr_sum (by decide +kernel) (de_sl (de_var 0) (dp_at (de_var 1)) (dp_at (de_bin op_addD (de_var 1) de_int)))) (da_cons (de_bin op_addD de_int (de_bin op_mulD de_int (de_var 1))) da_nil)))
  (ds_cons (ds_set 4 sc__law_pool.nd (de_bin op_mulWD (de_bin op_mulWD (de_bin op_mulWD (de_bin op_mulWD (de_bin op_mulWD (de_bin op_powD de_int de_int) (de_bin op_powD de_int de_int)) (de_bin op_powD de_int de_int)) (de_bin op_powD de_int de_int)) (de_bin op_powD de_int de_int)) (de_bin op_powD de_int de_int)))
  (ds_cons (ds_for rfl (di_seq (de_sl (de_var 0) dp_no (dp_at de_int))) (dg_nm 5 sc__law_pool.nd) (ds_cons (ds_set 3 sc__law_pool.nd (de_bin op_modD (de_bin op_addD (de_bin op_addD (de_bin op_mulD (de_var 3) de_int) (de_bin op_mulD (de_bin op_modD (de_var 5) de_int) de_int)) de_int) de_int))
  ds_nil))
  (ds_cons (ds_ret (df_lst (da_cons (de_ite (dw_or (dt_cmp (op_ltD un0) (de_var 2) de_int) (dw_or1 (dt_cmp op_geD (de_var 2) (de_bin op_powD de_int de_int)))).dt (de_bin op_modD (de_b1 c_abs fr_abs (by decide +kernel) (de_var 2)) (de_var 4)) de_int) (da_cons (de_var 3) (da_cons de_int da_nil)))).dm)
  ds_nil))))
theorem ok__law_pool {P : Program} {w : World} {K : PySem.W.Frag} {mg : Str → Option Value} {base : Heap} (Fd : FunAt K mg "_law_pool" s__law_pool) (fr_sum : mg "sum" = none) (fr_abs : mg "abs" = none) : DefOkM P w K mg base "_law_pool" 1 F__law_pool := by
  obtain ⟨f, fd, hm, Fd⟩ := Fd.ex
  exact ⟨⟨f, fd, ps__law_pool, hm, Fd.kp, Fd.bindsN fun _ _ _ _ _ _ us hl => match us, hl with | [_, _], _ => rfl, fn__law_pool Fd fr_sum fr_abs⟩⟩

abbrev s__law_take : Stmt := top 20
abbrev N__law_take : List Str := ["pool", "many", "digit", "stirred"]
abbrev ps__law_take : List Str := ["pool", "many"]
theorem sc__law_take : FnScope N__law_take ps__law_take (defScope s__law_take) := ⟨rfl, rfl, rfl, by decide +kernel, rfl, by decide +kernel, by decide +kernel⟩
def B__law_take : FS := (S.seq (S.ifs (Tt.val (E.bin gtD (E.bin ixD (E.var 0) (E.cst (.int 0))) (E.cst (.int 0)))) (S.seq (S.asg (.tp [(.six 0 0), (.nm 2)]) (E.cb dvmD (A.cons (E.bin ixD (E.var 0) (E.cst (.int 0))) (A.cons (E.var 1) A.nil))))
  (S.seq (S.ret (E.var 2))
  S.nop)) S.nop)
  (S.seq (S.asg (.six 0 2) (E.bin addD (E.bin ixD (E.var 0) (E.cst (.int 2))) (E.cst (.int 1))))
  (S.seq (S.set 3 (E.bin modD (E.bin addD (E.bin ixD (E.var 0) (E.cst (.int 1))) (E.bin mulD (E.cst (.int 28657)) (E.bin ixD (E.var 0) (E.cst (.int 2))))) (E.cst (.int 2147483399))))
  (S.seq (S.asg (.six 0 1) (E.bin modD (E.bin addD (E.bin mulD (E.var 3) (E.bin addD (E.bin modD (E.var 3) (E.cst (.int 5003))) (E.cst (.int 48271)))) (E.bin mulD (E.cst (.int 17)) (E.bin ixD (E.var 0) (E.cst (.int 2))))) (E.cst (.int 2147483399))))
  (S.seq (S.ret (E.bin modD (E.bin fdivD (E.bin ixD (E.var 0) (E.cst (.int 1))) (E.cst (.int 613))) (E.var 1)))
  S.nop)))))
def F__law_take : FM := mkM 4 2 B__law_take
theorem fn__law_take {P : Program} {w : World} {K : PySem.W.Frag} {mg : Str → Option Value} {base : Heap} {f : Addr} {fd : FuncData} (Fd : FunD K "_law_take" "_law_take" (defArgs s__law_take) (defBody s__law_take) (defScope s__law_take) [] [] f fd) (fr_divmod : mg "divmod" = none) : FnOk P w K mg base (L2.CX P w) 1 f fd ps__law_take (spM ⟨K, mg⟩ F__law_take) := by
  refine def_fnM (N := N__law_take) (body := B__law_take) Fd sc__law_take (by decide) fun cdv A outer s H E hr => ?_
  have un := un_lt hr
  have un0 := un_lt0 hr
  exact (ds_cons (ds_if (dt_cmp op_gtD (de_ix (un 1 (by decide)) (de_var 0) de_int) de_int) (ds_cons (ds_asg (de_cb c_divmod fr_divmod (by decide +kernel) (da_cons (de_ix (un 1 (by decide)) (de_var 0) de_int) (da_cons (de_var 1) da_nil))) (dg_tp rfl (dgs_cons (dg_six 0 0 pe_int) (dgs_cons (dg_nm 2 sc__law_take.nd) dgs_nil))))
  (ds_cons (ds_ret (de_var 2))
  ds_nil)) ds_nil)
  (ds_cons (ds_asg (de_bin op_addD (de_ix (un 1 (by decide)) (de_var 0) de_int) de_int) (dg_six 0 2 pe_int))
  (ds_cons (ds_set 3 sc__law_take.nd (de_bin op_modD (de_bin op_addD (de_ix (un 1 (by decide)) (de_var 0) de_int) (de_bin op_mulD de_int (de_ix (un 1 (by decide)) (de_var 0) de_int))) de_int))
  (ds_cons (ds_asg (de_bin op_modD (de_bin op_addD (de_bin op_mulD (de_var 3) (de_bin op_addD (de_bin op_modD (de_var 3) de_int) de_int)) (de_bin op_mulD de_int (de_ix (un 1 (by decide)) (de_var 0) de_int))) de_int) (dg_six 0 1 pe_int))
  (ds_cons (ds_ret (de_bin op_modD (de_bin op_fdivD (de_ix (un 1 (by decide)) (de_var 0) de_int) de_int) (de_var 1)))
  ds_nil)))))
theorem ok__law_take {P : Program} {w : World} {K : PySem.W.Frag} {mg : Str → Option Value} {base : Heap} (Fd : FunAt K mg "_law_take" s__law_take) (fr_divmod : mg "divmod" = none) : DefOkM P w K mg base "_law_take" 1 F__law_take := by
  obtain ⟨f, fd, hm, Fd⟩ := Fd.ex
  exact ⟨⟨f, fd, ps__law_take, hm, Fd.kp, Fd.bindsN fun _ _ _ _ _ _ us hl => match us, hl with | [_, _], _ => rfl, fn__law_take Fd fr_divmod⟩⟩

abbrev s__law_things : Stmt := top 22
abbrev N__law_things : List Str := ["pool", "number"]
abbrev ps__law_things : List Str := ["pool"]
theorem sc__law_things : FnScope N__law_things ps__law_things (defScope s__law_things) := ⟨rfl, rfl, rfl, by decide +kernel, rfl, by decide +kernel, by decide +kernel⟩
def B__law_things : FS := (S.seq (S.set 1 (E.bin subD (E.callM F__law_take (A.cons (E.var 0) (A.cons (E.cst (.int 1000)) A.nil))) (E.cst (.int 500))))
  (S.seq (S.ret (E.fz (E.lst (A.cons (E.var 1) (A.cons (E.c1 strD (E.var 1)) (A.cons (E.tup (A.cons (E.var 1) A.nil)) (A.cons (E.fz (E.lst (A.cons (E.var 1) A.nil))) (A.cons (E.cst .non) (A.cons (E.fz (E.dsp (("a", (E.var 1)) :: []))) (A.cons (E.bin gtD (E.var 1) (E.cst (.int 0))) (A.cons (E.cst (.str "")) (A.cons (E.bin addD (E.bin powD (E.cst (.int 10)) (E.cst (.int 30))) (E.var 1)) A.nil))))))))))))
  S.nop))
def F__law_things : FM := mkM 2 1 B__law_things
theorem fn__law_things {P : Program} {w : World} {K : PySem.W.Frag} {mg : Str → Option Value} {base : Heap} {f : Addr} {fd : FuncData} (Fd : FunD K "_law_things" "_law_things" (defArgs s__law_things) (defBody s__law_things) (defScope s__law_things) [] [] f fd) (D__law_take : DefOkM P w K mg base "_law_take" 1 F__law_take) (fr_str : mg "str" = none) : FnOk P w K mg base (L2.CX P w) 2 f fd ps__law_things (spM ⟨K, mg⟩ F__law_things) := by
  refine def_fnM (N := N__law_things) (body := B__law_things) Fd sc__law_things (by decide) fun cdv A outer s H E hr => ?_
  have un := un_lt hr
  have un0 := un_lt0 hr
  exact (ds_cons (ds_set 1 sc__law_things.nd (de_bin op_subD (de_callM D__law_take (hr.mono (by decide)) (da_cons (de_var 0) (da_cons de_int da_nil))) de_int))
  (ds_cons (ds_ret (df_lst (da_cons (de_var 1) (da_cons (de_t1 c_str fr_str (by decide +kernel) (de_var 1)) (da_cons (de_tup (da_cons (de_var 1) da_nil)) (da_cons (df_lst (da_cons (de_var 1) da_nil)).de (da_cons de_non (da_cons (df_dsp (dps_cons (de_var 1) dps_nil)).de (da_cons (de_cmp op_gtD (de_var 1) de_int) (da_cons de_str (da_cons (de_bin op_addD (de_bin op_powD de_int de_int) (de_var 1)) da_nil)))))))))).de)
  ds_nil))
theorem ok__law_things {P : Program} {w : World} {K : PySem.W.Frag} {mg : Str → Option Value} {base : Heap} (Fd : FunAt K mg "_law_things" s__law_things) (D__law_take : DefOkM P w K mg base "_law_take" 1 F__law_take) (fr_str : mg "str" = none) : DefOkM P w K mg base "_law_things" 2 F__law_things := by
  obtain ⟨f, fd, hm, Fd⟩ := Fd.ex
  exact ⟨⟨f, fd, ps__law_things, hm, Fd.kp, Fd.bindsN fun _ _ _ _ _ _ us hl => match us, hl with | [_], _ => rfl, fn__law_things Fd D__law_take fr_str⟩⟩

abbrev s__law_flags : Stmt := top 23
abbrev N__law_flags : List Str := ["e", "found"]
abbrev ps__law_flags : List Str := ["e"]
theorem sc__law_flags : FnScope N__law_flags ps__law_flags (defScope s__law_flags) := ⟨rfl, rfl, rfl, by decide +kernel, rfl, by decide +kernel, by decide +kernel⟩
def B__law_flags : FS := (S.seq (S.set 1 (E.fz (E.lst (A.cons (E.c1 (isE errs "InvalidNumber") (E.var 0)) (A.cons (E.c1 (isE errs "InvalidLot") (E.var 0)) (A.cons (E.c1 (isE errs "InvalidRound") (E.var 0)) A.nil))))))
  (S.seq (S.set 1 (E.bin addD (E.var 1) (E.fz (E.lst (A.cons (E.c1 (isE errs "InvalidLine") (E.var 0)) (A.cons (E.c1 (isE errs "NotAWeb") (E.var 0)) (A.cons (E.c1 (isE errs "NotAParty") (E.var 0)) A.nil)))))))
  (S.seq (S.set 1 (E.bin addD (E.var 1) (E.fz (E.lst (A.cons (E.c1 (isE errs "InvalidFriends") (E.var 0)) (A.cons (E.c1 (isE errs "InvalidFoes") (E.var 0)) (A.cons (E.c1 (isE errs "InvalidPrices") (E.var 0)) A.nil)))))))
  (S.seq (S.set 1 (E.bin addD (E.var 1) (E.fz (E.lst (A.cons (E.c1 (isE errs "InvalidOpen") (E.var 0)) (A.cons (E.c1 (isE errs "InvalidWalk") (E.var 0)) (A.cons (E.c1 (isE errs "InvalidDeed") (E.var 0)) A.nil)))))))
  (S.seq (S.set 1 (E.bin addD (E.var 1) (E.fz (E.lst (A.cons (E.c1 (isE errs "InvalidText") (E.var 0)) (A.cons (E.c1 (isE errs "Barred") (E.var 0)) (A.cons (E.c1 (isE errs "NothingToUndo") (E.var 0)) A.nil)))))))
  (S.seq (S.ret (E.bin addD (E.var 1) (E.fz (E.lst (A.cons (E.c1 (isE errs "NotInCamps") (E.var 0)) A.nil)))))
  S.nop))))))
def F__law_flags : List D → FO := mkF 2 1 B__law_flags
theorem fn__law_flags {P : Program} {w : World} {K : PySem.W.Frag} {mg : Str → Option Value} {base : Heap} {f : Addr} {fd : FuncData} (Fd : FunD K "_law_flags" "_law_flags" (defArgs s__law_flags) (defBody s__law_flags) (defScope s__law_flags) [] [] f fd) (fr_isinstance : mg "isinstance" = none) (ET : ErrAll errs flds K mg) : FnOk P w K mg base (L2.CX P w) 1 f fd ps__law_flags (spD ⟨K, mg⟩ F__law_flags) := by
  refine def_fn (N := N__law_flags) (body := B__law_flags) Fd sc__law_flags (by decide) fun cdv A outer s H E hr => ?_
  have un := un_lt hr
  have un0 := un_lt0 hr
  exact (ds_cons (ds_set 1 sc__law_flags.nd (df_lst (da_cons (de_isE ET.t (by decide) (ET.m "InvalidNumber" (by decide)) fr_isinstance (de_var 0)) (da_cons (de_isE ET.t (by decide) (ET.m "InvalidLot" (by decide)) fr_isinstance (de_var 0)) (da_cons (de_isE ET.t (by decide) (ET.m "InvalidRound" (by decide)) fr_isinstance (de_var 0)) da_nil)))).de)
  (ds_cons (ds_set 1 sc__law_flags.nd (de_bin op_addD (de_var 1) (df_lst (da_cons (de_isE ET.t (by decide) (ET.m "InvalidLine" (by decide)) fr_isinstance (de_var 0)) (da_cons (de_isE ET.t (by decide) (ET.m "NotAWeb" (by decide)) fr_isinstance (de_var 0)) (da_cons (de_isE ET.t (by decide) (ET.m "NotAParty" (by decide)) fr_isinstance (de_var 0)) da_nil)))).de))
  (ds_cons (ds_set 1 sc__law_flags.nd (de_bin op_addD (de_var 1) (df_lst (da_cons (de_isE ET.t (by decide) (ET.m "InvalidFriends" (by decide)) fr_isinstance (de_var 0)) (da_cons (de_isE ET.t (by decide) (ET.m "InvalidFoes" (by decide)) fr_isinstance (de_var 0)) (da_cons (de_isE ET.t (by decide) (ET.m "InvalidPrices" (by decide)) fr_isinstance (de_var 0)) da_nil)))).de))
  (ds_cons (ds_set 1 sc__law_flags.nd (de_bin op_addD (de_var 1) (df_lst (da_cons (de_isE ET.t (by decide) (ET.m "InvalidOpen" (by decide)) fr_isinstance (de_var 0)) (da_cons (de_isE ET.t (by decide) (ET.m "InvalidWalk" (by decide)) fr_isinstance (de_var 0)) (da_cons (de_isE ET.t (by decide) (ET.m "InvalidDeed" (by decide)) fr_isinstance (de_var 0)) da_nil)))).de))
  (ds_cons (ds_set 1 sc__law_flags.nd (de_bin op_addD (de_var 1) (df_lst (da_cons (de_isE ET.t (by decide) (ET.m "InvalidText" (by decide)) fr_isinstance (de_var 0)) (da_cons (de_isE ET.t (by decide) (ET.m "Barred" (by decide)) fr_isinstance (de_var 0)) (da_cons (de_isE ET.t (by decide) (ET.m "NothingToUndo" (by decide)) fr_isinstance (de_var 0)) da_nil)))).de))
  (ds_cons (ds_ret (de_bin op_addD (de_var 1) (df_lst (da_cons (de_isE ET.t (by decide) (ET.m "NotInCamps" (by decide)) fr_isinstance (de_var 0)) da_nil)).de))
  ds_nil))))))
theorem ok__law_flags {P : Program} {w : World} {K : PySem.W.Frag} {mg : Str → Option Value} {base : Heap} (Fd : FunAt K mg "_law_flags" s__law_flags) (fr_isinstance : mg "isinstance" = none) (ET : ErrAll errs flds K mg) : DefOk P w K mg base "_law_flags" 1 F__law_flags := by
  obtain ⟨f, fd, hm, Fd⟩ := Fd.ex
  exact ⟨⟨f, fd, ps__law_flags, hm, Fd.kp, Fd.bindsN fun _ _ _ _ _ _ us hl => match us, hl with | [_], _ => rfl, fn__law_flags Fd fr_isinstance ET⟩⟩

abbrev s__law_made : Stmt := top 24
abbrev N__law_made : List Str := ["thing", "one", "two"]
abbrev ps__law_made : List Str := ["thing"]
theorem sc__law_made : FnScope N__law_made ps__law_made (defScope s__law_made) := ⟨rfl, rfl, rfl, by decide +kernel, rfl, by decide +kernel, by decide +kernel⟩
def B__law_made : FS := (S.seq (S.set 1 (E.fz (E.lst (A.cons (E.xv "InvalidNumber" "given" (E.var 0)) (A.cons (E.xv "InvalidLot" "given" (E.var 0)) (A.cons (E.xv "InvalidRound" "given" (E.var 0)) (A.cons (E.xv "InvalidLine" "given" (E.var 0)) (A.cons (E.xv "NotAWeb" "given" (E.var 0)) A.nil))))))))
  (S.seq (S.set 1 (E.bin addD (E.var 1) (E.fz (E.lst (A.cons (E.xv "NotAParty" "given" (E.var 0)) (A.cons (E.xv "InvalidFriends" "index" (E.var 0)) (A.cons (E.xv "InvalidFoes" "index" (E.var 0)) (A.cons (E.xv "InvalidPrices" "index" (E.var 0)) A.nil))))))))
  (S.seq (S.set 1 (E.bin addD (E.var 1) (E.fz (E.lst (A.cons (E.xv "InvalidOpen" "index" (E.var 0)) (A.cons (E.xv "InvalidWalk" "index" (E.var 0)) (A.cons (E.xv "InvalidDeed" "index" (E.var 0)) (A.cons (E.xv "InvalidText" "index" (E.var 0)) (A.cons (E.xv "Barred" "reason" (E.var 0)) A.nil)))))))))
  (S.seq (S.set 2 (E.fz (E.lst (A.cons (E.xv "InvalidNumber" "given" (E.var 0)) (A.cons (E.xv "InvalidLot" "given" (E.var 0)) (A.cons (E.xv "InvalidRound" "given" (E.var 0)) (A.cons (E.xv "InvalidLine" "given" (E.var 0)) A.nil)))))))
  (S.seq (S.set 2 (E.bin addD (E.var 2) (E.fz (E.lst (A.cons (E.xv "NotAWeb" "given" (E.var 0)) (A.cons (E.xv "NotAParty" "given" (E.var 0)) (A.cons (E.xv "InvalidFriends" "index" (E.var 0)) (A.cons (E.xv "InvalidFoes" "index" (E.var 0)) A.nil))))))))
  (S.seq (S.set 2 (E.bin addD (E.var 2) (E.fz (E.lst (A.cons (E.xv "InvalidPrices" "index" (E.var 0)) (A.cons (E.xv "InvalidOpen" "index" (E.var 0)) (A.cons (E.xv "InvalidWalk" "index" (E.var 0)) A.nil)))))))
  (S.seq (S.ret (E.tup (A.cons (E.var 1) (A.cons (E.bin addD (E.var 2) (E.fz (E.lst (A.cons (E.xv "InvalidDeed" "index" (E.var 0)) (A.cons (E.xv "InvalidText" "index" (E.var 0)) (A.cons (E.xv "Barred" "reason" (E.var 0)) A.nil)))))) A.nil))))
  S.nop)))))))
def F__law_made : List D → FO := mkF 3 1 B__law_made
theorem fn__law_made {P : Program} {w : World} {K : PySem.W.Frag} {mg : Str → Option Value} {base : Heap} {f : Addr} {fd : FuncData} (Fd : FunD K "_law_made" "_law_made" (defArgs s__law_made) (defBody s__law_made) (defScope s__law_made) [] [] f fd) (xi_Barred : ExcI P w K mg base "Barred" "reason") (xi_InvalidDeed : ExcI P w K mg base "InvalidDeed" "index") (xi_InvalidFoes : ExcI P w K mg base "InvalidFoes" "index") (xi_InvalidFriends : ExcI P w K mg base "InvalidFriends" "index") (xi_InvalidLine : ExcI P w K mg base "InvalidLine" "given") (xi_InvalidLot : ExcI P w K mg base "InvalidLot" "given") (xi_InvalidNumber : ExcI P w K mg base "InvalidNumber" "given") (xi_InvalidOpen : ExcI P w K mg base "InvalidOpen" "index") (xi_InvalidPrices : ExcI P w K mg base "InvalidPrices" "index") (xi_InvalidRound : ExcI P w K mg base "InvalidRound" "given") (xi_InvalidText : ExcI P w K mg base "InvalidText" "index") (xi_InvalidWalk : ExcI P w K mg base "InvalidWalk" "index") (xi_NotAParty : ExcI P w K mg base "NotAParty" "given") (xi_NotAWeb : ExcI P w K mg base "NotAWeb" "given") : FnOk P w K mg base (L2.CX P w) 3 f fd ps__law_made (spD ⟨K, mg⟩ F__law_made) := by
  refine def_fn (N := N__law_made) (body := B__law_made) Fd sc__law_made (by decide) fun cdv A outer s H E hr => ?_
  have un := un_lt hr
  have un0 := un_lt0 hr
  exact (ds_cons (ds_set 1 sc__law_made.nd (df_lst (da_cons (de_xv xi_InvalidNumber (hr.mono (by decide)) (de_var 0)) (da_cons (de_xv xi_InvalidLot (hr.mono (by decide)) (de_var 0)) (da_cons (de_xv xi_InvalidRound (hr.mono (by decide)) (de_var 0)) (da_cons (de_xv xi_InvalidLine (hr.mono (by decide)) (de_var 0)) (da_cons (de_xv xi_NotAWeb (hr.mono (by decide)) (de_var 0)) da_nil)))))).de)
  (ds_cons (ds_set 1 sc__law_made.nd (de_bin op_addD (de_var 1) (df_lst (da_cons (de_xv xi_NotAParty (hr.mono (by decide)) (de_var 0)) (da_cons (de_xv xi_InvalidFriends (hr.mono (by decide)) (de_var 0)) (da_cons (de_xv xi_InvalidFoes (hr.mono (by decide)) (de_var 0)) (da_cons (de_xv xi_InvalidPrices (hr.mono (by decide)) (de_var 0)) da_nil))))).de))
  (ds_cons (ds_set 1 sc__law_made.nd (de_bin op_addD (de_var 1) (df_lst (da_cons (de_xv xi_InvalidOpen (hr.mono (by decide)) (de_var 0)) (da_cons (de_xv xi_InvalidWalk (hr.mono (by decide)) (de_var 0)) (da_cons (de_xv xi_InvalidDeed (hr.mono (by decide)) (de_var 0)) (da_cons (de_xv xi_InvalidText (hr.mono (by decide)) (de_var 0)) (da_cons (de_xv xi_Barred (hr.mono (by decide)) (de_var 0)) da_nil)))))).de))
  (ds_cons (ds_set 2 sc__law_made.nd (df_lst (da_cons (de_xk xi_InvalidNumber (hr.mono (by decide)) (de_var 0)) (da_cons (de_xk xi_InvalidLot (hr.mono (by decide)) (de_var 0)) (da_cons (de_xk xi_InvalidRound (hr.mono (by decide)) (de_var 0)) (da_cons (de_xk xi_InvalidLine (hr.mono (by decide)) (de_var 0)) da_nil))))).de)
  (ds_cons (ds_set 2 sc__law_made.nd (de_bin op_addD (de_var 2) (df_lst (da_cons (de_xk xi_NotAWeb (hr.mono (by decide)) (de_var 0)) (da_cons (de_xk xi_NotAParty (hr.mono (by decide)) (de_var 0)) (da_cons (de_xk xi_InvalidFriends (hr.mono (by decide)) (de_var 0)) (da_cons (de_xk xi_InvalidFoes (hr.mono (by decide)) (de_var 0)) da_nil))))).de))
  (ds_cons (ds_set 2 sc__law_made.nd (de_bin op_addD (de_var 2) (df_lst (da_cons (de_xk xi_InvalidPrices (hr.mono (by decide)) (de_var 0)) (da_cons (de_xk xi_InvalidOpen (hr.mono (by decide)) (de_var 0)) (da_cons (de_xk xi_InvalidWalk (hr.mono (by decide)) (de_var 0)) da_nil)))).de))
  (ds_cons (ds_ret (de_tup (da_cons (de_var 1) (da_cons (de_bin op_addD (de_var 2) (df_lst (da_cons (de_xk xi_InvalidDeed (hr.mono (by decide)) (de_var 0)) (da_cons (de_xk xi_InvalidText (hr.mono (by decide)) (de_var 0)) (da_cons (de_xk xi_Barred (hr.mono (by decide)) (de_var 0)) da_nil)))).de) da_nil))))
  ds_nil)))))))
theorem ok__law_made {P : Program} {w : World} {K : PySem.W.Frag} {mg : Str → Option Value} {base : Heap} (Fd : FunAt K mg "_law_made" s__law_made) (xi_Barred : ExcI P w K mg base "Barred" "reason") (xi_InvalidDeed : ExcI P w K mg base "InvalidDeed" "index") (xi_InvalidFoes : ExcI P w K mg base "InvalidFoes" "index") (xi_InvalidFriends : ExcI P w K mg base "InvalidFriends" "index") (xi_InvalidLine : ExcI P w K mg base "InvalidLine" "given") (xi_InvalidLot : ExcI P w K mg base "InvalidLot" "given") (xi_InvalidNumber : ExcI P w K mg base "InvalidNumber" "given") (xi_InvalidOpen : ExcI P w K mg base "InvalidOpen" "index") (xi_InvalidPrices : ExcI P w K mg base "InvalidPrices" "index") (xi_InvalidRound : ExcI P w K mg base "InvalidRound" "given") (xi_InvalidText : ExcI P w K mg base "InvalidText" "index") (xi_InvalidWalk : ExcI P w K mg base "InvalidWalk" "index") (xi_NotAParty : ExcI P w K mg base "NotAParty" "given") (xi_NotAWeb : ExcI P w K mg base "NotAWeb" "given") : DefOk P w K mg base "_law_made" 3 F__law_made := by
  obtain ⟨f, fd, hm, Fd⟩ := Fd.ex
  exact ⟨⟨f, fd, ps__law_made, hm, Fd.kp, Fd.bindsN fun _ _ _ _ _ _ us hl => match us, hl with | [_], _ => rfl, fn__law_made Fd xi_Barred xi_InvalidDeed xi_InvalidFoes xi_InvalidFriends xi_InvalidLine xi_InvalidLot xi_InvalidNumber xi_InvalidOpen xi_InvalidPrices xi_InvalidRound xi_InvalidText xi_InvalidWalk xi_NotAParty xi_NotAWeb⟩⟩

abbrev s__law_right : Stmt := top 25
abbrev N__law_right : List Str := ["pool", "most", "thing", "some", "k", "e", "told", "bare", "j"]
abbrev ps__law_right : List Str := ["pool", "most"]
theorem sc__law_right : FnScope N__law_right ps__law_right (defScope s__law_right) := ⟨rfl, rfl, rfl, by decide +kernel, rfl, by decide +kernel, by decide +kernel⟩
def B__law_right : FS := (S.seq (S.for_ (I.seq (E.sl (E.callM F__law_things (A.cons (E.var 0) A.nil)) (P.at (E.var 1)) P.no)) (.nm 2) (S.seq (S.for_ (I.seq (E.call F__law_made (A.cons (E.var 2) A.nil))) (.nm 3) (S.seq (S.for_ (I.rng1 (A.cons (E.c1 lenD (E.var 3)) A.nil)) (.nm 4) (S.seq (S.set 5 (E.bin ixD (E.var 3) (E.var 4)))
  (S.seq (S.set 6 (E.ite (Tt.val (E.bin ltD (E.var 4) (E.cst (.int 6)))) (E.c1 (fldX errs "given") (E.var 5)) (E.ite (Tt.val (E.bin ltD (E.var 4) (E.cst (.int 13)))) (E.c1 (fldX errs "index") (E.var 5)) (E.c1 (fldX errs "reason") (E.var 5)))))
  (S.seq (S.ifs (Tt.or (Tt.val (E.bin neD (E.c1 rpD (E.var 6)) (E.c1 rpD (E.var 2)))) (Tt.or (Tt.not (Tt.val (E.c1 (isE errs "CampError") (E.var 5)))) (Tt.not (Tt.val (E.c1 (isV errs) (E.var 5)))))) (S.seq (S.ret (E.cst (.bl false)))
  S.nop) S.nop)
  (S.seq (S.ifs (Tt.val (E.bin neD (E.call F__law_flags (A.cons (E.var 5) A.nil)) (E.fz (E.lc (I.rng1 (A.cons (E.cst (.int 16)) A.nil)) (.nm 8) [8] Tt.yes (E.bin eqD (E.var 8) (E.var 4)))))) (S.seq (S.ret (E.cst (.bl false)))
  S.nop) S.nop)
  S.nop)))))
  S.nop))
  S.nop))
  (S.seq (S.set 7 (E.fz (E.lst (A.cons (E.x0 "NothingToUndo") (A.cons (E.x0 "NotInCamps") A.nil)))))
  (S.seq (S.for_ (I.rng1 (A.cons (E.cst (.int 2)) A.nil)) (.nm 4) (S.seq (S.ifs (Tt.or (Tt.val (E.bin neD (E.call F__law_flags (A.cons (E.bin ixD (E.var 7) (E.var 4)) A.nil)) (E.fz (E.lc (I.rng1 (A.cons (E.cst (.int 16)) A.nil)) (.nm 8) [8] Tt.yes (E.bin eqD (E.var 8) (E.bin addD (E.cst (.int 14)) (E.var 4))))))) (Tt.not (Tt.val (E.c1 (isE errs "CampError") (E.bin ixD (E.var 7) (E.var 4)))))) (S.seq (S.ret (E.cst (.bl false)))
  S.nop) S.nop)
  S.nop))
  (S.seq (S.ret (E.and (E.c1 (isV errs) (E.x0 "CampError")) (E.bin eqD (E.call F__law_flags (A.cons (E.x0 "CampError") A.nil)) (E.bin mulW (E.fz (E.lst (A.cons (E.cst (.bl false)) A.nil))) (E.cst (.int 16))))))
  S.nop))))
def F__law_right : FM := mkM 9 2 B__law_right
theorem fn__law_right {P : Program} {w : World} {K : PySem.W.Frag} {mg : Str → Option Value} {base : Heap} {f : Addr} {fd : FuncData} (Fd : FunD K "_law_right" "_law_right" (defArgs s__law_right) (defBody s__law_right) (defScope s__law_right) [] [] f fd) (D__law_things : DefOkM P w K mg base "_law_things" 2 F__law_things) (D__law_made : DefOk P w K mg base "_law_made" 3 F__law_made) (D__law_flags : DefOk P w K mg base "_law_flags" 1 F__law_flags) (fr_range : mg "range" = none) (fr_len : mg "len" = none) (fr_repr : mg "repr" = none) (fr_isinstance : mg "isinstance" = none) (fr_ValueError : mg "ValueError" = none) (xn_CampError : ExcN K mg "CampError") (xn_NotInCamps : ExcN K mg "NotInCamps") (xn_NothingToUndo : ExcN K mg "NothingToUndo") (ET : ErrAll errs flds K mg) : FnG P w K mg base (L2.CX P w) 4 f fd ps__law_right (spM ⟨K, mg⟩ F__law_right) := by
  refine def_fnMG (N := N__law_right) (body := B__law_right) Fd sc__law_right (by decide) fun cdv A outer s H E g0 hr => ?_
  have un := un_lt hr
  have un0 := un_lt0 hr
  exact (ds_cons (ds_for rfl (di_seq (de_sl (de_callM D__law_things (hr.mono (by decide)) (da_cons (de_var 0) da_nil)) (dp_at (de_var 1)) dp_no)) (dg_nm 2 sc__law_right.nd) (ds_cons (ds_for rfl (di_seq (de_call D__law_made (hr.mono (by decide)) (da_cons (de_var 2) da_nil))) (dg_nm 3 sc__law_right.nd) (ds_cons (ds_for rfl (di_rng1 fr_range (da_cons (de_b1 c_len fr_len (by decide +kernel) (de_var 3)) da_nil)) (dg_nm 4 sc__law_right.nd) (ds_cons (ds_set 5 sc__law_right.nd (de_ix (un 1 (by decide)) (de_var 3) (de_var 4)))
  (ds_cons (ds_set 6 sc__law_right.nd (de_ite (dt_cmp (op_ltD un0) (de_var 4) de_int) (de_fldX ET.t (ET.no "given" (by decide)) (de_var 5)) (de_ite (dt_cmp (op_ltD un0) (de_var 4) de_int) (de_fldX ET.t (ET.no "index" (by decide)) (de_var 5)) (de_fldX ET.t (ET.no "reason" (by decide)) (de_var 5)))))
  (ds_cons (ds_if (dw_or (dt_cmp (op_neDD (un 64 (by decide))) (de_b1 (c_repr g0 (un 100 (by decide))) fr_repr (by decide +kernel) (de_var 6)) (de_b1 (c_repr g0 (un 100 (by decide))) fr_repr (by decide +kernel) (de_var 2))) (dw_or (dt_not (dt_val (de_isE ET.t (by decide) (ET.m "CampError" (by decide)) fr_isinstance (de_var 5)))) (dw_or1 (dt_not (dt_val (de_isV ET.t fr_ValueError fr_isinstance (de_var 5))))))).dt (ds_cons (ds_ret de_bl)
  ds_nil) ds_nil)
  (ds_cons (ds_if (dt_cmp (op_neDD (un 64 (by decide))) (de_call D__law_flags (hr.mono (by decide)) (da_cons (de_var 5) da_nil)) (df_lc (own := [("j", 8)]) rfl sc__law_right.nd (di_rng1 fr_range (da_cons de_int da_nil)) (show BlkOk N__law_right (defScope s__law_right) _ _ from blkOk_by (by decide +kernel)) (by decide) (fun s H C cl fp => (dg_nm 8 sc__law_right.nd)) (fun s H C cl fp => dts_nil) (fun s H C cl fp => (de_cmp (op_eqDD (un 64 (by decide))) (de_var 8) (de_var 4)))).de) (ds_cons (ds_ret de_bl)
  ds_nil) ds_nil)
  ds_nil)))))
  ds_nil))
  ds_nil))
  (ds_cons (ds_set 7 sc__law_right.nd (df_lst (da_cons (de_x0 xn_NothingToUndo) (da_cons (de_x0 xn_NotInCamps) da_nil))).de)
  (ds_cons (ds_for rfl (di_rng1 fr_range (da_cons de_int da_nil)) (dg_nm 4 sc__law_right.nd) (ds_cons (ds_if (dw_or (dt_cmp (op_neDD (un 64 (by decide))) (de_call D__law_flags (hr.mono (by decide)) (da_cons (de_ix (un 1 (by decide)) (de_var 7) (de_var 4)) da_nil)) (df_lc (own := [("j", 8)]) rfl sc__law_right.nd (di_rng1 fr_range (da_cons de_int da_nil)) (show BlkOk N__law_right (defScope s__law_right) _ _ from blkOk_by (by decide +kernel)) (by decide) (fun s H C cl fp => (dg_nm 8 sc__law_right.nd)) (fun s H C cl fp => dts_nil) (fun s H C cl fp => (de_cmp (op_eqDD (un 64 (by decide))) (de_var 8) (de_bin op_addD de_int (de_var 4))))).de) (dw_or1 (dt_not (dt_val (de_isE ET.t (by decide) (ET.m "CampError" (by decide)) fr_isinstance (de_ix (un 1 (by decide)) (de_var 7) (de_var 4))))))).dt (ds_cons (ds_ret de_bl)
  ds_nil) ds_nil)
  ds_nil))
  (ds_cons (ds_ret (de_and (de_isV ET.t fr_ValueError fr_isinstance (de_x0 xn_CampError)) (de_one (de_cmp (op_eqDD (un 64 (by decide))) (de_call D__law_flags (hr.mono (by decide)) (da_cons (de_x0 xn_CampError) da_nil)) (de_bin op_mulWD (df_lst (da_cons de_bl da_nil)).de de_int)))))
  ds_nil))))
theorem ok__law_right {P : Program} {w : World} {K : PySem.W.Frag} {mg : Str → Option Value} {base : Heap} (Fd : FunAt K mg "_law_right" s__law_right) (D__law_things : DefOkM P w K mg base "_law_things" 2 F__law_things) (D__law_made : DefOk P w K mg base "_law_made" 3 F__law_made) (D__law_flags : DefOk P w K mg base "_law_flags" 1 F__law_flags) (fr_range : mg "range" = none) (fr_len : mg "len" = none) (fr_repr : mg "repr" = none) (fr_isinstance : mg "isinstance" = none) (fr_ValueError : mg "ValueError" = none) (xn_CampError : ExcN K mg "CampError") (xn_NotInCamps : ExcN K mg "NotInCamps") (xn_NothingToUndo : ExcN K mg "NothingToUndo") (ET : ErrAll errs flds K mg) : DefOkMG P w K mg base "_law_right" 4 F__law_right := by
  obtain ⟨f, fd, hm, Fd⟩ := Fd.ex
  exact ⟨⟨f, fd, ps__law_right, hm, Fd.kp, Fd.bindsN fun _ _ _ _ _ _ us hl => match us, hl with | [_, _], _ => rfl, fn__law_right Fd D__law_things D__law_made D__law_flags fr_range fr_len fr_repr fr_isinstance fr_ValueError xn_CampError xn_NotInCamps xn_NothingToUndo ET⟩⟩

abbrev s_law : Stmt := top 26
abbrev N_law : List Str := ["script", "k", "pool", "most"]
abbrev ps_law : List Str := ["script"]
theorem sc_law : FnScope N_law ps_law (defScope s_law) := ⟨rfl, rfl, rfl, by decide +kernel, rfl, by decide +kernel, by decide +kernel⟩
def B_law : FS := (S.seq (S.for_ (I.rng1 (A.cons (E.cb max2D (A.cons (E.cst (.int 2)) (A.cons (E.cb min2D (A.cons (E.c1 lenD (E.var 0)) (A.cons (E.cst (.int 3)) A.nil))) A.nil))) A.nil)) (.nm 1) (S.seq (S.set 2 (E.callM F__law_pool (A.cons (E.var 0) (A.cons (E.var 1) A.nil))))
  (S.seq (S.for_ (I.seq (E.fz (E.lst (A.cons (E.cst (.int 0)) (A.cons (E.cst (.int 1)) A.nil))))) (.nm 3) (S.seq (S.ifs (Tt.not (Tt.val (E.callM F__law_right (A.cons (E.var 2) (A.cons (E.var 3) A.nil))))) (S.seq (S.ret (E.cst (.bl false)))
  S.nop) S.nop)
  S.nop))
  S.nop)))
  (S.seq (S.ret (E.cst (.bl true)))
  S.nop))
def F_law : FM := mkM 4 1 B_law
theorem fn_law {P : Program} {w : World} {K : PySem.W.Frag} {mg : Str → Option Value} {base : Heap} {f : Addr} {fd : FuncData} (Fd : FunD K "law" "law" (defArgs s_law) (defBody s_law) (defScope s_law) [] [] f fd) (D__law_pool : DefOkM P w K mg base "_law_pool" 1 F__law_pool) (D__law_right : DefOkMG P w K mg base "_law_right" 4 F__law_right) (fr_range : mg "range" = none) (fr_max : mg "max" = none) (fr_min : mg "min" = none) (fr_len : mg "len" = none) : FnG P w K mg base (L2.CX P w) 5 f fd ps_law (spM ⟨K, mg⟩ F_law) := by
  refine def_fnMG (N := N_law) (body := B_law) Fd sc_law (by decide) fun cdv A outer s H E g0 hr => ?_
  have un := un_lt hr
  have un0 := un_lt0 hr
  exact (ds_cons (ds_for rfl (di_rng1 fr_range (da_cons (de_cb (c_max2 rfl) fr_max (by decide +kernel) (da_cons de_int (da_cons (de_cb (c_min2 rfl) fr_min (by decide +kernel) (da_cons (de_b1 c_len fr_len (by decide +kernel) (de_var 0)) (da_cons de_int da_nil))) da_nil))) da_nil)) (dg_nm 1 sc_law.nd) (ds_cons (ds_set 2 sc_law.nd (de_callM D__law_pool (hr.mono (by decide)) (da_cons (de_var 0) (da_cons (de_var 1) da_nil))))
  (ds_cons (ds_for rfl (di_seq (df_lst (da_cons de_int (da_cons de_int da_nil))).de) (dg_nm 3 sc_law.nd) (ds_cons (ds_if (dt_not (dt_val (de_callMG D__law_right g0 (hr.mono (by decide)) (da_cons (de_var 2) (da_cons (de_var 3) da_nil))))) (ds_cons (ds_ret de_bl)
  ds_nil) ds_nil)
  ds_nil))
  ds_nil)))
  (ds_cons (ds_ret de_bl)
  ds_nil))
theorem ok_law {P : Program} {w : World} {K : PySem.W.Frag} {mg : Str → Option Value} {base : Heap} (Fd : FunAt K mg "law" s_law) (D__law_pool : DefOkM P w K mg base "_law_pool" 1 F__law_pool) (D__law_right : DefOkMG P w K mg base "_law_right" 4 F__law_right) (fr_range : mg "range" = none) (fr_max : mg "max" = none) (fr_min : mg "min" = none) (fr_len : mg "len" = none) : DefOkMG P w K mg base "law" 5 F_law := by
  obtain ⟨f, fd, hm, Fd⟩ := Fd.ex
  exact ⟨⟨f, fd, ps_law, hm, Fd.kp, Fd.bindsN fun _ _ _ _ _ _ us hl => match us, hl with | [_], _ => rfl, fn_law Fd D__law_pool D__law_right fr_range fr_max fr_min fr_len⟩⟩

end K99
-- K99b
set_option maxRecDepth 100000
set_option maxHeartbeats 0
/-! K99: the head. -/
namespace K99
open PySem PySem.Spec PyProof.Rows L2 DL He
def meth (i j : Nat) : Stmt := match top i with
  | .ClassDef _ _ _ body _ _ _ _ _ _ _ => body.getD j (.Pass ⟨0, 0, 0, 0⟩)
  | s => s
abbrev m_InvalidNumber : Stmt := meth 2 0
abbrev m_InvalidLot : Stmt := meth 3 0
abbrev m_InvalidRound : Stmt := meth 4 0
abbrev m_InvalidLine : Stmt := meth 5 0
abbrev m_NotAWeb : Stmt := meth 6 0
abbrev m_NotAParty : Stmt := meth 7 0
abbrev m_InvalidFriends : Stmt := meth 8 0
abbrev m_InvalidFoes : Stmt := meth 9 0
abbrev m_InvalidPrices : Stmt := meth 10 0
abbrev m_InvalidOpen : Stmt := meth 11 0
abbrev m_InvalidWalk : Stmt := meth 12 0
abbrev m_InvalidDeed : Stmt := meth 13 0
abbrev m_InvalidText : Stmt := meth 14 0
abbrev m_Barred : Stmt := meth 15 0
def fn : List DefD := [defT "_law_pool" s__law_pool, defT "_law_take" s__law_take, defT "_law_things" s__law_things, defT "_law_flags" s__law_flags, defT "_law_made" s__law_made, defT "_law_right" s__law_right, defT "law" s_law, defM "InvalidNumber" "__init__" "InvalidNumber.__init__" m_InvalidNumber, defM "InvalidLot" "__init__" "InvalidLot.__init__" m_InvalidLot, defM "InvalidRound" "__init__" "InvalidRound.__init__" m_InvalidRound, defM "InvalidLine" "__init__" "InvalidLine.__init__" m_InvalidLine, defM "NotAWeb" "__init__" "NotAWeb.__init__" m_NotAWeb, defM "NotAParty" "__init__" "NotAParty.__init__" m_NotAParty, defM "InvalidFriends" "__init__" "InvalidFriends.__init__" m_InvalidFriends, defM "InvalidFoes" "__init__" "InvalidFoes.__init__" m_InvalidFoes, defM "InvalidPrices" "__init__" "InvalidPrices.__init__" m_InvalidPrices, defM "InvalidOpen" "__init__" "InvalidOpen.__init__" m_InvalidOpen, defM "InvalidWalk" "__init__" "InvalidWalk.__init__" m_InvalidWalk, defM "InvalidDeed" "__init__" "InvalidDeed.__init__" m_InvalidDeed, defM "InvalidText" "__init__" "InvalidText.__init__" m_InvalidText, defM "Barred" "__init__" "Barred.__init__" m_Barred]
def fa : List Fa := [.glo "_law_pool", .glo "_law_take", .glo "_law_things", .glo "_law_flags", .glo "_law_made", .glo "_law_right", .glo "law", .glo "CampError", .glo "InvalidNumber", .glo "InvalidLot", .glo "InvalidRound", .glo "InvalidLine", .glo "NotAWeb", .glo "NotAParty", .glo "InvalidFriends", .glo "InvalidFoes", .glo "InvalidPrices", .glo "InvalidOpen", .glo "InvalidWalk", .glo "InvalidDeed", .glo "InvalidText", .glo "Barred", .glo "NothingToUndo", .glo "NotInCamps", .exc "CampError", .exc "NothingToUndo", .exc "NotInCamps", .free "sum", .free "abs", .free "divmod", .free "str", .free "isinstance", .free "range", .free "len", .free "repr", .free "ValueError", .free "max", .free "min"]
def inis : List (Str × Str) := [("InvalidNumber", "given"), ("InvalidLot", "given"), ("InvalidRound", "given"), ("InvalidLine", "given"), ("NotAWeb", "given"), ("NotAParty", "given"), ("InvalidFriends", "index"), ("InvalidFoes", "index"), ("InvalidPrices", "index"), ("InvalidOpen", "index"), ("InvalidWalk", "index"), ("InvalidDeed", "index"), ("InvalidText", "index"), ("Barred", "reason")]
def ex (K : PySem.W.Frag) : Bool := errB K errs flds && inis.all fun p => initB K p.1 p.2
section
variable {K : PySem.W.Frag} {h : Heap} {mg : Str → Option Value} {base : Heap} {P : Program} {w : World}
theorem sc_InvalidNumber : FnScope ["self", "given"] ["self", "given"] (defScope m_InvalidNumber) := ⟨rfl, rfl, rfl, by decide +kernel, rfl, by decide +kernel, by decide +kernel⟩
theorem xi_InvalidNumber (X : K.In h) (G : h.Ns mainGlobals mg) (c : SaysD fa fn K) (e : ex K = true) : ExcI P w K mg base "InvalidNumber" "given" := by
  obtain ⟨fd, F⟩ := c.def_ 7 (d := defM "InvalidNumber" "__init__" "InvalidNumber.__init__" m_InvalidNumber) rfl
  exact excI_of (st := m_InvalidNumber) (q := "InvalidNumber.__init__") X G (c.fact 8 (f := .glo "InvalidNumber") rfl) (List.all_eq_true.mp (ba e).2 ("InvalidNumber", "given") (by decide)) F sc_InvalidNumber (fun cdv A outer s H E => pss_one (ps_ost (pv 0) (pv 1))) (fun _ _ _ _ _ _ us hl => match us, hl with | [_, _], _ => rfl) (fun _ _ _ _ _ _ _ _ => rfl)
theorem sc_InvalidLot : FnScope ["self", "given"] ["self", "given"] (defScope m_InvalidLot) := ⟨rfl, rfl, rfl, by decide +kernel, rfl, by decide +kernel, by decide +kernel⟩
theorem xi_InvalidLot (X : K.In h) (G : h.Ns mainGlobals mg) (c : SaysD fa fn K) (e : ex K = true) : ExcI P w K mg base "InvalidLot" "given" := by
  obtain ⟨fd, F⟩ := c.def_ 8 (d := defM "InvalidLot" "__init__" "InvalidLot.__init__" m_InvalidLot) rfl
  exact excI_of (st := m_InvalidLot) (q := "InvalidLot.__init__") X G (c.fact 9 (f := .glo "InvalidLot") rfl) (List.all_eq_true.mp (ba e).2 ("InvalidLot", "given") (by decide)) F sc_InvalidLot (fun cdv A outer s H E => pss_one (ps_ost (pv 0) (pv 1))) (fun _ _ _ _ _ _ us hl => match us, hl with | [_, _], _ => rfl) (fun _ _ _ _ _ _ _ _ => rfl)
theorem sc_InvalidRound : FnScope ["self", "given"] ["self", "given"] (defScope m_InvalidRound) := ⟨rfl, rfl, rfl, by decide +kernel, rfl, by decide +kernel, by decide +kernel⟩
theorem xi_InvalidRound (X : K.In h) (G : h.Ns mainGlobals mg) (c : SaysD fa fn K) (e : ex K = true) : ExcI P w K mg base "InvalidRound" "given" := by
  obtain ⟨fd, F⟩ := c.def_ 9 (d := defM "InvalidRound" "__init__" "InvalidRound.__init__" m_InvalidRound) rfl
  exact excI_of (st := m_InvalidRound) (q := "InvalidRound.__init__") X G (c.fact 10 (f := .glo "InvalidRound") rfl) (List.all_eq_true.mp (ba e).2 ("InvalidRound", "given") (by decide)) F sc_InvalidRound (fun cdv A outer s H E => pss_one (ps_ost (pv 0) (pv 1))) (fun _ _ _ _ _ _ us hl => match us, hl with | [_, _], _ => rfl) (fun _ _ _ _ _ _ _ _ => rfl)
theorem sc_InvalidLine : FnScope ["self", "given"] ["self", "given"] (defScope m_InvalidLine) := ⟨rfl, rfl, rfl, by decide +kernel, rfl, by decide +kernel, by decide +kernel⟩
theorem xi_InvalidLine (X : K.In h) (G : h.Ns mainGlobals mg) (c : SaysD fa fn K) (e : ex K = true) : ExcI P w K mg base "InvalidLine" "given" := by
  obtain ⟨fd, F⟩ := c.def_ 10 (d := defM "InvalidLine" "__init__" "InvalidLine.__init__" m_InvalidLine) rfl
  exact excI_of (st := m_InvalidLine) (q := "InvalidLine.__init__") X G (c.fact 11 (f := .glo "InvalidLine") rfl) (List.all_eq_true.mp (ba e).2 ("InvalidLine", "given") (by decide)) F sc_InvalidLine (fun cdv A outer s H E => pss_one (ps_ost (pv 0) (pv 1))) (fun _ _ _ _ _ _ us hl => match us, hl with | [_, _], _ => rfl) (fun _ _ _ _ _ _ _ _ => rfl)
theorem sc_NotAWeb : FnScope ["self", "given"] ["self", "given"] (defScope m_NotAWeb) := ⟨rfl, rfl, rfl, by decide +kernel, rfl, by decide +kernel, by decide +kernel⟩
theorem xi_NotAWeb (X : K.In h) (G : h.Ns mainGlobals mg) (c : SaysD fa fn K) (e : ex K = true) : ExcI P w K mg base "NotAWeb" "given" := by
  obtain ⟨fd, F⟩ := c.def_ 11 (d := defM "NotAWeb" "__init__" "NotAWeb.__init__" m_NotAWeb) rfl
  exact excI_of (st := m_NotAWeb) (q := "NotAWeb.__init__") X G (c.fact 12 (f := .glo "NotAWeb") rfl) (List.all_eq_true.mp (ba e).2 ("NotAWeb", "given") (by decide)) F sc_NotAWeb (fun cdv A outer s H E => pss_one (ps_ost (pv 0) (pv 1))) (fun _ _ _ _ _ _ us hl => match us, hl with | [_, _], _ => rfl) (fun _ _ _ _ _ _ _ _ => rfl)
theorem sc_NotAParty : FnScope ["self", "given"] ["self", "given"] (defScope m_NotAParty) := ⟨rfl, rfl, rfl, by decide +kernel, rfl, by decide +kernel, by decide +kernel⟩
theorem xi_NotAParty (X : K.In h) (G : h.Ns mainGlobals mg) (c : SaysD fa fn K) (e : ex K = true) : ExcI P w K mg base "NotAParty" "given" := by
  obtain ⟨fd, F⟩ := c.def_ 12 (d := defM "NotAParty" "__init__" "NotAParty.__init__" m_NotAParty) rfl
  exact excI_of (st := m_NotAParty) (q := "NotAParty.__init__") X G (c.fact 13 (f := .glo "NotAParty") rfl) (List.all_eq_true.mp (ba e).2 ("NotAParty", "given") (by decide)) F sc_NotAParty (fun cdv A outer s H E => pss_one (ps_ost (pv 0) (pv 1))) (fun _ _ _ _ _ _ us hl => match us, hl with | [_, _], _ => rfl) (fun _ _ _ _ _ _ _ _ => rfl)
theorem sc_InvalidFriends : FnScope ["self", "index"] ["self", "index"] (defScope m_InvalidFriends) := ⟨rfl, rfl, rfl, by decide +kernel, rfl, by decide +kernel, by decide +kernel⟩
theorem xi_InvalidFriends (X : K.In h) (G : h.Ns mainGlobals mg) (c : SaysD fa fn K) (e : ex K = true) : ExcI P w K mg base "InvalidFriends" "index" := by
  obtain ⟨fd, F⟩ := c.def_ 13 (d := defM "InvalidFriends" "__init__" "InvalidFriends.__init__" m_InvalidFriends) rfl
  exact excI_of (st := m_InvalidFriends) (q := "InvalidFriends.__init__") X G (c.fact 14 (f := .glo "InvalidFriends") rfl) (List.all_eq_true.mp (ba e).2 ("InvalidFriends", "index") (by decide)) F sc_InvalidFriends (fun cdv A outer s H E => pss_one (ps_ost (pv 0) (pv 1))) (fun _ _ _ _ _ _ us hl => match us, hl with | [_, _], _ => rfl) (fun _ _ _ _ _ _ _ _ => rfl)
theorem sc_InvalidFoes : FnScope ["self", "index"] ["self", "index"] (defScope m_InvalidFoes) := ⟨rfl, rfl, rfl, by decide +kernel, rfl, by decide +kernel, by decide +kernel⟩
theorem xi_InvalidFoes (X : K.In h) (G : h.Ns mainGlobals mg) (c : SaysD fa fn K) (e : ex K = true) : ExcI P w K mg base "InvalidFoes" "index" := by
  obtain ⟨fd, F⟩ := c.def_ 14 (d := defM "InvalidFoes" "__init__" "InvalidFoes.__init__" m_InvalidFoes) rfl
  exact excI_of (st := m_InvalidFoes) (q := "InvalidFoes.__init__") X G (c.fact 15 (f := .glo "InvalidFoes") rfl) (List.all_eq_true.mp (ba e).2 ("InvalidFoes", "index") (by decide)) F sc_InvalidFoes (fun cdv A outer s H E => pss_one (ps_ost (pv 0) (pv 1))) (fun _ _ _ _ _ _ us hl => match us, hl with | [_, _], _ => rfl) (fun _ _ _ _ _ _ _ _ => rfl)
theorem sc_InvalidPrices : FnScope ["self", "index"] ["self", "index"] (defScope m_InvalidPrices) := ⟨rfl, rfl, rfl, by decide +kernel, rfl, by decide +kernel, by decide +kernel⟩
theorem xi_InvalidPrices (X : K.In h) (G : h.Ns mainGlobals mg) (c : SaysD fa fn K) (e : ex K = true) : ExcI P w K mg base "InvalidPrices" "index" := by
  obtain ⟨fd, F⟩ := c.def_ 15 (d := defM "InvalidPrices" "__init__" "InvalidPrices.__init__" m_InvalidPrices) rfl
  exact excI_of (st := m_InvalidPrices) (q := "InvalidPrices.__init__") X G (c.fact 16 (f := .glo "InvalidPrices") rfl) (List.all_eq_true.mp (ba e).2 ("InvalidPrices", "index") (by decide)) F sc_InvalidPrices (fun cdv A outer s H E => pss_one (ps_ost (pv 0) (pv 1))) (fun _ _ _ _ _ _ us hl => match us, hl with | [_, _], _ => rfl) (fun _ _ _ _ _ _ _ _ => rfl)
theorem sc_InvalidOpen : FnScope ["self", "index"] ["self", "index"] (defScope m_InvalidOpen) := ⟨rfl, rfl, rfl, by decide +kernel, rfl, by decide +kernel, by decide +kernel⟩
theorem xi_InvalidOpen (X : K.In h) (G : h.Ns mainGlobals mg) (c : SaysD fa fn K) (e : ex K = true) : ExcI P w K mg base "InvalidOpen" "index" := by
  obtain ⟨fd, F⟩ := c.def_ 16 (d := defM "InvalidOpen" "__init__" "InvalidOpen.__init__" m_InvalidOpen) rfl
  exact excI_of (st := m_InvalidOpen) (q := "InvalidOpen.__init__") X G (c.fact 17 (f := .glo "InvalidOpen") rfl) (List.all_eq_true.mp (ba e).2 ("InvalidOpen", "index") (by decide)) F sc_InvalidOpen (fun cdv A outer s H E => pss_one (ps_ost (pv 0) (pv 1))) (fun _ _ _ _ _ _ us hl => match us, hl with | [_, _], _ => rfl) (fun _ _ _ _ _ _ _ _ => rfl)
theorem sc_InvalidWalk : FnScope ["self", "index"] ["self", "index"] (defScope m_InvalidWalk) := ⟨rfl, rfl, rfl, by decide +kernel, rfl, by decide +kernel, by decide +kernel⟩
theorem xi_InvalidWalk (X : K.In h) (G : h.Ns mainGlobals mg) (c : SaysD fa fn K) (e : ex K = true) : ExcI P w K mg base "InvalidWalk" "index" := by
  obtain ⟨fd, F⟩ := c.def_ 17 (d := defM "InvalidWalk" "__init__" "InvalidWalk.__init__" m_InvalidWalk) rfl
  exact excI_of (st := m_InvalidWalk) (q := "InvalidWalk.__init__") X G (c.fact 18 (f := .glo "InvalidWalk") rfl) (List.all_eq_true.mp (ba e).2 ("InvalidWalk", "index") (by decide)) F sc_InvalidWalk (fun cdv A outer s H E => pss_one (ps_ost (pv 0) (pv 1))) (fun _ _ _ _ _ _ us hl => match us, hl with | [_, _], _ => rfl) (fun _ _ _ _ _ _ _ _ => rfl)
theorem sc_InvalidDeed : FnScope ["self", "index"] ["self", "index"] (defScope m_InvalidDeed) := ⟨rfl, rfl, rfl, by decide +kernel, rfl, by decide +kernel, by decide +kernel⟩
theorem xi_InvalidDeed (X : K.In h) (G : h.Ns mainGlobals mg) (c : SaysD fa fn K) (e : ex K = true) : ExcI P w K mg base "InvalidDeed" "index" := by
  obtain ⟨fd, F⟩ := c.def_ 18 (d := defM "InvalidDeed" "__init__" "InvalidDeed.__init__" m_InvalidDeed) rfl
  exact excI_of (st := m_InvalidDeed) (q := "InvalidDeed.__init__") X G (c.fact 19 (f := .glo "InvalidDeed") rfl) (List.all_eq_true.mp (ba e).2 ("InvalidDeed", "index") (by decide)) F sc_InvalidDeed (fun cdv A outer s H E => pss_one (ps_ost (pv 0) (pv 1))) (fun _ _ _ _ _ _ us hl => match us, hl with | [_, _], _ => rfl) (fun _ _ _ _ _ _ _ _ => rfl)
theorem sc_InvalidText : FnScope ["self", "index"] ["self", "index"] (defScope m_InvalidText) := ⟨rfl, rfl, rfl, by decide +kernel, rfl, by decide +kernel, by decide +kernel⟩
theorem xi_InvalidText (X : K.In h) (G : h.Ns mainGlobals mg) (c : SaysD fa fn K) (e : ex K = true) : ExcI P w K mg base "InvalidText" "index" := by
  obtain ⟨fd, F⟩ := c.def_ 19 (d := defM "InvalidText" "__init__" "InvalidText.__init__" m_InvalidText) rfl
  exact excI_of (st := m_InvalidText) (q := "InvalidText.__init__") X G (c.fact 20 (f := .glo "InvalidText") rfl) (List.all_eq_true.mp (ba e).2 ("InvalidText", "index") (by decide)) F sc_InvalidText (fun cdv A outer s H E => pss_one (ps_ost (pv 0) (pv 1))) (fun _ _ _ _ _ _ us hl => match us, hl with | [_, _], _ => rfl) (fun _ _ _ _ _ _ _ _ => rfl)
theorem sc_Barred : FnScope ["self", "reason"] ["self", "reason"] (defScope m_Barred) := ⟨rfl, rfl, rfl, by decide +kernel, rfl, by decide +kernel, by decide +kernel⟩
theorem xi_Barred (X : K.In h) (G : h.Ns mainGlobals mg) (c : SaysD fa fn K) (e : ex K = true) : ExcI P w K mg base "Barred" "reason" := by
  obtain ⟨fd, F⟩ := c.def_ 20 (d := defM "Barred" "__init__" "Barred.__init__" m_Barred) rfl
  exact excI_of (st := m_Barred) (q := "Barred.__init__") X G (c.fact 21 (f := .glo "Barred") rfl) (List.all_eq_true.mp (ba e).2 ("Barred", "reason") (by decide)) F sc_Barred (fun cdv A outer s H E => pss_one (ps_ost (pv 0) (pv 1))) (fun _ _ _ _ _ _ us hl => match us, hl with | [_, _], _ => rfl) (fun _ _ _ _ _ _ _ _ => rfl)
theorem law_ok (X : K.In h) (G : h.Ns mainGlobals mg) (c : SaysD fa fn K) (e : ex K = true) : ∃ fd, (∀ (s : Shared) (v : Value), BindsTo s fd ⟨[v], []⟩ [("script", v)]) ∧ ∀ base : Heap, FnG P w K mg base (L2.CX P w) 5 (ga K "law") fd ["script"] (spM ⟨K, mg⟩ F_law) := by
  obtain ⟨fd, F⟩ := c.def_ 6 (d := defT "law" s_law) rfl
  refine ⟨fd, fun s v => FunD.bindsA (ps := ["script"]) F (fun _ _ _ _ _ _ us hl => match us, hl with | [_], _ => rfl) s [v] rfl, fun base => ?_⟩
  have Fd__law_pool : FunAt K mg "_law_pool" s__law_pool := funAt_of X G c "_law_pool" s__law_pool 0 0 rfl rfl
  have Fd__law_take : FunAt K mg "_law_take" s__law_take := funAt_of X G c "_law_take" s__law_take 1 1 rfl rfl
  have Fd__law_things : FunAt K mg "_law_things" s__law_things := funAt_of X G c "_law_things" s__law_things 2 2 rfl rfl
  have Fd__law_flags : FunAt K mg "_law_flags" s__law_flags := funAt_of X G c "_law_flags" s__law_flags 3 3 rfl rfl
  have Fd__law_made : FunAt K mg "_law_made" s__law_made := funAt_of X G c "_law_made" s__law_made 4 4 rfl rfl
  have Fd__law_right : FunAt K mg "_law_right" s__law_right := funAt_of X G c "_law_right" s__law_right 5 5 rfl rfl
  have fr_sum : mg "sum" = none := free_ok X G (c.fact 27 (f := .free "sum") rfl)
  have fr_abs : mg "abs" = none := free_ok X G (c.fact 28 (f := .free "abs") rfl)
  have fr_divmod : mg "divmod" = none := free_ok X G (c.fact 29 (f := .free "divmod") rfl)
  have fr_str : mg "str" = none := free_ok X G (c.fact 30 (f := .free "str") rfl)
  have fr_isinstance : mg "isinstance" = none := free_ok X G (c.fact 31 (f := .free "isinstance") rfl)
  have fr_range : mg "range" = none := free_ok X G (c.fact 32 (f := .free "range") rfl)
  have fr_len : mg "len" = none := free_ok X G (c.fact 33 (f := .free "len") rfl)
  have fr_repr : mg "repr" = none := free_ok X G (c.fact 34 (f := .free "repr") rfl)
  have fr_ValueError : mg "ValueError" = none := free_ok X G (c.fact 35 (f := .free "ValueError") rfl)
  have fr_max : mg "max" = none := free_ok X G (c.fact 36 (f := .free "max") rfl)
  have fr_min : mg "min" = none := free_ok X G (c.fact 37 (f := .free "min") rfl)
  have ET : ErrAll errs flds K mg := errAll_of X G (ba e).1
  have xi_InvalidNumber : ExcI P w K mg base "InvalidNumber" "given" := xi_InvalidNumber X G c e
  have xi_InvalidLot : ExcI P w K mg base "InvalidLot" "given" := xi_InvalidLot X G c e
  have xi_InvalidRound : ExcI P w K mg base "InvalidRound" "given" := xi_InvalidRound X G c e
  have xi_InvalidLine : ExcI P w K mg base "InvalidLine" "given" := xi_InvalidLine X G c e
  have xi_NotAWeb : ExcI P w K mg base "NotAWeb" "given" := xi_NotAWeb X G c e
  have xi_NotAParty : ExcI P w K mg base "NotAParty" "given" := xi_NotAParty X G c e
  have xi_InvalidFriends : ExcI P w K mg base "InvalidFriends" "index" := xi_InvalidFriends X G c e
  have xi_InvalidFoes : ExcI P w K mg base "InvalidFoes" "index" := xi_InvalidFoes X G c e
  have xi_InvalidPrices : ExcI P w K mg base "InvalidPrices" "index" := xi_InvalidPrices X G c e
  have xi_InvalidOpen : ExcI P w K mg base "InvalidOpen" "index" := xi_InvalidOpen X G c e
  have xi_InvalidWalk : ExcI P w K mg base "InvalidWalk" "index" := xi_InvalidWalk X G c e
  have xi_InvalidDeed : ExcI P w K mg base "InvalidDeed" "index" := xi_InvalidDeed X G c e
  have xi_InvalidText : ExcI P w K mg base "InvalidText" "index" := xi_InvalidText X G c e
  have xi_Barred : ExcI P w K mg base "Barred" "reason" := xi_Barred X G c e
  have xn_CampError : ExcN K mg "CampError" := excN_of X G (c.fact 7 (f := .glo "CampError") rfl) (c.fact 24 (f := .exc "CampError") rfl)
  have xn_NothingToUndo : ExcN K mg "NothingToUndo" := excN_of X G (c.fact 22 (f := .glo "NothingToUndo") rfl) (c.fact 25 (f := .exc "NothingToUndo") rfl)
  have xn_NotInCamps : ExcN K mg "NotInCamps" := excN_of X G (c.fact 23 (f := .glo "NotInCamps") rfl) (c.fact 26 (f := .exc "NotInCamps") rfl)
  have D__law_pool := ok__law_pool (P := P) (w := w) (base := base) Fd__law_pool fr_sum fr_abs
  have D__law_take := ok__law_take (P := P) (w := w) (base := base) Fd__law_take fr_divmod
  have D__law_things := ok__law_things (P := P) (w := w) (base := base) Fd__law_things D__law_take fr_str
  have D__law_flags := ok__law_flags (P := P) (w := w) (base := base) Fd__law_flags fr_isinstance ET
  have D__law_made := ok__law_made (P := P) (w := w) (base := base) Fd__law_made xi_Barred xi_InvalidDeed xi_InvalidFoes xi_InvalidFriends xi_InvalidLine xi_InvalidLot xi_InvalidNumber xi_InvalidOpen xi_InvalidPrices xi_InvalidRound xi_InvalidText xi_InvalidWalk xi_NotAParty xi_NotAWeb
  have D__law_right := ok__law_right (P := P) (w := w) (base := base) Fd__law_right D__law_things D__law_made D__law_flags fr_range fr_len fr_repr fr_isinstance fr_ValueError xn_CampError xn_NotInCamps xn_NothingToUndo ET
  exact fn_law F D__law_pool D__law_right fr_range fr_max fr_min fr_len
end
end K99
-- K99c
set_option maxRecDepth 100000
set_option maxHeartbeats 0
namespace K99
open PySem PySem.Spec PyProof.Rows L2 DL He
abbrev R : PySem.W.OpenRow := PySem.W.OpenLaw.row PySem.Challenge.rw_campwebs_k99_errors_whole
abbrev hk : PySem.W.Hook := hookQ 4 fa fn ex
def ob (s : PySem.W.SharedT) : AlD × Bool := obQ 4 fa fn ex (HandSHeadRun.getT s)
theorem ob_eq (s : PySem.W.SharedT) : ob s = hk.obs s.abs := obQ_eq (HandSHeadRun.getT_eq s)
def loose : List Str := ["CampError", "InvalidNumber", "InvalidLot", "InvalidRound", "InvalidLine", "NotAWeb", "NotAParty", "InvalidFriends", "InvalidFoes", "InvalidPrices", "InvalidOpen", "InvalidWalk", "InvalidDeed", "InvalidText", "Barred", "NothingToUndo", "NotInCamps", "_law_pool", "_law_take", "_law_of", "_law_things", "_law_flags", "_law_made", "_law_right"]
theorem run (w : World) : HandSHeadRun.RunEq R (PySem.W.view R.prog [26]) hk ob 15000 loose w := by
  intro os
  kernel_rfl
end K99
-- K99p
set_option maxRecDepth 100000
set_option maxHeartbeats 8000000
/-! K99: the plain law. -/
namespace K99
open PySem PySem.Spec PyProof.Rows L2 DL
/-! ### slots -/
def nst (s : Slot) : Prop := ∀ M, s ≠ .sto M
theorem put1_zero {s x : Slot} {e : Ev} (h : nst s) : put1 (s :: e) 0 x = x :: e := by
  unfold put1
  cases s with
  | sto M => exact (h M rfl).elim
  | _ => rfl
theorem put1_succ {s x : Slot} {e : Ev} {i : Nat} : put1 (s :: e) (i + 1) x = s :: put1 e i x := by
  unfold put1
  rw [List.getElem?_cons_succ]
  cases e[i]? with
  | none => rfl
  | some r => cases r <;> rfl
theorem nst_no : nst .no := fun _ z => nomatch z
theorem nst_val {d : D} : nst (.val d) := fun _ z => nomatch z
theorem stoOf_one {M : List D} : stoOf [.sto M] = some M := rfl
theorem stoOf_cons {s t : Slot} {e : Ev} : stoOf (s :: t :: e) = stoOf (t :: e) := by
  unfold stoOf
  rw [List.getLast?_cons_cons]
theorem setSto_one {M M' : List D} : setSto [.sto M] M' = [.sto M'] := rfl
theorem setSto_cons {s t : Slot} {e : Ev} {M : List D} : setSto (s :: t :: e) M = s :: setSto (t :: e) M := by
  unfold setSto
  simp
theorem cut_map (xs : List Int) (lo hi : Option Int) : ∃ ys : List Int, DL.cutD (xs.map .int) lo hi = ys.map .int := by
  unfold DL.cutD
  rw [List.length_map]
  exact ⟨(xs.drop (HT.sIx xs.length 0 lo)).take (HT.sIx xs.length xs.length hi - HT.sIx xs.length 0 lo), by rw [List.map_take, List.map_drop]⟩
theorem two_le (n : Nat) (h : n ≤ 1000) : n ≤ sizeLine := by rw [sizeLine_eq]; omega
theorem look_np {env : Ev} {d : D} (h : ∀ n, d ≠ .ptr n) : look env d = some d := by
  cases d with
  | ptr n => exact (h n rfl).elim
  | _ => rfl
/-! ### the pool -/
def poolBody : FS := (S.seq (S.set 3 (E.bin modD (E.bin addD (E.bin addD (E.bin mulD (E.var 3) (E.cst (.int 48271))) (E.bin mulD (E.bin modD (E.var 5) (E.cst (.int 2147483399))) (E.cst (.int 19)))) (E.cst (.int 7))) (E.cst (.int 2147483399)))) S.nop)
theorem pool_loop {a b c w : D} {M : List D} : ∀ (ns : List Int) (m : Int) (x : Slot), nst x → ∃ m' x', nst x' ∧ loopS (.nm 5) poolBody (ns.map .int) [.val a, .val b, .val c, .val (.int m), .val w, x, .sto M] = .nx [.val a, .val b, .val c, .val (.int m'), .val w, x', .sto M]
  | [], m, x, h => ⟨m, x, h, rfl⟩
  | n :: ns, m, x, h => by
    obtain ⟨m', x', h', e⟩ := pool_loop (a := a) (b := b) (c := c) (w := w) (M := M) ns ((m * 48271 + n.fmod 2147483399 * 19 + 7).fmod 2147483399) (.val (.int n)) nst_val
    refine ⟨m', x', h', ?_⟩
    rw [← e]
    rw [List.map_cons, loopS]
    simp only [bindT, put1_succ, put1_zero h]
    simp [poolBody, S.seq, S.set, S.nop, E.bin, E.var, E.cst, rd, look, frz, mulD, modD, addD, iiD, put1_succ, put1_zero nst_val]
def wideI : Int := 10 ^ 64 * 10 ^ 64 * 10 ^ 64 * 10 ^ 64 * 10 ^ 64 * 10 ^ 64
def wideE : FE := (E.bin mulW (E.bin mulW (E.bin mulW (E.bin mulW (E.bin mulW (E.bin powD (E.cst (.int 10)) (E.cst (.int 64))) (E.bin powD (E.cst (.int 10)) (E.cst (.int 64)))) (E.bin powD (E.cst (.int 10)) (E.cst (.int 64)))) (E.bin powD (E.cst (.int 10)) (E.cst (.int 64)))) (E.bin powD (E.cst (.int 10)) (E.cst (.int 64)))) (E.bin powD (E.cst (.int 10)) (E.cst (.int 64))))
theorem B_pool : B__law_pool = S.seq (S.par [2, 3] (A.cons (E.c1 sumD (E.sl (E.var 0) (P.at (E.var 1)) (P.at (E.bin addD (E.var 1) (E.cst (.int 1)))))) (A.cons (E.bin addD (E.cst (.int 50021)) (E.bin mulD (E.cst (.int 977)) (E.var 1))) A.nil))) (S.seq (S.set 4 wideE) (S.seq (S.for_ (I.seq (E.sl (E.var 0) P.no (P.at (E.cst (.int 12))))) (.nm 5) poolBody)
  (S.seq (S.ret (E.mk (E.lst (A.cons (E.ite (Tt.or (Tt.val (E.bin ltD (E.var 2) (E.cst (.int 0)))) (Tt.val (E.bin geD (E.var 2) (E.bin powD (E.cst (.int 10)) (E.cst (.int 18)))))) (E.bin modD (E.c1 absD (E.var 2)) (E.var 4)) (E.cst (.int 0))) (A.cons (E.var 3) (A.cons (E.cst (.int 0)) A.nil)))))) S.nop))) := rfl
theorem F_pool (M : List D) (ns : List Int) (k : Int) : ∃ a b, F__law_pool M [.scr ns, .int k] = .ok (.ptr M.length) (M ++ [.lst [.int a, .int b, .int 0]]) := by
  obtain ⟨cs, hc⟩ := cut_map ns (some k) (some (k + 1))
  obtain ⟨ts, ht⟩ := cut_map ns none (some 12)
  obtain ⟨m', x', h', hl⟩ := pool_loop (a := .scr ns) (b := .int k) (c := .int cs.sum) (w := .int wideI) (M := M) ts (50021 + 977 * k) .no nst_no
  have e0 : F__law_pool M [.scr ns, .int k] = runM 6 B__law_pool M [.scr ns, .int k] := rfl
  have e1 : envOf [.scr ns, .int k] (6 - [D.scr ns, D.int k].length) [.sto M] = [.val (.scr ns), .val (.int k), .no, .no, .no, .no, .sto M] := rfl
  have s1 : (S.par [2, 3] (A.cons (E.c1 sumD (E.sl (E.var 0) (P.at (E.var 1)) (P.at (E.bin addD (E.var 1) (E.cst (.int 1)))))) (A.cons (E.bin addD (E.cst (.int 50021)) (E.bin mulD (E.cst (.int 977)) (E.var 1))) A.nil))) [.val (.scr ns), .val (.int k), .no, .no, .no, .no, .sto M]
      = .nx [.val (.scr ns), .val (.int k), .val (.int cs.sum), .val (.int (50021 + 977 * k)), .no, .no, .sto M] := by
    simp [S.par, A.cons, A.nil, E.c1, E.sl, E.var, P.at, E.bin, E.cst, rd, look, frz, sliceD, hc, sumD, addD, mulD, iiD, bindTs, bindT, put1_succ, put1_zero nst_no]
  have wd : wideE [.val (.scr ns), .val (.int k), .val (.int cs.sum), .val (.int (50021 + 977 * k)), .no, .no, .sto M] = .ok (.dv (.int wideI)) [.val (.scr ns), .val (.int k), .val (.int cs.sum), .val (.int (50021 + 977 * k)), .no, .no, .sto M] := by kernel_rfl
  have fo : (S.for_ (I.seq (E.sl (E.var 0) P.no (P.at (E.cst (.int 12))))) (.nm 5) poolBody) [.val (.scr ns), .val (.int k), .val (.int cs.sum), .val (.int (50021 + 977 * k)), .val (.int wideI), .no, .sto M] = .nx [.val (.scr ns), .val (.int k), .val (.int cs.sum), .val (.int m'), .val (.int wideI), x', .sto M] := by
    rw [← hl]
    simp [S.for_, I.seq, E.sl, E.var, P.at, P.no, E.cst, rd, look, frz, sliceD, ht, itemsD]
  have rt : ∃ a, (S.ret (E.mk (E.lst (A.cons (E.ite (Tt.or (Tt.val (E.bin ltD (E.var 2) (E.cst (.int 0)))) (Tt.val (E.bin geD (E.var 2) (E.bin powD (E.cst (.int 10)) (E.cst (.int 18)))))) (E.bin modD (E.c1 absD (E.var 2)) (E.var 4)) (E.cst (.int 0))) (A.cons (E.var 3) (A.cons (E.cst (.int 0)) A.nil))))))
      [.val (.scr ns), .val (.int k), .val (.int cs.sum), .val (.int m'), .val (.int wideI), x', .sto M] = .rt (.ptr M.length) [.val (.scr ns), .val (.int k), .val (.int cs.sum), .val (.int m'), .val (.int wideI), x', .sto (M ++ [.lst [.int a, .int m', .int 0]])] := by
    have w0 : wideI ≠ 0 := by decide +kernel
    have l3 := two_le 3 (by decide)
    by_cases q : cs.sum < 0 ∨ 1000000000000000000 ≤ cs.sum
    · refine ⟨(if cs.sum < 0 then -cs.sum else cs.sum).fmod wideI, ?_⟩
      rcases q with q | q
      · simp [S.ret, E.mk, E.lst, A.cons, A.nil, E.ite, Tt.or, Tt.val, E.bin, E.c1, E.var, E.cst, rd, look, frz, ltD, geD, cmD, powD, iiD, modD, absD, q, w0, l3, stoOf_cons, stoOf_one, setSto_cons, setSto_one]
      · by_cases q2 : cs.sum < 0
        · simp [S.ret, E.mk, E.lst, A.cons, A.nil, E.ite, Tt.or, Tt.val, E.bin, E.c1, E.var, E.cst, rd, look, frz, ltD, geD, cmD, powD, iiD, modD, absD, q2, w0, l3, stoOf_cons, stoOf_one, setSto_cons, setSto_one]
        · simp [S.ret, E.mk, E.lst, A.cons, A.nil, E.ite, Tt.or, Tt.val, E.bin, E.c1, E.var, E.cst, rd, look, frz, ltD, geD, cmD, powD, iiD, modD, absD, q, q2, w0, l3, stoOf_cons, stoOf_one, setSto_cons, setSto_one]
    · refine ⟨0, ?_⟩
      have q1 : ¬ cs.sum < 0 := fun z => q (.inl z)
      have q2 : ¬ 1000000000000000000 ≤ cs.sum := fun z => q (.inr z)
      simp [S.ret, E.mk, E.lst, A.cons, A.nil, E.ite, Tt.or, Tt.val, E.bin, E.c1, E.var, E.cst, rd, look, frz, ltD, geD, cmD, powD, iiD, modD, absD, q1, q2, w0, l3, stoOf_cons, stoOf_one, setSto_cons, setSto_one]
  obtain ⟨a, rt⟩ := rt
  refine ⟨a, m', ?_⟩
  rw [e0]
  unfold runM
  rw [e1, B_pool]
  simp only [S.seq, s1, S.set, wd, Out.toS_ok, frz, put1_succ, put1_zero nst_no, fo, rt]
  rw [stoOf_cons, stoOf_cons, stoOf_cons, stoOf_cons, stoOf_cons, stoOf_cons, stoOf_one]

theorem rd_int {e : Ev} {i : Int} : rd e (.dv (.int i)) = some (.int i) := rfl
theorem rd_str {e : Ev} {i : Str} : rd e (.dv (.str i)) = some (.str i) := rfl
theorem rd_bl {e : Ev} {i : Bool} : rd e (.dv (.bl i)) = some (.bl i) := rfl
theorem rd_non {e : Ev} : rd e (.dv .non) = some .non := rfl
theorem rd_tup {e : Ev} {i : List D} : rd e (.dv (.tup i)) = some (.tup i) := rfl
theorem rd_lst {e : Ev} {i : List D} : rd e (.dv (.lst i)) = some (.lst i) := rfl
theorem rd_scr {e : Ev} {i : List Int} : rd e (.dv (.scr i)) = some (.scr i) := rfl
theorem rd_x1 {e : Ev} {c f : Str} {d : D} : rd e (.dv (.exc1 c f d)) = some (.exc1 c f d) := rfl
theorem rd_x0 {e : Ev} {c : Str} : rd e (.dv (.exc0 c)) = some (.exc0 c) := rfl
theorem rd_ptr {e : Ev} {n : Nat} {M : List D} (h : stoOf e = some M) : rd e (.dv (.ptr n)) = lookP n M[n]? := by
  show look e (.ptr n) = _
  unfold look
  dsimp only
  rw [h]
  rfl
theorem lookP_lst {n : Nat} {xs : List D} : lookP n (some (.lst xs)) = some (.lst xs) := rfl
theorem frz_dv {e : Ev} {d : D} : frz e (.dv d) = some (d, e) := rfl
theorem ev_cst {d : D} {e : Ev} : E.cst d e = .ok (.dv d) e := rfl
theorem ev_var {i : Nat} {e : Ev} {d : D} (h : e[i]? = some (.val d)) : E.var i e = .ok (.dv d) e := by
  unfold E.var; rw [h]
theorem ev_bin {op : D → D → Option D} {f g : FE} {e e1 e2 : Ev} {a b : EV} {x y z : D} (h1 : f e = .ok a e1) (h2 : g e1 = .ok b e2) (h3 : rd e2 a = some x) (h4 : rd e2 b = some y) (h5 : op x y = some z) : E.bin op f g e = .ok (.dv z) e2 := by
  unfold E.bin; rw [h1, Out.bind_ok, h2, Out.bind_ok, h3, h4]; dsimp only; rw [h5]
theorem ev_c1 {op : D → Option D} {f : FE} {e e1 : Ev} {a : EV} {x z : D} (h1 : f e = .ok a e1) (h3 : rd e1 a = some x) (h5 : op x = some z) : E.c1 op f e = .ok (.dv z) e1 := by
  unfold E.c1; rw [h1, Out.bind_ok, h3]; dsimp only; rw [h5]
theorem ev_nil {e : Ev} : A.nil e = .ok [] e := rfl
theorem ev_cons {f : FE} {g : FA} {e e1 e2 e3 : Ev} {a : EV} {d : D} {ds : List D} (h1 : f e = .ok a e1) (h2 : frz e1 a = some (d, e2)) (h3 : g e2 = .ok ds e3) : A.cons f g e = .ok (d :: ds) e3 := by
  unfold A.cons; rw [h1, Out.bind_ok, h2]; dsimp only; rw [h3, Out.bind_ok]
theorem ev_cb {op : List D → Option D} {g : FA} {e e1 : Ev} {ds : List D} {z : D} (h1 : g e = .ok ds e1) (h2 : op ds = some z) : E.cb op g e = .ok (.dv z) e1 := by
  unfold E.cb; rw [h1, Out.bind_ok, h2]
theorem ev_val {f : FE} {e e1 : Ev} {a : EV} {b : Bool} (h1 : f e = .ok a e1) (h2 : rd e1 a = some (.bl b)) : Tt.val f e = .ok b e1 := by
  unfold Tt.val; rw [h1, Out.bind_ok, h2]
theorem ev_set {i : Nat} {f : FE} {e e1 e2 : Ev} {a : EV} {d : D} (h1 : f e = .ok a e1) (h2 : frz e1 a = some (d, e2)) : S.set i f e = .nx (put1 e2 i (.val d)) := by
  unfold S.set; rw [h1, Out.toS_ok, h2]
theorem ev_ret {f : FE} {e e1 e2 : Ev} {a : EV} {d : D} (h1 : f e = .ok a e1) (h2 : frz e1 a = some (d, e2)) : S.ret f e = .rt d e2 := by
  unfold S.ret; rw [h1, Out.toS_ok, h2]
theorem ev_asg {tg : Tgt} {f : FE} {e e1 e2 e3 : Ev} {a : EV} {d : D} (h1 : f e = .ok a e1) (h2 : frz e1 a = some (d, e2)) (h3 : bindT tg d e2 = some e3) : S.asg tg f e = .nx e3 := by
  unfold S.asg; rw [h1, Out.toS_ok, h2]; dsimp only; rw [h3]
theorem ev_ifT {t : FB} {f g : FS} {e e1 : Ev} (h : t e = .ok true e1) : S.ifs t f g e = f e1 := by
  unfold S.ifs; rw [h, Out.toS_ok, if_pos rfl]
theorem ev_ifF {t : FB} {f g : FS} {e e1 : Ev} (h : t e = .ok false e1) : S.ifs t f g e = g e1 := by
  unfold S.ifs; rw [h, Out.toS_ok, if_neg (by decide)]
theorem ev_seq {f g : FS} {e e1 : Ev} (h : f e = .nx e1) : S.seq f g e = g e1 := by
  unfold S.seq; rw [h]
theorem ev_rt {f g : FS} {e e1 : Ev} {d : D} (h : f e = .rt d e1) : S.seq f g e = .rt d e1 := by
  unfold S.seq; rw [h]
theorem mul_l {i j : Int} (h : -18446744073709551616 < i ∧ i < 18446744073709551616) : mulD (.int i) (.int j) = some (.int (i * j)) := by
  simp [mulD, iiD, h]
theorem mul_r {i j : Int} (h : -18446744073709551616 < j ∧ j < 18446744073709551616) : mulD (.int i) (.int j) = some (.int (i * j)) := by
  simp [mulD, iiD, h]
theorem mod_nz {i j : Int} (h : j ≠ 0) : modD (.int i) (.int j) = some (.int (i.fmod j)) := by
  simp [modD, iiD, h]
theorem six_set {e : Ev} {i : Nat} {k : Int} {d : D} {n : Nat} {M : List D} {xs : List D} (h1 : e[i]? = some (.val (.ptr n))) (h2 : stoOf e = some M) (h3 : M[n]? = some (.lst xs)) (h4 : 0 ≤ k ∧ k < xs.length) : bindT (.six i k) d e = some (setSto e (M.set n (.lst (xs.set k.toNat d)))) := by
  rw [bindT]; unfold sixE; rw [h1, h2]; dsimp only; unfold sixM; rw [h3]; dsimp only; rw [if_pos h4]
/-! ### take -/
theorem dig (x m : Int) (h : 0 < m) : 0 ≤ x.fmod m ∧ x.fmod m < m := ⟨Int.fmod_nonneg_of_pos _ h, Int.fmod_lt_of_pos _ h⟩
def takeA : FS := (S.ifs (Tt.val (E.bin gtD (E.bin ixD (E.var 0) (E.cst (.int 0))) (E.cst (.int 0)))) (S.seq (S.asg (.tp [(.six 0 0), (.nm 2)]) (E.cb dvmD (A.cons (E.bin ixD (E.var 0) (E.cst (.int 0))) (A.cons (E.var 1) A.nil)))) (S.seq (S.ret (E.var 2)) S.nop)) S.nop)
theorem B_take : B__law_take = S.seq takeA (S.seq (S.asg (.six 0 2) (E.bin addD (E.bin ixD (E.var 0) (E.cst (.int 2))) (E.cst (.int 1)))) (S.seq (S.set 3 (E.bin modD (E.bin addD (E.bin ixD (E.var 0) (E.cst (.int 1))) (E.bin mulD (E.cst (.int 28657)) (E.bin ixD (E.var 0) (E.cst (.int 2))))) (E.cst (.int 2147483399))))
  (S.seq (S.asg (.six 0 1) (E.bin modD (E.bin addD (E.bin mulD (E.var 3) (E.bin addD (E.bin modD (E.var 3) (E.cst (.int 5003))) (E.cst (.int 48271)))) (E.bin mulD (E.cst (.int 17)) (E.bin ixD (E.var 0) (E.cst (.int 2))))) (E.cst (.int 2147483399)))) (S.seq (S.ret (E.bin modD (E.bin fdivD (E.bin ixD (E.var 0) (E.cst (.int 1))) (E.cst (.int 613))) (E.var 1))) S.nop)))) := rfl
theorem F_take {M : List D} {n : Nat} {a b c m : Int} (hn : M[n]? = some (.lst [.int a, .int b, .int c])) (hm : 0 < m) (hb : m < 1000000) :
    ∃ r a' b' c', F__law_take M [.ptr n, .int m] = .ok (.int r) (M.set n (.lst [.int a', .int b', .int c'])) ∧ 0 ≤ r ∧ r < m := by
  have e0 : F__law_take M [.ptr n, .int m] = runM 4 B__law_take M [.ptr n, .int m] := rfl
  have e1 : envOf [.ptr n, .int m] (4 - [D.ptr n, D.int m].length) [.sto M] = [.val (.ptr n), .val (.int m), .no, .no, .sto M] := rfl
  have hlen : n < M.length := (List.getElem?_eq_some_iff.mp hn).1
  rw [e0]
  unfold runM
  rw [e1]
  have stM : ∀ (x y z w : Slot) (N : List D), stoOf [x, y, z, w, .sto N] = some N := fun x y z w N => by rw [stoOf_cons, stoOf_cons, stoOf_cons, stoOf_cons, stoOf_one]
  have seM : ∀ (x y z w : Slot) (N N' : List D), setSto [x, y, z, w, .sto N] N' = [x, y, z, w, .sto N'] := fun x y z w N N' => by rw [setSto_cons, setSto_cons, setSto_cons, setSto_cons, setSto_one]
  have hg : ∀ X : D, (M.set n X)[n]? = some X := fun X => List.getElem?_set_self hlen
  have lg : m.natAbs.log2 < 9000 := by
    have h1 : m.natAbs < 2 ^ 20 := by omega
    have := PySem.Flt.log2_lt_of (k := 20) (by decide) h1
    omega
  have m0 : m ≠ 0 := by omega
  have rdM : ∀ (x y z w : Slot) (N : List D) (j : Nat), rd [x, y, z, w, .sto N] (.dv (.ptr j)) = lookP j N[j]? := fun x y z w N j => rd_ptr (stM x y z w N)
  have tt : (Tt.val (E.bin gtD (E.bin ixD (E.var 0) (E.cst (.int 0))) (E.cst (.int 0)))) [.val (.ptr n), .val (.int m), .no, .no, .sto M] = .ok (decide (0 < a)) [.val (.ptr n), .val (.int m), .no, .no, .sto M] := by
    simp [Tt.val, E.bin, E.var, E.cst, rd, look, lookM, lookP, stM, hn, ixD, atI, ixN, gtD, cmD]
  rw [B_take]
  by_cases ha : 0 < a
  · refine ⟨a % m, a / m, b, c, ?_, Int.emod_nonneg _ m0, Int.emod_lt_of_pos _ hm⟩
    have s1 : (S.asg (.tp [(.six 0 0), (.nm 2)]) (E.cb dvmD (A.cons (E.bin ixD (E.var 0) (E.cst (.int 0))) (A.cons (E.var 1) A.nil)))) [.val (.ptr n), .val (.int m), .no, .no, .sto M] = .nx [.val (.ptr n), .val (.int m), .val (.int (a % m)), .no, .sto (M.set n (.lst [.int (a / m), .int b, .int c]))] := by
      refine ev_asg (ev_cb (ev_cons (ev_bin (ev_var rfl) ev_cst ((rdM _ _ _ _ M n).trans (by rw [hn]; rfl)) rd_int rfl) rfl (ev_cons (ev_var rfl) rfl ev_nil)) (show dvmD [.int a, .int m] = some (.tup [.int (a / m), .int (a % m)]) from if_pos ⟨hm, lg⟩)) rfl ?_
      rw [bindT, bindTs, six_set rfl (stM _ _ _ _ _) hn ⟨by decide, by simp⟩, seM, Option.bind_some, bindTs, bindT, Option.bind_some, bindTs]
      rfl
    have s2 : (S.ret (E.var 2)) [.val (.ptr n), .val (.int m), .val (.int (a % m)), .no, .sto (M.set n (.lst [.int (a / m), .int b, .int c]))] = .rt (.int (a % m)) [.val (.ptr n), .val (.int m), .val (.int (a % m)), .no, .sto (M.set n (.lst [.int (a / m), .int b, .int c]))] := rfl
    have s3 : takeA [.val (.ptr n), .val (.int m), .no, .no, .sto M] = .rt (.int (a % m)) [.val (.ptr n), .val (.int m), .val (.int (a % m)), .no, .sto (M.set n (.lst [.int (a / m), .int b, .int c]))] := by
      unfold takeA S.ifs
      rw [tt, Out.toS_ok, if_pos (decide_eq_true ha)]
      unfold S.seq
      rw [s1]
      dsimp only
      rw [s2]
    unfold S.seq
    rw [s3]
    dsimp only
    rw [stM]
  · obtain ⟨r1, r2⟩ := dig ((((b + 28657 * (c + 1)).fmod 2147483399 * (((b + 28657 * (c + 1)).fmod 2147483399).fmod 5003 + 48271) + 17 * (c + 1)).fmod 2147483399).fdiv 613) m hm
    have st := dig (b + 28657 * (c + 1)) 2147483399 (by decide)
    have big : -18446744073709551616 < (b + 28657 * (c + 1)).fmod 2147483399 ∧ (b + 28657 * (c + 1)).fmod 2147483399 < 18446744073709551616 := by omega
    refine ⟨_, a, (((b + 28657 * (c + 1)).fmod 2147483399 * (((b + 28657 * (c + 1)).fmod 2147483399).fmod 5003 + 48271) + 17 * (c + 1)).fmod 2147483399), c + 1, ?_, r1, r2⟩
    have s0 : takeA [.val (.ptr n), .val (.int m), .no, .no, .sto M] = .nx [.val (.ptr n), .val (.int m), .no, .no, .sto M] := by
      unfold takeA S.ifs
      rw [tt, Out.toS_ok, if_neg (by simp [ha])]
      rfl
    have s1 : (S.asg (.six 0 2) (E.bin addD (E.bin ixD (E.var 0) (E.cst (.int 2))) (E.cst (.int 1)))) [.val (.ptr n), .val (.int m), .no, .no, .sto M] = .nx [.val (.ptr n), .val (.int m), .no, .no, .sto (M.set n (.lst [.int a, .int b, .int (c + 1)]))] := by
      refine ev_asg (ev_bin (ev_bin (ev_var rfl) ev_cst ((rdM _ _ _ _ M n).trans (by rw [hn]; rfl)) rd_int rfl) ev_cst rd_int rd_int rfl) rfl ?_
      rw [six_set rfl (stM _ _ _ _ _) hn ⟨by decide, by simp⟩, seM]
      rfl
    have s2 : (S.set 3 (E.bin modD (E.bin addD (E.bin ixD (E.var 0) (E.cst (.int 1))) (E.bin mulD (E.cst (.int 28657)) (E.bin ixD (E.var 0) (E.cst (.int 2))))) (E.cst (.int 2147483399)))) [.val (.ptr n), .val (.int m), .no, .no, .sto (M.set n (.lst [.int a, .int b, .int (c + 1)]))]
        = .nx [.val (.ptr n), .val (.int m), .no, .val (.int ((b + 28657 * (c + 1)).fmod 2147483399)), .sto (M.set n (.lst [.int a, .int b, .int (c + 1)]))] := by
      have rg := (rdM (.val (.ptr n)) (.val (.int m)) .no .no (M.set n (.lst [.int a, .int b, .int (c + 1)])) n).trans (by rw [hg]; rfl : _ = some (.lst [.int a, .int b, .int (c + 1)]))
      exact ev_set (ev_bin (ev_bin (ev_bin (ev_var rfl) ev_cst rg rd_int rfl) (ev_bin ev_cst (ev_bin (ev_var rfl) ev_cst rg rd_int rfl) rd_int rd_int (mul_l ⟨by decide, by decide⟩)) rd_int rd_int rfl) ev_cst rd_int rd_int (mod_nz (by decide))) rfl
    have s3 : (S.asg (.six 0 1) (E.bin modD (E.bin addD (E.bin mulD (E.var 3) (E.bin addD (E.bin modD (E.var 3) (E.cst (.int 5003))) (E.cst (.int 48271)))) (E.bin mulD (E.cst (.int 17)) (E.bin ixD (E.var 0) (E.cst (.int 2))))) (E.cst (.int 2147483399))))
        [.val (.ptr n), .val (.int m), .no, .val (.int ((b + 28657 * (c + 1)).fmod 2147483399)), .sto (M.set n (.lst [.int a, .int b, .int (c + 1)]))]
        = .nx [.val (.ptr n), .val (.int m), .no, .val (.int ((b + 28657 * (c + 1)).fmod 2147483399)), .sto (M.set n (.lst [.int a, .int (((b + 28657 * (c + 1)).fmod 2147483399 * (((b + 28657 * (c + 1)).fmod 2147483399).fmod 5003 + 48271) + 17 * (c + 1)).fmod 2147483399), .int (c + 1)]))] := by
      have rg := (rdM (.val (.ptr n)) (.val (.int m)) .no (.val (.int ((b + 28657 * (c + 1)).fmod 2147483399))) (M.set n (.lst [.int a, .int b, .int (c + 1)])) n).trans (by rw [hg]; rfl : _ = some (.lst [.int a, .int b, .int (c + 1)]))
      refine ev_asg (ev_bin (ev_bin (ev_bin (ev_var rfl) (ev_bin (ev_bin (ev_var rfl) ev_cst rd_int rd_int (mod_nz (by decide))) ev_cst rd_int rd_int rfl) rd_int rd_int (mul_l big)) (ev_bin ev_cst (ev_bin (ev_var rfl) ev_cst rg rd_int rfl) rd_int rd_int (mul_l ⟨by decide, by decide⟩)) rd_int rd_int rfl) ev_cst rd_int rd_int (mod_nz (by decide))) rfl ?_
      rw [six_set rfl (stM _ _ _ _ _) (hg _) ⟨by decide, by simp⟩, seM, List.set_set]
      rfl
    have s4 : (S.ret (E.bin modD (E.bin fdivD (E.bin ixD (E.var 0) (E.cst (.int 1))) (E.cst (.int 613))) (E.var 1))) [.val (.ptr n), .val (.int m), .no, .val (.int ((b + 28657 * (c + 1)).fmod 2147483399)), .sto (M.set n (.lst [.int a, .int (((b + 28657 * (c + 1)).fmod 2147483399 * (((b + 28657 * (c + 1)).fmod 2147483399).fmod 5003 + 48271) + 17 * (c + 1)).fmod 2147483399), .int (c + 1)]))]
        = .rt (.int (((((b + 28657 * (c + 1)).fmod 2147483399 * (((b + 28657 * (c + 1)).fmod 2147483399).fmod 5003 + 48271) + 17 * (c + 1)).fmod 2147483399).fdiv 613).fmod m)) [.val (.ptr n), .val (.int m), .no, .val (.int ((b + 28657 * (c + 1)).fmod 2147483399)), .sto (M.set n (.lst [.int a, .int (((b + 28657 * (c + 1)).fmod 2147483399 * (((b + 28657 * (c + 1)).fmod 2147483399).fmod 5003 + 48271) + 17 * (c + 1)).fmod 2147483399), .int (c + 1)]))] := by
      refine ev_ret (ev_bin (ev_bin (ev_bin (ev_var rfl) ev_cst ((rdM _ _ _ _ _ n).trans (by rw [hg]; rfl)) rd_int rfl) ev_cst rd_int rd_int rfl) (ev_var rfl) rd_int rd_int (mod_nz m0)) rfl
    unfold S.seq
    rw [s0]
    dsimp only
    rw [s1]
    dsimp only
    rw [s2]
    dsimp only
    rw [s3]
    dsimp only
    rw [s4]
    dsimp only
    rw [stM]
end K99
-- K99q
set_option maxRecDepth 100000
set_option maxHeartbeats 8000000
/-! K99: the plain law, the rest. -/
namespace K99
open PySem PySem.Spec PyProof.Rows L2 DL
theorem ev_callM {F : FM} {g : FA} {e e1 : Ev} {ds : List D} {M M' : List D} {z : D} (h1 : g e = .ok ds e1) (h2 : stoOf e1 = some M) (h3 : F M ds = .ok z M') : E.callM F g e = .ok (.dv z) (setSto e1 M') := by
  unfold E.callM; rw [h1, Out.bind_ok, h2]; dsimp only; rw [h3]
theorem ev_call {F : List D → FO} {g : FA} {e e1 : Ev} {ds : List D} {z : D} (h1 : g e = .ok ds e1) (h3 : F ds = .ok z) : E.call F g e = .ok (.dv z) e1 := by
  unfold E.call; rw [h1, Out.bind_ok, h3]
theorem ev_fz {f : FD} {e e1 : Ev} {d : D} (h : f e = .ok d e1) : E.fz f e = .ok (.dv d) e1 := by
  unfold E.fz; rw [h, Out.bind_ok]
theorem ev_lst {g : FA} {e e1 : Ev} {ds : List D} (h : g e = .ok ds e1) (hl : ds.length ≤ 1000) : E.lst g e = .ok (.lst ds) e1 := by
  unfold E.lst; rw [h, Out.bind_ok, if_pos (two_le _ hl)]
theorem ev_tup {g : FA} {e e1 : Ev} {ds : List D} (h : g e = .ok ds e1) (hl : ds.length ≤ 1000) : E.tup g e = .ok (.dv (.tup ds)) e1 := by
  unfold E.tup; rw [h, Out.bind_ok, if_pos (two_le _ hl)]
theorem ev_or {t u : FB} {e e1 : Ev} {r : Out Bool} (h : t e = .ok false e1) (h2 : u e1 = r) : Tt.or t u e = r := by
  unfold Tt.or; rw [h, Out.bind_ok, if_neg (by decide), h2]
theorem ev_not {t : FB} {e e1 : Ev} {b : Bool} (h : t e = .ok b e1) : Tt.not t e = .ok (!b) e1 := by
  unfold Tt.not; rw [h, Out.bind_ok]
theorem ev_ifN {t : FB} {f : FS} {e e1 : Ev} (h : t e = .ok false e1) : S.ifs t f S.nop e = .nx e1 := ev_ifF h
theorem neD_str (s : Str) : neD (.str s) (.str s) = some (.bl false) := by
  simp [neD, eqE, eqS]
/-! ### things -/
def thingsL (r : Int) : List D := [.int r, .str (toString r), .tup [.int r], .lst [.int r], .non, .dcK [.inr "a"] [.int r], .bl (decide (0 < r)), .str "", .int (10 ^ 30 + r)]
theorem small_log {r : Int} (h1 : -500 ≤ r) (h2 : r < 500) : r.natAbs.log2 < 1920 := by
  have := PySem.Flt.log2_lt_of (n := r.natAbs) (k := 20) (by decide) (by omega)
  omega
theorem big_log {r : Int} (h1 : -500 ≤ r) (h2 : r < 500) : (10 ^ 30 + r).natAbs.log2 < 1920 := by
  have := PySem.Flt.log2_lt_of (n := (10 ^ 30 + r).natAbs) (k := 200) (by decide) (by omega)
  omega
theorem F_things {M : List D} {n : Nat} {a b c : Int} (hn : M[n]? = some (.lst [.int a, .int b, .int c])) :
    ∃ r a' b' c', F__law_things M [.ptr n] = .ok (.lst (thingsL r)) (M.set n (.lst [.int a', .int b', .int c'])) ∧ -500 ≤ r ∧ r < 500 := by
  obtain ⟨r, a', b', c', h, h1, h2⟩ := F_take (m := 1000) hn (by decide) (by decide)
  refine ⟨r - 500, a', b', c', ?_, by omega, by omega⟩
  have e0 : F__law_things M [.ptr n] = runM 2 B__law_things M [.ptr n] := rfl
  have e1 : envOf [.ptr n] (2 - [D.ptr n].length) [.sto M] = [.val (.ptr n), .no, .sto M] := rfl
  have s1 : (S.set 1 (E.bin subD (E.callM F__law_take (A.cons (E.var 0) (A.cons (E.cst (.int 1000)) A.nil))) (E.cst (.int 500)))) [.val (.ptr n), .no, .sto M] = .nx [.val (.ptr n), .val (.int (r - 500)), .sto (M.set n (.lst [.int a', .int b', .int c']))] :=
    ev_set (ev_bin (ev_callM (ev_cons (ev_var rfl) rfl (ev_cons ev_cst rfl ev_nil)) rfl h) ev_cst rd_int rd_int rfl) rfl
  have dk : E.dsp (("a", (E.var 1)) :: []) [.val (.ptr n), .val (.int (r - 500)), .sto (M.set n (.lst [.int a', .int b', .int c']))] = .ok (.dcK [.inr "a"] [.int (r - 500)]) [.val (.ptr n), .val (.int (r - 500)), .sto (M.set n (.lst [.int a', .int b', .int c']))] := by kernel_rfl
  have st : strD (.int (r - 500)) = some (.str (toString (r - 500))) := if_pos (small_log (by omega) (by omega))
  have pw : powD (.int 10) (.int 30) = some (.int (10 ^ 30)) := by kernel_rfl
  rw [e0]
  unfold runM
  rw [e1]
  unfold B__law_things
  rw [ev_seq s1, ev_rt (ev_ret (ev_fz (ev_lst (ev_cons (ev_var rfl) rfl (ev_cons (ev_c1 (ev_var rfl) rd_int st) rfl (ev_cons (ev_tup (ev_cons (ev_var rfl) rfl ev_nil) (by simp)) rfl (ev_cons (ev_fz (ev_lst (ev_cons (ev_var rfl) rfl ev_nil) (by simp))) rfl
    (ev_cons ev_cst rfl (ev_cons (ev_fz dk) rfl (ev_cons (ev_bin (ev_var rfl) ev_cst rd_int rd_int rfl) rfl (ev_cons ev_cst rfl (ev_cons (ev_bin (ev_bin ev_cst ev_cst rd_int rd_int pw) (ev_var rfl) rd_int rd_int rfl) rfl ev_nil))))))))) (by simp))) rfl)]
  rfl
theorem rt : ∀ n : Fin 1000, (reprText (Str.ofString (toString ((n.val : Int) - 500)))).length ≤ 100 := by decide +kernel
theorem rp_ok {r : Int} (h1 : -500 ≤ r) (h2 : r < 500) : ∀ d ∈ thingsL r, (∃ s, rpD d = some (.str s)) ∧ ∀ n, d ≠ .ptr n := by
  have l1 := small_log h1 h2
  have l2 := big_log h1 h2
  have t1 := int_text_len_1921 l1
  have t2 := int_text_len_1921 l2
  have z : 5000 ≤ sizeLine := by rw [sizeLine_eq]; omega
  have go : ∀ (d : D) (p : PyData), pyR d = some p → p.showable = true → p.shown.length ≤ 5000 → p.depth ≤ 64 → (∃ s, rpD d = some (.str s)) ∧ ∀ n, d ≠ .ptr n := fun d p e1 e2 e3 e4 => by
    refine ⟨⟨p.shown, ?_⟩, fun n e => ?_⟩
    · unfold rpD
      rw [e1]
      dsimp only
      rw [if_pos]
      simp [e2, e4, Nat.le_trans e3 z]
    · subst e; simp [pyR, toPy] at e1
  intro d hd
  simp only [thingsL, List.mem_cons, List.not_mem_nil, or_false] at hd
  rcases hd with rfl | rfl | rfl | rfl | rfl | rfl | rfl | rfl | rfl
  · exact go _ (.int r) (by simp [pyR, toPy]) (by simp [PyData.showable, l1]) (by simp only [PyData.shown]; omega) (by simp [PyData.depth])
  · refine go _ (.str (toString r)) (by simp [pyR, toPy]) rfl ?_ (by simp [PyData.depth])
    have := rt ⟨(r + 500).toNat, by omega⟩
    have e : (((r + 500).toNat : Nat) : Int) - 500 = r := by omega
    dsimp only at this
    rw [e] at this
    simp only [PyData.shown]
    exact Nat.le_trans this (by decide)
  · refine go _ (.tuple [.int r]) (by simp [pyR, toPy, toPys]) (by simp [PyData.showable, PyData.showableAll, l1]) ?_ (by simp [PyData.depth, PyData.depthAll])
    simp only [PyData.shown, PyData.shownAll]
    refine Nat.le_trans (tupleText_len_le _) ?_
    simp only [List.map_cons, List.map_nil, List.sum_cons, List.sum_nil, List.length_cons, List.length_nil]
    omega
  · refine go _ (.list [.int r]) (by simp [pyR, toPy, toPys]) (by simp [PyData.showable, PyData.showableAll, l1]) ?_ (by simp [PyData.depth, PyData.depthAll])
    simp only [PyData.shown, PyData.shownAll]
    refine Nat.le_trans (listText_len_le _) ?_
    simp only [List.map_cons, List.map_nil, List.sum_cons, List.sum_nil, List.length_cons, List.length_nil]
    omega
  · exact go _ .none (by simp [pyR, toPy]) rfl (by decide +kernel) (by simp [PyData.depth])
  · refine go _ (.dict [(.str "a", .int r)]) (by simp [pyR, intsOf, keyPy]) (by simp [PyData.showable, PyData.showableKv, l1]) ?_ (by simp [PyData.depth, PyData.depthKv])
    simp only [PyData.shown, PyData.shownKv]
    refine Nat.le_trans (dictText_len_le _) ?_
    simp only [List.map_cons, List.map_nil, List.sum_cons, List.sum_nil, List.length_cons, List.length_nil, strLen_append]
    have h1 : (reprText "a").length ≤ 10 := by decide +kernel
    have h2 : ((": " : String) : Str).length ≤ 10 := by decide +kernel
    omega
  · exact go _ (.bool (decide (0 < r))) (by simp [pyR, toPy]) rfl (by simp only [PyData.shown]; split <;> decide +kernel) (by simp [PyData.depth])
  · exact go _ (.str "") (by simp [pyR, toPy]) rfl (by decide +kernel) (by simp [PyData.depth])
  · exact go _ (.int (10 ^ 30 + r)) (by simp [pyR, toPy]) (by simp only [PyData.showable]; exact decide_eq_true l2) (by simp only [PyData.shown]; exact Nat.le_trans t2 (by decide)) (by simp [PyData.depth])
/-! ### right -/
def xs (d : D) : List D := [.exc1 "InvalidNumber" "given" d, .exc1 "InvalidLot" "given" d, .exc1 "InvalidRound" "given" d, .exc1 "InvalidLine" "given" d, .exc1 "NotAWeb" "given" d, .exc1 "NotAParty" "given" d, .exc1 "InvalidFriends" "index" d, .exc1 "InvalidFoes" "index" d, .exc1 "InvalidPrices" "index" d, .exc1 "InvalidOpen" "index" d, .exc1 "InvalidWalk" "index" d, .exc1 "InvalidDeed" "index" d, .exc1 "InvalidText" "index" d, .exc1 "Barred" "reason" d]
theorem F_made (d : D) : F__law_made [d] = .ok (.tup [.lst (xs d), .lst (xs d)]) := by kernel_rfl
def body4 : FS := (S.seq (S.set 5 (E.bin ixD (E.var 3) (E.var 4)))
  (S.seq (S.set 6 (E.ite (Tt.val (E.bin ltD (E.var 4) (E.cst (.int 6)))) (E.c1 (fldX errs "given") (E.var 5)) (E.ite (Tt.val (E.bin ltD (E.var 4) (E.cst (.int 13)))) (E.c1 (fldX errs "index") (E.var 5)) (E.c1 (fldX errs "reason") (E.var 5)))))
  (S.seq (S.ifs (Tt.or (Tt.val (E.bin neD (E.c1 rpD (E.var 6)) (E.c1 rpD (E.var 2)))) (Tt.or (Tt.not (Tt.val (E.c1 (isE errs "CampError") (E.var 5)))) (Tt.not (Tt.val (E.c1 (isV errs) (E.var 5)))))) (S.seq (S.ret (E.cst (.bl false)))
  S.nop) S.nop)
  (S.seq (S.ifs (Tt.val (E.bin neD (E.call F__law_flags (A.cons (E.var 5) A.nil)) (E.fz (E.lc (I.rng1 (A.cons (E.cst (.int 16)) A.nil)) (.nm 8) [8] Tt.yes (E.bin eqD (E.var 8) (E.var 4)))))) (S.seq (S.ret (E.cst (.bl false)))
  S.nop) S.nop)
  S.nop))))
def body3 : FS := (S.seq (S.for_ (I.rng1 (A.cons (E.c1 lenD (E.var 3)) A.nil)) (.nm 4) body4) S.nop)
def body2 : FS := (S.seq (S.for_ (I.seq (E.call F__law_made (A.cons (E.var 2) A.nil))) (.nm 3) body3) S.nop)
def body5 : FS := (S.seq (S.ifs (Tt.or (Tt.val (E.bin neD (E.call F__law_flags (A.cons (E.bin ixD (E.var 7) (E.var 4)) A.nil)) (E.fz (E.lc (I.rng1 (A.cons (E.cst (.int 16)) A.nil)) (.nm 8) [8] Tt.yes (E.bin eqD (E.var 8) (E.bin addD (E.cst (.int 14)) (E.var 4))))))) (Tt.not (Tt.val (E.c1 (isE errs "CampError") (E.bin ixD (E.var 7) (E.var 4)))))) (S.seq (S.ret (E.cst (.bl false)))
  S.nop) S.nop)
  S.nop)
def iteE : FE := (E.ite (Tt.val (E.bin ltD (E.var 4) (E.cst (.int 6)))) (E.c1 (fldX errs "given") (E.var 5)) (E.ite (Tt.val (E.bin ltD (E.var 4) (E.cst (.int 13)))) (E.c1 (fldX errs "index") (E.var 5)) (E.c1 (fldX errs "reason") (E.var 5))))
def compE : FE := (E.fz (E.lc (I.rng1 (A.cons (E.cst (.int 16)) A.nil)) (.nm 8) [8] Tt.yes (E.bin eqD (E.var 8) (E.var 4))))
def flagsE (k : Int) : List D := (List.range 16).map fun (j : Nat) => .bl (decide ((j : Int) = k))
theorem step {k : Int} {c f : Str} {d : D} {s : Str} {a0 a1 : D} {x5 x6 : Slot} {M : List D} (h5 : nst x5) (h6 : nst x6) (hrp : rpD d = some (.str s)) (np : ∀ n, d ≠ .ptr n) (h1 : ixD (.lst (xs d)) (.int k) = some (.exc1 c f d))
    (h2 : ∀ x6 : Slot, iteE [.val a0, .val a1, .val d, .val (.lst (xs d)), .val (.int k), .val (.exc1 c f d), x6, .no, .no, .sto M] = .ok (.dv d) [.val a0, .val a1, .val d, .val (.lst (xs d)), .val (.int k), .val (.exc1 c f d), x6, .no, .no, .sto M])
    (h3 : isE errs "CampError" (.exc1 c f d) = some (.bl true)) (h4 : isV errs (.exc1 c f d) = some (.bl true)) (hf : F__law_flags [.exc1 c f d] = .ok (.lst (flagsE k)))
    (hc : compE [.val a0, .val a1, .val d, .val (.lst (xs d)), .val (.int k), .val (.exc1 c f d), .val d, .no, .no, .sto M] = .ok (.dv (.lst (flagsE k))) [.val a0, .val a1, .val d, .val (.lst (xs d)), .val (.int k), .val (.exc1 c f d), .val d, .no, .no, .sto M])
    (he : neD (.lst (flagsE k)) (.lst (flagsE k)) = some (.bl false)) :
    body4 [.val a0, .val a1, .val d, .val (.lst (xs d)), .val (.int k), x5, x6, .no, .no, .sto M] = .nx [.val a0, .val a1, .val d, .val (.lst (xs d)), .val (.int k), .val (.exc1 c f d), .val d, .no, .no, .sto M] := by
  have r6 : rd [.val a0, .val a1, .val d, .val (.lst (xs d)), .val (.int k), .val (.exc1 c f d), .val d, .no, .no, .sto M] (.dv d) = some d := look_np np
  have s1 : (S.set 5 (E.bin ixD (E.var 3) (E.var 4))) [.val a0, .val a1, .val d, .val (.lst (xs d)), .val (.int k), x5, x6, .no, .no, .sto M] = .nx [.val a0, .val a1, .val d, .val (.lst (xs d)), .val (.int k), .val (.exc1 c f d), x6, .no, .no, .sto M] := by
    rw [ev_set (ev_bin (ev_var rfl) (ev_var rfl) rd_lst rd_int h1) rfl, put1_succ, put1_succ, put1_succ, put1_succ, put1_succ, put1_zero h5]
  have s2 : (S.set 6 iteE) [.val a0, .val a1, .val d, .val (.lst (xs d)), .val (.int k), .val (.exc1 c f d), x6, .no, .no, .sto M] = .nx [.val a0, .val a1, .val d, .val (.lst (xs d)), .val (.int k), .val (.exc1 c f d), .val d, .no, .no, .sto M] := by
    rw [ev_set (h2 x6) rfl, put1_succ, put1_succ, put1_succ, put1_succ, put1_succ, put1_succ, put1_zero h6]
  unfold body4
  rw [ev_seq s1]
  show S.seq (S.set 6 iteE) _ _ = _
  rw [ev_seq s2]
  rw [ev_seq (ev_ifN (ev_or (ev_val (ev_bin (ev_c1 (ev_var rfl) r6 hrp) (ev_c1 (ev_var rfl) r6 hrp) rd_str rd_str (neD_str s)) rd_bl) (ev_or (ev_not (ev_val (ev_c1 (ev_var rfl) rd_x1 h3) rd_bl)) (ev_not (ev_val (ev_c1 (ev_var rfl) rd_x1 h4) rd_bl)))))]
  show S.seq (S.ifs (Tt.val (E.bin neD (E.call F__law_flags (A.cons (E.var 5) A.nil)) compE)) (S.seq (S.ret (E.cst (.bl false))) S.nop) S.nop) S.nop _ = _
  rw [ev_seq (ev_ifN (ev_val (ev_bin (ev_call (ev_cons (ev_var rfl) rfl ev_nil) hf) hc rd_lst rd_lst he) rd_bl))]
  rfl
theorem step0 {d : D} {s : Str} {a0 a1 : D} {x5 x6 : Slot} {M : List D} (h5 : nst x5) (h6 : nst x6) (hrp : rpD d = some (.str s)) (np : ∀ n, d ≠ .ptr n) :
    body4 [.val a0, .val a1, .val d, .val (.lst (xs d)), .val (.int 0), x5, x6, .no, .no, .sto M] = .nx [.val a0, .val a1, .val d, .val (.lst (xs d)), .val (.int 0), .val (.exc1 "InvalidNumber" "given" d), .val d, .no, .no, .sto M] :=
  step (c := "InvalidNumber") (f := "given") h5 h6 hrp np (by kernel_rfl) (fun x6 => by kernel_rfl) (by kernel_rfl) (by kernel_rfl) (by kernel_rfl) (by kernel_rfl) (by kernel_rfl)
theorem step1 {d : D} {s : Str} {a0 a1 : D} {x5 x6 : Slot} {M : List D} (h5 : nst x5) (h6 : nst x6) (hrp : rpD d = some (.str s)) (np : ∀ n, d ≠ .ptr n) :
    body4 [.val a0, .val a1, .val d, .val (.lst (xs d)), .val (.int 1), x5, x6, .no, .no, .sto M] = .nx [.val a0, .val a1, .val d, .val (.lst (xs d)), .val (.int 1), .val (.exc1 "InvalidLot" "given" d), .val d, .no, .no, .sto M] :=
  step (c := "InvalidLot") (f := "given") h5 h6 hrp np (by kernel_rfl) (fun x6 => by kernel_rfl) (by kernel_rfl) (by kernel_rfl) (by kernel_rfl) (by kernel_rfl) (by kernel_rfl)
theorem step2 {d : D} {s : Str} {a0 a1 : D} {x5 x6 : Slot} {M : List D} (h5 : nst x5) (h6 : nst x6) (hrp : rpD d = some (.str s)) (np : ∀ n, d ≠ .ptr n) :
    body4 [.val a0, .val a1, .val d, .val (.lst (xs d)), .val (.int 2), x5, x6, .no, .no, .sto M] = .nx [.val a0, .val a1, .val d, .val (.lst (xs d)), .val (.int 2), .val (.exc1 "InvalidRound" "given" d), .val d, .no, .no, .sto M] :=
  step (c := "InvalidRound") (f := "given") h5 h6 hrp np (by kernel_rfl) (fun x6 => by kernel_rfl) (by kernel_rfl) (by kernel_rfl) (by kernel_rfl) (by kernel_rfl) (by kernel_rfl)
theorem step3 {d : D} {s : Str} {a0 a1 : D} {x5 x6 : Slot} {M : List D} (h5 : nst x5) (h6 : nst x6) (hrp : rpD d = some (.str s)) (np : ∀ n, d ≠ .ptr n) :
    body4 [.val a0, .val a1, .val d, .val (.lst (xs d)), .val (.int 3), x5, x6, .no, .no, .sto M] = .nx [.val a0, .val a1, .val d, .val (.lst (xs d)), .val (.int 3), .val (.exc1 "InvalidLine" "given" d), .val d, .no, .no, .sto M] :=
  step (c := "InvalidLine") (f := "given") h5 h6 hrp np (by kernel_rfl) (fun x6 => by kernel_rfl) (by kernel_rfl) (by kernel_rfl) (by kernel_rfl) (by kernel_rfl) (by kernel_rfl)
theorem step4 {d : D} {s : Str} {a0 a1 : D} {x5 x6 : Slot} {M : List D} (h5 : nst x5) (h6 : nst x6) (hrp : rpD d = some (.str s)) (np : ∀ n, d ≠ .ptr n) :
    body4 [.val a0, .val a1, .val d, .val (.lst (xs d)), .val (.int 4), x5, x6, .no, .no, .sto M] = .nx [.val a0, .val a1, .val d, .val (.lst (xs d)), .val (.int 4), .val (.exc1 "NotAWeb" "given" d), .val d, .no, .no, .sto M] :=
  step (c := "NotAWeb") (f := "given") h5 h6 hrp np (by kernel_rfl) (fun x6 => by kernel_rfl) (by kernel_rfl) (by kernel_rfl) (by kernel_rfl) (by kernel_rfl) (by kernel_rfl)
theorem step5 {d : D} {s : Str} {a0 a1 : D} {x5 x6 : Slot} {M : List D} (h5 : nst x5) (h6 : nst x6) (hrp : rpD d = some (.str s)) (np : ∀ n, d ≠ .ptr n) :
    body4 [.val a0, .val a1, .val d, .val (.lst (xs d)), .val (.int 5), x5, x6, .no, .no, .sto M] = .nx [.val a0, .val a1, .val d, .val (.lst (xs d)), .val (.int 5), .val (.exc1 "NotAParty" "given" d), .val d, .no, .no, .sto M] :=
  step (c := "NotAParty") (f := "given") h5 h6 hrp np (by kernel_rfl) (fun x6 => by kernel_rfl) (by kernel_rfl) (by kernel_rfl) (by kernel_rfl) (by kernel_rfl) (by kernel_rfl)
theorem step6 {d : D} {s : Str} {a0 a1 : D} {x5 x6 : Slot} {M : List D} (h5 : nst x5) (h6 : nst x6) (hrp : rpD d = some (.str s)) (np : ∀ n, d ≠ .ptr n) :
    body4 [.val a0, .val a1, .val d, .val (.lst (xs d)), .val (.int 6), x5, x6, .no, .no, .sto M] = .nx [.val a0, .val a1, .val d, .val (.lst (xs d)), .val (.int 6), .val (.exc1 "InvalidFriends" "index" d), .val d, .no, .no, .sto M] :=
  step (c := "InvalidFriends") (f := "index") h5 h6 hrp np (by kernel_rfl) (fun x6 => by kernel_rfl) (by kernel_rfl) (by kernel_rfl) (by kernel_rfl) (by kernel_rfl) (by kernel_rfl)
theorem step7 {d : D} {s : Str} {a0 a1 : D} {x5 x6 : Slot} {M : List D} (h5 : nst x5) (h6 : nst x6) (hrp : rpD d = some (.str s)) (np : ∀ n, d ≠ .ptr n) :
    body4 [.val a0, .val a1, .val d, .val (.lst (xs d)), .val (.int 7), x5, x6, .no, .no, .sto M] = .nx [.val a0, .val a1, .val d, .val (.lst (xs d)), .val (.int 7), .val (.exc1 "InvalidFoes" "index" d), .val d, .no, .no, .sto M] :=
  step (c := "InvalidFoes") (f := "index") h5 h6 hrp np (by kernel_rfl) (fun x6 => by kernel_rfl) (by kernel_rfl) (by kernel_rfl) (by kernel_rfl) (by kernel_rfl) (by kernel_rfl)
theorem step8 {d : D} {s : Str} {a0 a1 : D} {x5 x6 : Slot} {M : List D} (h5 : nst x5) (h6 : nst x6) (hrp : rpD d = some (.str s)) (np : ∀ n, d ≠ .ptr n) :
    body4 [.val a0, .val a1, .val d, .val (.lst (xs d)), .val (.int 8), x5, x6, .no, .no, .sto M] = .nx [.val a0, .val a1, .val d, .val (.lst (xs d)), .val (.int 8), .val (.exc1 "InvalidPrices" "index" d), .val d, .no, .no, .sto M] :=
  step (c := "InvalidPrices") (f := "index") h5 h6 hrp np (by kernel_rfl) (fun x6 => by kernel_rfl) (by kernel_rfl) (by kernel_rfl) (by kernel_rfl) (by kernel_rfl) (by kernel_rfl)
theorem step9 {d : D} {s : Str} {a0 a1 : D} {x5 x6 : Slot} {M : List D} (h5 : nst x5) (h6 : nst x6) (hrp : rpD d = some (.str s)) (np : ∀ n, d ≠ .ptr n) :
    body4 [.val a0, .val a1, .val d, .val (.lst (xs d)), .val (.int 9), x5, x6, .no, .no, .sto M] = .nx [.val a0, .val a1, .val d, .val (.lst (xs d)), .val (.int 9), .val (.exc1 "InvalidOpen" "index" d), .val d, .no, .no, .sto M] :=
  step (c := "InvalidOpen") (f := "index") h5 h6 hrp np (by kernel_rfl) (fun x6 => by kernel_rfl) (by kernel_rfl) (by kernel_rfl) (by kernel_rfl) (by kernel_rfl) (by kernel_rfl)
theorem step10 {d : D} {s : Str} {a0 a1 : D} {x5 x6 : Slot} {M : List D} (h5 : nst x5) (h6 : nst x6) (hrp : rpD d = some (.str s)) (np : ∀ n, d ≠ .ptr n) :
    body4 [.val a0, .val a1, .val d, .val (.lst (xs d)), .val (.int 10), x5, x6, .no, .no, .sto M] = .nx [.val a0, .val a1, .val d, .val (.lst (xs d)), .val (.int 10), .val (.exc1 "InvalidWalk" "index" d), .val d, .no, .no, .sto M] :=
  step (c := "InvalidWalk") (f := "index") h5 h6 hrp np (by kernel_rfl) (fun x6 => by kernel_rfl) (by kernel_rfl) (by kernel_rfl) (by kernel_rfl) (by kernel_rfl) (by kernel_rfl)
theorem step11 {d : D} {s : Str} {a0 a1 : D} {x5 x6 : Slot} {M : List D} (h5 : nst x5) (h6 : nst x6) (hrp : rpD d = some (.str s)) (np : ∀ n, d ≠ .ptr n) :
    body4 [.val a0, .val a1, .val d, .val (.lst (xs d)), .val (.int 11), x5, x6, .no, .no, .sto M] = .nx [.val a0, .val a1, .val d, .val (.lst (xs d)), .val (.int 11), .val (.exc1 "InvalidDeed" "index" d), .val d, .no, .no, .sto M] :=
  step (c := "InvalidDeed") (f := "index") h5 h6 hrp np (by kernel_rfl) (fun x6 => by kernel_rfl) (by kernel_rfl) (by kernel_rfl) (by kernel_rfl) (by kernel_rfl) (by kernel_rfl)
theorem step12 {d : D} {s : Str} {a0 a1 : D} {x5 x6 : Slot} {M : List D} (h5 : nst x5) (h6 : nst x6) (hrp : rpD d = some (.str s)) (np : ∀ n, d ≠ .ptr n) :
    body4 [.val a0, .val a1, .val d, .val (.lst (xs d)), .val (.int 12), x5, x6, .no, .no, .sto M] = .nx [.val a0, .val a1, .val d, .val (.lst (xs d)), .val (.int 12), .val (.exc1 "InvalidText" "index" d), .val d, .no, .no, .sto M] :=
  step (c := "InvalidText") (f := "index") h5 h6 hrp np (by kernel_rfl) (fun x6 => by kernel_rfl) (by kernel_rfl) (by kernel_rfl) (by kernel_rfl) (by kernel_rfl) (by kernel_rfl)
theorem step13 {d : D} {s : Str} {a0 a1 : D} {x5 x6 : Slot} {M : List D} (h5 : nst x5) (h6 : nst x6) (hrp : rpD d = some (.str s)) (np : ∀ n, d ≠ .ptr n) :
    body4 [.val a0, .val a1, .val d, .val (.lst (xs d)), .val (.int 13), x5, x6, .no, .no, .sto M] = .nx [.val a0, .val a1, .val d, .val (.lst (xs d)), .val (.int 13), .val (.exc1 "Barred" "reason" d), .val d, .no, .no, .sto M] :=
  step (c := "Barred") (f := "reason") h5 h6 hrp np (by kernel_rfl) (fun x6 => by kernel_rfl) (by kernel_rfl) (by kernel_rfl) (by kernel_rfl) (by kernel_rfl) (by kernel_rfl)
def okSt (k : Int) : Prop := ∀ (d : D) (s : Str) (a0 a1 : D) (x5 x6 : Slot) (M : List D), nst x5 → nst x6 → rpD d = some (.str s) → (∀ n, d ≠ .ptr n) → ∃ y5 y6, nst y5 ∧ nst y6 ∧
  body4 [.val a0, .val a1, .val d, .val (.lst (xs d)), .val (.int k), x5, x6, .no, .no, .sto M] = .nx [.val a0, .val a1, .val d, .val (.lst (xs d)), .val (.int k), y5, y6, .no, .no, .sto M]
theorem ok14 : ∀ k ∈ ([0, 1, 2, 3, 4, 5, 6, 7, 8, 9, 10, 11, 12, 13] : List Int), okSt k := by
  intro k hk
  simp only [List.mem_cons, List.not_mem_nil, or_false] at hk
  rcases hk with rfl | rfl | rfl | rfl | rfl | rfl | rfl | rfl | rfl | rfl | rfl | rfl | rfl | rfl
  · exact fun d s a0 a1 x5 x6 M h5 h6 hrp np => ⟨_, _, nst_val, nst_val, step0 h5 h6 hrp np⟩
  · exact fun d s a0 a1 x5 x6 M h5 h6 hrp np => ⟨_, _, nst_val, nst_val, step1 h5 h6 hrp np⟩
  · exact fun d s a0 a1 x5 x6 M h5 h6 hrp np => ⟨_, _, nst_val, nst_val, step2 h5 h6 hrp np⟩
  · exact fun d s a0 a1 x5 x6 M h5 h6 hrp np => ⟨_, _, nst_val, nst_val, step3 h5 h6 hrp np⟩
  · exact fun d s a0 a1 x5 x6 M h5 h6 hrp np => ⟨_, _, nst_val, nst_val, step4 h5 h6 hrp np⟩
  · exact fun d s a0 a1 x5 x6 M h5 h6 hrp np => ⟨_, _, nst_val, nst_val, step5 h5 h6 hrp np⟩
  · exact fun d s a0 a1 x5 x6 M h5 h6 hrp np => ⟨_, _, nst_val, nst_val, step6 h5 h6 hrp np⟩
  · exact fun d s a0 a1 x5 x6 M h5 h6 hrp np => ⟨_, _, nst_val, nst_val, step7 h5 h6 hrp np⟩
  · exact fun d s a0 a1 x5 x6 M h5 h6 hrp np => ⟨_, _, nst_val, nst_val, step8 h5 h6 hrp np⟩
  · exact fun d s a0 a1 x5 x6 M h5 h6 hrp np => ⟨_, _, nst_val, nst_val, step9 h5 h6 hrp np⟩
  · exact fun d s a0 a1 x5 x6 M h5 h6 hrp np => ⟨_, _, nst_val, nst_val, step10 h5 h6 hrp np⟩
  · exact fun d s a0 a1 x5 x6 M h5 h6 hrp np => ⟨_, _, nst_val, nst_val, step11 h5 h6 hrp np⟩
  · exact fun d s a0 a1 x5 x6 M h5 h6 hrp np => ⟨_, _, nst_val, nst_val, step12 h5 h6 hrp np⟩
  · exact fun d s a0 a1 x5 x6 M h5 h6 hrp np => ⟨_, _, nst_val, nst_val, step13 h5 h6 hrp np⟩
theorem loop_nx {tg : Tgt} {b : FS} {d : D} {ds : List D} {e e1 e2 : Ev} (h1 : bindT tg d e = some e1) (h2 : b e1 = .nx e2) : loopS tg b (d :: ds) e = loopS tg b ds e2 := by
  rw [loopS, h1]; dsimp only; rw [h2]
theorem loop4 {d : D} {s : Str} {a0 a1 : D} {M : List D} (hrp : rpD d = some (.str s)) (np : ∀ n, d ≠ .ptr n) : ∀ (ks : List Int), (∀ k ∈ ks, okSt k) → ∀ (x4 x5 x6 : Slot), nst x4 → nst x5 → nst x6 → ∃ y4 y5 y6, nst y4 ∧ nst y5 ∧ nst y6 ∧
    loopS (.nm 4) body4 (ks.map .int) [.val a0, .val a1, .val d, .val (.lst (xs d)), x4, x5, x6, .no, .no, .sto M] = .nx [.val a0, .val a1, .val d, .val (.lst (xs d)), y4, y5, y6, .no, .no, .sto M]
  | [], _, x4, x5, x6, h4, h5, h6 => ⟨x4, x5, x6, h4, h5, h6, rfl⟩
  | k :: ks, hk, x4, x5, x6, h4, h5, h6 => by
    obtain ⟨y5, y6, g5, g6, e⟩ := hk k List.mem_cons_self d s a0 a1 x5 x6 M h5 h6 hrp np
    obtain ⟨z4, z5, z6, i4, i5, i6, e2⟩ := loop4 (a0 := a0) (a1 := a1) (M := M) hrp np ks (fun k h => hk k (List.mem_cons_of_mem _ h)) (.val (.int k)) y5 y6 nst_val g5 g6
    refine ⟨z4, z5, z6, i4, i5, i6, ?_⟩
    rw [List.map_cons, loop_nx (e1 := [.val a0, .val a1, .val d, .val (.lst (xs d)), .val (.int k), x5, x6, .no, .no, .sto M]) ?_ e, e2]
    rw [bindT, put1_succ, put1_succ, put1_succ, put1_succ, put1_zero h4]
theorem rng14 : rngD 0 14 = ([0, 1, 2, 3, 4, 5, 6, 7, 8, 9, 10, 11, 12, 13] : List Int).map .int := by kernel_rfl
theorem it14 {d : D} {a0 a1 a2 : D} {x4 x5 x6 : Slot} {M : List D} : I.rng1 (A.cons (E.c1 lenD (E.var 3)) A.nil) [.val a0, .val a1, .val a2, .val (.lst (xs d)), x4, x5, x6, .no, .no, .sto M] = .ok (rngD 0 14) [.val a0, .val a1, .val a2, .val (.lst (xs d)), x4, x5, x6, .no, .no, .sto M] := by kernel_rfl
theorem ev_for {it : FI} {tg : Tgt} {b : FS} {e e1 : Ev} {ds : List D} (h : it e = .ok ds e1) : S.for_ it tg b e = loopS tg b ds e1 := by
  unfold S.for_; rw [h, Out.toS_ok]
theorem run3 {d : D} {s : Str} {a0 a1 : D} {M : List D} (hrp : rpD d = some (.str s)) (np : ∀ n, d ≠ .ptr n) (x3 x4 x5 x6 : Slot) (h4 : nst x4) (h5 : nst x5) (h6 : nst x6) : ∃ y4 y5 y6, nst y4 ∧ nst y5 ∧ nst y6 ∧
    body3 [.val a0, .val a1, .val d, .val (.lst (xs d)), x4, x5, x6, .no, .no, .sto M] = .nx [.val a0, .val a1, .val d, .val (.lst (xs d)), y4, y5, y6, .no, .no, .sto M] := by
  obtain ⟨z4, z5, z6, i4, i5, i6, e2⟩ := loop4 (a0 := a0) (a1 := a1) (M := M) hrp np _ ok14 x4 x5 x6 h4 h5 h6
  refine ⟨z4, z5, z6, i4, i5, i6, ?_⟩
  unfold body3
  rw [ev_seq (e1 := [.val a0, .val a1, .val d, .val (.lst (xs d)), z4, z5, z6, .no, .no, .sto M])]
  · rfl
  · rw [ev_for it14, rng14]; exact e2
theorem run2 {d : D} {s : Str} {a0 a1 : D} {M : List D} (hrp : rpD d = some (.str s)) (np : ∀ n, d ≠ .ptr n) (x3 x4 x5 x6 : Slot) (h3 : nst x3) (h4 : nst x4) (h5 : nst x5) (h6 : nst x6) : ∃ y3 y4 y5 y6, nst y3 ∧ nst y4 ∧ nst y5 ∧ nst y6 ∧
    body2 [.val a0, .val a1, .val d, x3, x4, x5, x6, .no, .no, .sto M] = .nx [.val a0, .val a1, .val d, y3, y4, y5, y6, .no, .no, .sto M] := by
  obtain ⟨p4, p5, p6, q4, q5, q6, e1⟩ := run3 (a0 := a0) (a1 := a1) (M := M) hrp np x3 x4 x5 x6 h4 h5 h6
  obtain ⟨z4, z5, z6, i4, i5, i6, e2⟩ := run3 (a0 := a0) (a1 := a1) (M := M) hrp np x3 p4 p5 p6 q4 q5 q6
  refine ⟨.val (.lst (xs d)), z4, z5, z6, nst_val, i4, i5, i6, ?_⟩
  unfold body2
  have it : I.seq (E.call F__law_made (A.cons (E.var 2) A.nil)) [.val a0, .val a1, .val d, x3, x4, x5, x6, .no, .no, .sto M] = .ok [.lst (xs d), .lst (xs d)] [.val a0, .val a1, .val d, x3, x4, x5, x6, .no, .no, .sto M] := by
    unfold I.seq
    rw [ev_call (ev_cons (ev_var rfl) rfl ev_nil) (F_made d)]
    rfl
  rw [ev_seq (e1 := [.val a0, .val a1, .val d, .val (.lst (xs d)), z4, z5, z6, .no, .no, .sto M])]
  · rfl
  · rw [ev_for it, loop_nx (e1 := [.val a0, .val a1, .val d, .val (.lst (xs d)), x4, x5, x6, .no, .no, .sto M]) ?_ e1, loop_nx (e1 := [.val a0, .val a1, .val d, .val (.lst (xs d)), p4, p5, p6, .no, .no, .sto M]) ?_ e2]
    · rfl
    · rw [bindT, put1_succ, put1_succ, put1_succ, put1_zero nst_val]
    · rw [bindT, put1_succ, put1_succ, put1_succ, put1_zero h3]
theorem loop2 {a0 a1 : D} {M : List D} : ∀ (ds : List D), (∀ d ∈ ds, (∃ s, rpD d = some (.str s)) ∧ ∀ n, d ≠ .ptr n) → ∀ (x2 x3 x4 x5 x6 : Slot), nst x2 → nst x3 → nst x4 → nst x5 → nst x6 → ∃ y2 y3 y4 y5 y6, nst y2 ∧ nst y3 ∧ nst y4 ∧ nst y5 ∧ nst y6 ∧
    loopS (.nm 2) body2 ds [.val a0, .val a1, x2, x3, x4, x5, x6, .no, .no, .sto M] = .nx [.val a0, .val a1, y2, y3, y4, y5, y6, .no, .no, .sto M]
  | [], _, x2, x3, x4, x5, x6, h2, h3, h4, h5, h6 => ⟨x2, x3, x4, x5, x6, h2, h3, h4, h5, h6, rfl⟩
  | d :: ds, hd, x2, x3, x4, x5, x6, h2, h3, h4, h5, h6 => by
    obtain ⟨⟨s, hrp⟩, np⟩ := hd d List.mem_cons_self
    obtain ⟨p3, p4, p5, p6, q3, q4, q5, q6, e1⟩ := run2 (a0 := a0) (a1 := a1) (M := M) hrp np x3 x4 x5 x6 h3 h4 h5 h6
    obtain ⟨z2, z3, z4, z5, z6, i2, i3, i4, i5, i6, e2⟩ := loop2 (a0 := a0) (a1 := a1) (M := M) ds (fun k h => hd k (List.mem_cons_of_mem _ h)) (.val d) p3 p4 p5 p6 nst_val q3 q4 q5 q6
    refine ⟨z2, z3, z4, z5, z6, i2, i3, i4, i5, i6, ?_⟩
    rw [loop_nx (e1 := [.val a0, .val a1, .val d, x3, x4, x5, x6, .no, .no, .sto M]) ?_ e1, e2]
    rw [bindT, put1_succ, put1_succ, put1_zero h2]
end K99
-- K99r
set_option maxRecDepth 100000
set_option maxHeartbeats 8000000
/-! K99: the plain law, the end. -/
namespace K99
open PySem PySem.Spec PyProof.Rows L2 DL
theorem ev_sl {f : FE} {l h : FO1} {e e1 e2 e3 : Ev} {a : EV} {lo hi : Option Int} {d z : D} (h1 : f e = .ok a e1) (h2 : l e1 = .ok lo e2) (h3 : h e2 = .ok hi e3) (h4 : rd e3 a = some d) (h5 : sliceD d lo hi = some z) : E.sl f l h e = .ok (.dv z) e3 := by
  unfold E.sl; rw [h1, Out.bind_ok, h2, Out.bind_ok, h3, Out.bind_ok, h4]; dsimp only; rw [h5]
theorem ev_at {f : FE} {e e1 : Ev} {a : EV} {i : Int} (h1 : f e = .ok a e1) (h2 : rd e1 a = some (.int i)) : P.at f e = .ok (some i) e1 := by
  unfold P.at; rw [h1, Out.bind_ok, h2]
theorem ev_iseq {f : FE} {e e1 e2 : Ev} {a : EV} {d : D} {ds : List D} (h1 : f e = .ok a e1) (h2 : frz e1 a = some (d, e2)) (h3 : itemsD d = some ds) : I.seq f e = .ok ds e2 := by
  unfold I.seq; rw [h1, Out.bind_ok, h2]; dsimp only; rw [h3]
theorem cut_mem {L : List D} {lo hi : Option Int} {d : D} (h : d ∈ DL.cutD L lo hi) : d ∈ L := by
  unfold DL.cutD at h
  exact List.mem_of_mem_drop (List.mem_of_mem_take h)
theorem B_right : B__law_right = S.seq (S.for_ (I.seq (E.sl (E.callM F__law_things (A.cons (E.var 0) A.nil)) (P.at (E.var 1)) P.no)) (.nm 2) body2) (S.seq (S.set 7 (E.fz (E.lst (A.cons (E.x0 "NothingToUndo") (A.cons (E.x0 "NotInCamps") A.nil))))) (S.seq (S.for_ (I.rng1 (A.cons (E.cst (.int 2)) A.nil)) (.nm 4) body5) (S.seq (S.ret (E.and (E.c1 (isV errs) (E.x0 "CampError")) (E.bin eqD (E.call F__law_flags (A.cons (E.x0 "CampError") A.nil)) (E.bin mulW (E.fz (E.lst (A.cons (E.cst (.bl false)) A.nil))) (E.cst (.int 16)))))) S.nop))) := rfl
theorem F_right {M : List D} {n : Nat} {a b c most : Int} (hn : M[n]? = some (.lst [.int a, .int b, .int c])) : ∃ a' b' c', F__law_right M [.ptr n, .int most] = .ok (.bl true) (M.set n (.lst [.int a', .int b', .int c'])) := by
  obtain ⟨r, a', b', c', ht, r1, r2⟩ := F_things hn
  refine ⟨a', b', c', ?_⟩
  have e0 : F__law_right M [.ptr n, .int most] = runM 9 B__law_right M [.ptr n, .int most] := rfl
  have e1 : envOf [.ptr n, .int most] (9 - [D.ptr n, D.int most].length) [.sto M] = [.val (.ptr n), .val (.int most), .no, .no, .no, .no, .no, .no, .no, .sto M] := rfl
  have it : (I.seq (E.sl (E.callM F__law_things (A.cons (E.var 0) A.nil)) (P.at (E.var 1)) P.no)) [.val (.ptr n), .val (.int most), .no, .no, .no, .no, .no, .no, .no, .sto M] = .ok (DL.cutD (thingsL r) (some most) none) [.val (.ptr n), .val (.int most), .no, .no, .no, .no, .no, .no, .no, .sto (M.set n (.lst [.int a', .int b', .int c']))] :=
    ev_iseq (ev_sl (ev_callM (ev_cons (ev_var rfl) rfl ev_nil) rfl ht) (ev_at (ev_var rfl) rd_int) rfl rd_lst rfl) rfl rfl
  obtain ⟨y2, y3, y4, y5, y6, g2, g3, g4, g5, g6, lp⟩ := loop2 (a0 := .ptr n) (a1 := .int most) (M := M.set n (.lst [.int a', .int b', .int c'])) (DL.cutD (thingsL r) (some most) none) (fun d hd => rp_ok r1 r2 d (cut_mem hd)) .no .no .no .no .no nst_no nst_no nst_no nst_no nst_no
  have s7 : (S.set 7 (E.fz (E.lst (A.cons (E.x0 "NothingToUndo") (A.cons (E.x0 "NotInCamps") A.nil))))) [.val (.ptr n), .val (.int most), y2, y3, y4, y5, y6, .no, .no, .sto (M.set n (.lst [.int a', .int b', .int c']))] = .nx [.val (.ptr n), .val (.int most), y2, y3, y4, y5, y6, .val (.lst [.exc0 "NothingToUndo", .exc0 "NotInCamps"]), .no, .sto (M.set n (.lst [.int a', .int b', .int c']))] := by kernel_rfl
  have b0 : body5 [.val (.ptr n), .val (.int most), y2, y3, .val (.int 0), y5, y6, .val (.lst [.exc0 "NothingToUndo", .exc0 "NotInCamps"]), .no, .sto (M.set n (.lst [.int a', .int b', .int c']))] = .nx [.val (.ptr n), .val (.int most), y2, y3, .val (.int 0), y5, y6, .val (.lst [.exc0 "NothingToUndo", .exc0 "NotInCamps"]), .no, .sto (M.set n (.lst [.int a', .int b', .int c']))] := by kernel_rfl
  have b1 : body5 [.val (.ptr n), .val (.int most), y2, y3, .val (.int 1), y5, y6, .val (.lst [.exc0 "NothingToUndo", .exc0 "NotInCamps"]), .no, .sto (M.set n (.lst [.int a', .int b', .int c']))] = .nx [.val (.ptr n), .val (.int most), y2, y3, .val (.int 1), y5, y6, .val (.lst [.exc0 "NothingToUndo", .exc0 "NotInCamps"]), .no, .sto (M.set n (.lst [.int a', .int b', .int c']))] := by kernel_rfl
  have i2 : (I.rng1 (A.cons (E.cst (.int 2)) A.nil)) [.val (.ptr n), .val (.int most), y2, y3, y4, y5, y6, .val (.lst [.exc0 "NothingToUndo", .exc0 "NotInCamps"]), .no, .sto (M.set n (.lst [.int a', .int b', .int c']))] = .ok [.int 0, .int 1] [.val (.ptr n), .val (.int most), y2, y3, y4, y5, y6, .val (.lst [.exc0 "NothingToUndo", .exc0 "NotInCamps"]), .no, .sto (M.set n (.lst [.int a', .int b', .int c']))] := by kernel_rfl
  have rt : (S.ret (E.and (E.c1 (isV errs) (E.x0 "CampError")) (E.bin eqD (E.call F__law_flags (A.cons (E.x0 "CampError") A.nil)) (E.bin mulW (E.fz (E.lst (A.cons (E.cst (.bl false)) A.nil))) (E.cst (.int 16)))))) [.val (.ptr n), .val (.int most), y2, y3, .val (.int 1), y5, y6, .val (.lst [.exc0 "NothingToUndo", .exc0 "NotInCamps"]), .no, .sto (M.set n (.lst [.int a', .int b', .int c']))] = .rt (.bl true) [.val (.ptr n), .val (.int most), y2, y3, .val (.int 1), y5, y6, .val (.lst [.exc0 "NothingToUndo", .exc0 "NotInCamps"]), .no, .sto (M.set n (.lst [.int a', .int b', .int c']))] := by kernel_rfl
  rw [e0]
  unfold runM
  rw [e1, B_right, ev_seq ((ev_for it).trans lp), ev_seq s7, ev_seq (e1 := [.val (.ptr n), .val (.int most), y2, y3, .val (.int 1), y5, y6, .val (.lst [.exc0 "NothingToUndo", .exc0 "NotInCamps"]), .no, .sto (M.set n (.lst [.int a', .int b', .int c']))]), ev_rt rt]
  · rfl
  · rw [ev_for i2, loop_nx (e1 := [.val (.ptr n), .val (.int most), y2, y3, .val (.int 0), y5, y6, .val (.lst [.exc0 "NothingToUndo", .exc0 "NotInCamps"]), .no, .sto (M.set n (.lst [.int a', .int b', .int c']))]) ?_ b0,
      loop_nx (e1 := [.val (.ptr n), .val (.int most), y2, y3, .val (.int 1), y5, y6, .val (.lst [.exc0 "NothingToUndo", .exc0 "NotInCamps"]), .no, .sto (M.set n (.lst [.int a', .int b', .int c']))]) ?_ b1]
    · rfl
    · rw [bindT, put1_succ, put1_succ, put1_succ, put1_succ, put1_zero nst_val]
    · rw [bindT, put1_succ, put1_succ, put1_succ, put1_succ, put1_zero g4]
/-! ### law -/
def bodyM : FS := (S.seq (S.ifs (Tt.not (Tt.val (E.callM F__law_right (A.cons (E.var 2) (A.cons (E.var 3) A.nil))))) (S.seq (S.ret (E.cst (.bl false)))
  S.nop) S.nop)
  S.nop)
def bodyL : FS := (S.seq (S.set 2 (E.callM F__law_pool (A.cons (E.var 0) (A.cons (E.var 1) A.nil)))) (S.seq (S.for_ (I.seq (E.fz (E.lst (A.cons (E.cst (.int 0)) (A.cons (E.cst (.int 1)) A.nil))))) (.nm 3) bodyM) S.nop))
theorem B_law_eq : B_law = S.seq (S.for_ (I.rng1 (A.cons (E.cb max2D (A.cons (E.cst (.int 2)) (A.cons (E.cb min2D (A.cons (E.c1 lenD (E.var 0)) (A.cons (E.cst (.int 3)) A.nil))) A.nil))) A.nil)) (.nm 1) bodyL) (S.seq (S.ret (E.cst (.bl true))) S.nop) := rfl
theorem bodyM_ok {ns : List Int} {k most a b c : Int} {n : Nat} {M : List D} (hn : M[n]? = some (.lst [.int a, .int b, .int c])) : ∃ a' b' c', bodyM [.val (.scr ns), .val (.int k), .val (.ptr n), .val (.int most), .sto M] = .nx [.val (.scr ns), .val (.int k), .val (.ptr n), .val (.int most), .sto (M.set n (.lst [.int a', .int b', .int c']))] := by
  obtain ⟨a', b', c', h⟩ := F_right (most := most) hn
  refine ⟨a', b', c', ?_⟩
  unfold bodyM
  rw [ev_seq (ev_ifN (ev_not (ev_val (ev_callM (ev_cons (ev_var rfl) rfl (ev_cons (ev_var rfl) rfl ev_nil)) rfl h) rd_bl)))]
  rfl
theorem bodyL_ok {ns : List Int} {k : Int} {x2 x3 : Slot} {M : List D} (h2 : nst x2) (h3 : nst x3) : ∃ y2 y3 M', nst y2 ∧ nst y3 ∧ bodyL [.val (.scr ns), .val (.int k), x2, x3, .sto M] = .nx [.val (.scr ns), .val (.int k), y2, y3, .sto M'] := by
  obtain ⟨a, b, hp⟩ := F_pool M ns k
  have at0 : (M ++ [D.lst [.int a, .int b, .int 0]])[M.length]? = some (.lst [.int a, .int b, .int 0]) := by simp
  obtain ⟨a1, b1, c1, m0⟩ := bodyM_ok (ns := ns) (k := k) (most := 0) at0
  have at1 : ((M ++ [D.lst [.int a, .int b, .int 0]]).set M.length (.lst [.int a1, .int b1, .int c1]))[M.length]? = some (.lst [.int a1, .int b1, .int c1]) := List.getElem?_set_self (by simp)
  obtain ⟨a2, b2, c2, m1⟩ := bodyM_ok (ns := ns) (k := k) (most := 1) at1
  refine ⟨.val (.ptr M.length), .val (.int 1), ((M ++ [D.lst [.int a, .int b, .int 0]]).set M.length (.lst [.int a1, .int b1, .int c1])).set M.length (.lst [.int a2, .int b2, .int c2]), nst_val, nst_val, ?_⟩
  have s2 : (S.set 2 (E.callM F__law_pool (A.cons (E.var 0) (A.cons (E.var 1) A.nil)))) [.val (.scr ns), .val (.int k), x2, x3, .sto M] = .nx [.val (.scr ns), .val (.int k), .val (.ptr M.length), x3, .sto (M ++ [.lst [.int a, .int b, .int 0]])] := by
    rw [ev_set (ev_callM (ev_cons (ev_var rfl) rfl (ev_cons (ev_var rfl) rfl ev_nil)) rfl hp) rfl]
    rw [setSto_cons, setSto_cons, setSto_cons, setSto_cons, setSto_one, put1_succ, put1_succ, put1_zero h2]
  have it : (I.seq (E.fz (E.lst (A.cons (E.cst (.int 0)) (A.cons (E.cst (.int 1)) A.nil))))) [.val (.scr ns), .val (.int k), .val (.ptr M.length), x3, .sto (M ++ [.lst [.int a, .int b, .int 0]])] = .ok [.int 0, .int 1] [.val (.scr ns), .val (.int k), .val (.ptr M.length), x3, .sto (M ++ [.lst [.int a, .int b, .int 0]])] := by kernel_rfl
  have f1 : S.for_ (I.seq (E.fz (E.lst (A.cons (E.cst (.int 0)) (A.cons (E.cst (.int 1)) A.nil))))) (.nm 3) bodyM [.val (.scr ns), .val (.int k), .val (.ptr M.length), x3, .sto (M ++ [.lst [.int a, .int b, .int 0]])] = .nx [.val (.scr ns), .val (.int k), .val (.ptr M.length), .val (.int 1), .sto (((M ++ [D.lst [.int a, .int b, .int 0]]).set M.length (.lst [.int a1, .int b1, .int c1])).set M.length (.lst [.int a2, .int b2, .int c2]))] := by
    rw [ev_for it]
    have g1 : bindT (.nm 3) (.int 0) [.val (.scr ns), .val (.int k), .val (.ptr M.length), x3, .sto (M ++ [.lst [.int a, .int b, .int 0]])] = some [.val (.scr ns), .val (.int k), .val (.ptr M.length), .val (.int 0), .sto (M ++ [.lst [.int a, .int b, .int 0]])] := by
      rw [bindT, put1_succ, put1_succ, put1_succ, put1_zero h3]
    have g2 : bindT (.nm 3) (.int 1) [.val (.scr ns), .val (.int k), .val (.ptr M.length), .val (.int 0), .sto ((M ++ [D.lst [.int a, .int b, .int 0]]).set M.length (.lst [.int a1, .int b1, .int c1]))] = some [.val (.scr ns), .val (.int k), .val (.ptr M.length), .val (.int 1), .sto ((M ++ [D.lst [.int a, .int b, .int 0]]).set M.length (.lst [.int a1, .int b1, .int c1]))] := by
      rw [bindT, put1_succ, put1_succ, put1_succ, put1_zero nst_val]
    have k1 := @loop_nx (.nm 3) bodyM (.int 0) [.int 1] _ _ _ g1 m0
    have k2 := @loop_nx (.nm 3) bodyM (.int 1) [] _ _ _ g2 m1
    exact k1.trans (k2.trans (by rw [loopS]))
  unfold bodyL
  rw [ev_seq s2, ev_seq f1]
  rfl
theorem loopL {ns : List Int} : ∀ (ks : List Int) (x1 x2 x3 : Slot) (M : List D), nst x1 → nst x2 → nst x3 → ∃ y1 y2 y3 M', loopS (.nm 1) bodyL (ks.map .int) [.val (.scr ns), x1, x2, x3, .sto M] = .nx [.val (.scr ns), y1, y2, y3, .sto M']
  | [], x1, x2, x3, M, _, _, _ => ⟨x1, x2, x3, M, rfl⟩
  | k :: ks, x1, x2, x3, M, h1, h2, h3 => by
    obtain ⟨y2, y3, M1, g2, g3, e1⟩ := bodyL_ok (ns := ns) (k := k) (M := M) h2 h3
    obtain ⟨z1, z2, z3, M2, e2⟩ := loopL (ns := ns) ks (.val (.int k)) y2 y3 M1 nst_val g2 g3
    refine ⟨z1, z2, z3, M2, ?_⟩
    rw [List.map_cons, loop_nx (e1 := [.val (.scr ns), .val (.int k), x2, x3, .sto M]) ?_ e1, e2]
    rw [bindT, put1_succ, put1_zero h1]
theorem F_law_ok (ns : List Int) : ∃ M', F_law [] [.scr ns] = .ok (.bl true) M' := by
  have e0 : F_law [] [.scr ns] = runM 4 B_law [] [.scr ns] := rfl
  have e1 : envOf [.scr ns] (4 - [D.scr ns].length) [.sto []] = [.val (.scr ns), .no, .no, .no, .sto []] := rfl
  have it : ∃ ks : List Int, (I.rng1 (A.cons (E.cb max2D (A.cons (E.cst (.int 2)) (A.cons (E.cb min2D (A.cons (E.c1 lenD (E.var 0)) (A.cons (E.cst (.int 3)) A.nil))) A.nil))) A.nil)) [.val (.scr ns), .no, .no, .no, .sto []] = .ok (ks.map .int) [.val (.scr ns), .no, .no, .no, .sto []] := by
    have key : ∀ t : Int, 2 ≤ t → t ≤ 3 → max2D [.int 2, .int (if (3 : Int) < ns.length then 3 else ns.length)] = some (.int t) → ∃ ks : List Int, (I.rng1 (A.cons (E.cb max2D (A.cons (E.cst (.int 2)) (A.cons (E.cb min2D (A.cons (E.c1 lenD (E.var 0)) (A.cons (E.cst (.int 3)) A.nil))) A.nil))) A.nil)) [.val (.scr ns), .no, .no, .no, .sto []] = .ok (ks.map .int) [.val (.scr ns), .no, .no, .no, .sto []] := fun t h1 h2 h3 => by
      refine ⟨(List.range t.toNat).map fun j => (0 : Int) + (j : Nat), ?_⟩
      unfold I.rng1
      rw [ev_cons (ev_cb (ev_cons ev_cst rfl (ev_cons (ev_cb (ev_cons (ev_c1 (ev_var rfl) rd_scr (show lenD (.scr ns) = some (.int ns.length) from rfl)) rfl (ev_cons ev_cst rfl ev_nil)) (show min2D [.int ns.length, .int 3] = some (.int (if (3 : Int) < ns.length then 3 else ns.length)) from rfl)) rfl ev_nil)) h3) rfl ev_nil, Out.bind_ok]
      dsimp only
      rw [if_pos ⟨by omega, by omega⟩]
      simp [rngD]
    by_cases q : (3 : Int) < ns.length
    · exact key 3 (by decide) (by decide) (by rw [if_pos q]; rfl)
    · by_cases q2 : (2 : Int) < ns.length
      · exact key ns.length (by omega) (by omega) (by rw [if_neg q]; show some (D.int (if (ns.length : Int) > 2 then (ns.length : Int) else 2)) = _; rw [if_pos q2])
      · exact key 2 (by decide) (by decide) (by rw [if_neg q]; show some (D.int (if (ns.length : Int) > 2 then (ns.length : Int) else 2)) = _; rw [if_neg q2])
  obtain ⟨ks, it⟩ := it
  obtain ⟨y1, y2, y3, M', lp⟩ := loopL (ns := ns) ks .no .no .no [] nst_no nst_no nst_no
  refine ⟨M', ?_⟩
  rw [e0]
  unfold runM
  rw [e1, B_law_eq, ev_seq ((ev_for it).trans lp), ev_rt (ev_ret ev_cst rfl)]
  dsimp only
  rw [stoOf_cons, stoOf_cons, stoOf_cons, stoOf_cons, stoOf_one]
end K99
-- K99z
set_option maxRecDepth 100000
set_option maxHeartbeats 0
/-! K99: the end. -/
namespace K99
open PySem PySem.Spec PyProof.Rows L2 DL He
theorem law_sp {K : PySem.W.Frag} {mg : Str → Option Value} {H : Hp} {a : Addr} {ns : List Int} {E : XK} (hO : Only H) (hS : SqL K H a (ns.map V.int)) : spM ⟨K, mg⟩ F_law [.ref a] H (fun v _ => v = .bl true) E := by
  obtain ⟨M', hM⟩ := F_law_ok ns
  have no : ∀ p n, H p = some (.own n) → False := fun p n e => by
    rcases hO p with z | ⟨o, xs, z⟩ <;> rw [e] at z <;> cases z
  refine ⟨H, [.scr ns], [], Le.refl H, ⟨rfl, fun n d e => by simp at e, fun p n e => (no p n e).elim, fun p q n e _ => (no p n e).elim⟩, .cons (.scr hS) .nil, ?_⟩
  rw [hM]
  intro v G' H' P rv
  cases rv
  rfl
end K99
open PySem PySem.W PySem.Calls PyProof.Rows
theorem PySem.Challenge.cw_campwebs_k99_errors_whole_holds : PySem.Challenge.rw_campwebs_k99_errors_whole.Holds := by
  w_on; o_law
  refine HandSHeadRun.head_any (r := OpenLaw.row PySem.Challenge.rw_campwebs_k99_errors_whole) (q := view (OpenLaw.row PySem.Challenge.rw_campwebs_k99_errors_whole).prog [26]) (H := K99.hk) (ob := K99.ob) (M := 15000) (loose := K99.loose) (d := HandSHeadRun.topDef (OpenLaw.row PySem.Challenge.rw_campwebs_k99_errors_whole).prog 26) (kwd := []) K99.ob_eq
    (by kernel_rfl) (fun s => by kernel_rfl) K99.run (by kernel_rfl) (by kernel_rfl) (by kernel_rfl) (by rfl) (by first | assumption | decide +kernel) (by decide +kernel) ⟨rfl, rfl, rfl, rfl, rfl, by decide +kernel⟩ ?hw ?hc
  case hw => w_witness2
  case hc =>
    refine DL.walkG (l := PySem.Challenge.rw_campwebs_k99_errors_whole) (n := 63) (k := 5) (x := "script") rfl (by decide) (by kernel_rfl) ⟨rfl, by decide, by decide⟩ ?F ?C
    case F =>
      intro w mg fa h Y G hmg0
      obtain ⟨K, KX, c, e⟩ := Y
      have hmg : mg ("law" : PySem.Str) = some (.ref fa) := by
        have e : (HandSHeadRun.topDef (OpenLaw.row PySem.Challenge.rw_campwebs_k99_errors_whole).prog 26).name = ("law" : PySem.Str) := by kernel_rfl
        rw [← e]
        exact hmg0
      have hga := hmg.symm.trans (He.glo_ok KX G (c.fact 6 (f := .glo "law") rfl))
      cases hga
      obtain ⟨fd, hb, hF⟩ := K99.law_ok (P := (PySem.Challenge.rw_campwebs_k99_errors_whole).prog) (w := w) KX G c e
      exact ⟨K, fd, DL.spM ⟨K, mg⟩ K99.F_law, KX, hb, fun H a ns hl hO hS => K99.law_sp hO hS, fun base _ _ => hF base⟩
    case C =>
      intro w H s e s' z
      obtain ⟨_, _, _, _, _, _, _, _, _, _, _, _, z⟩ := z
      exact z.elim
