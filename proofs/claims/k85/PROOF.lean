import PyProof.Rows.All
import Wide.All
import OpenK.AllK
import Wide.FinOn
import HandS.ForMost
import HandS.ForExc
import HandS.Walk
import HandS.IsInst
import HandS.ExcInit
import HandS.ExcValue
import HandS.DictTup
import HandS.Defaults
import HandS.TupAny
import HandS.Deep
import HandS.Wide
import HandS.WideBits
import HandS.Conv
import HandS.Lambda
import HandS.EndTab
import KE.KNestM
import KE.KExcIs
import HandS.HeadHook1
import HandS.HeadHook2
import HandS.Head0
import HandS.Head1
import HandS.Head2
import HandS.HeadEnd
import Lean
import KE.KDictWalk
import HandS.MakeKw
import HandS.MakeKwOnly
import HandS.TryMany
import HandS.RepeatKit
import HandS.Zip
import HandS.SortOrd
import HandS.NamedTupSort
import HandS.TupSets
import KE.DataMinMax
import HandS.DictComp
import KE.KDictDisplayH
import HandS.WrittenGet
import HandS.HeadHook3
import HandS.HeadHook4
import HandS.Text
import HandS.Replace
import HandS.Iter
import HandS.Star
import HandS.Head3
import PySem.Challenge.RW_campwebs_k85_consoles_not_understood
set_option Elab.async false
set_option linter.all false
-- DL1
set_option maxRecDepth 100000
set_option maxHeartbeats 4000000
/-! DL1: values as data, the relation to the abstract heap, expressions. -/
namespace DL
open PySem PySem.Spec PyProof.Rows L2

/-- a Python value as data -/
inductive D where
  | non | bl (b : Bool) | int (i : Int) | str (x : Str)
  | tup (xs : List D) | lst (xs : List D)
  | dcK (ks : List Key) (xs : List D) | dcT (ks : List (List Key)) (xs : List D)
  | web (n fr fo : D) | exc0 (c : Str) | exc1 (c f : Str) (v : D)
  /-- the n-th thing of the store; an instance that stands there -/
  | ptr (n : Nat) | obj (c : Str) (ks : List Str) (xs : List D)
  /-- the script -/
  | scr (is : List Int)
  /-- the table of code objects of the def q (it stands in the store alone); a thing of which nothing is known but where it is, since the ghost heap G0 -/
  | tab (q : Str) | adr (a : Addr) (G0 : Hp)

/-- what is fixed: the written part, the module's names -/
structure Stt where
  K : PySem.W.Frag
  mg : Str → Option Value

def Dic : HO → Prop
  | .dK _ => True
  | .dT _ => True
  | _ => False
/-- the heap H' holds what H holds, dicts perhaps locked -/
def Lr (G H : Hp) : Prop := ∀ a u, G a = some u → H a = some u ∨ (Dic u ∧ ∃ ob, H a = some (.frz ob u))
/-- H holds what G holds, dicts perhaps locked; where G has a mark of the store, H has something -/
def Le (G H : Hp) : Prop := ∀ a u, G a = some u → H a = some u ∨ (Dic u ∧ ∃ ob, H a = some (.frz ob u)) ∨ ∃ n w, u = .own n ∧ H a = some w ∧ ∀ xs, w ≠ .tup xs
theorem Lr.refl (G : Hp) : Lr G G := fun _ _ h => .inl h
theorem Lr.trans {G H I : Hp} (a : Lr G H) (b : Lr H I) : Lr G I := fun c u h => by
  rcases a c u h with h1 | ⟨d, ob, h1⟩
  · exact b c u h1
  · rcases b c _ h1 with h2 | ⟨d2, _⟩
    · exact .inr ⟨d, ob, h2⟩
    · exact d2.elim
theorem Lr.of {G H : Hp} (h : Same G H) : Lr G H := fun a u e => .inl (h a u e)
theorem Lr.same_trans {G H I : Hp} (a : Lr G H) (b : Same H I) : Lr G I := a.trans (.of b)
theorem Le.refl (G : Hp) : Le G G := fun _ _ h => .inl h
theorem Le.of_same {G G2 H : Hp} (g : Same G G2) (l : Le G2 H) : Le G H := fun a u h => l a u (g a u h)
theorem Le.of {G H : Hp} (h : Same G H) : Le G H := fun a u e => .inl (h a u e)
theorem Le.lr {G H I : Hp} (a : Le G H) (b : Lr H I) : Le G I := fun c u h => by
  rcases a c u h with h1 | ⟨d, ob, h1⟩ | ⟨n, w, m, h1, nt⟩
  · rcases b c u h1 with h2 | ⟨d, ob, h2⟩
    · exact .inl h2
    · exact .inr (.inl ⟨d, ob, h2⟩)
  · rcases b c _ h1 with h2 | ⟨d2, _⟩
    · exact .inr (.inl ⟨d, ob, h2⟩)
    · exact d2.elim
  · rcases b c _ h1 with h2 | ⟨_, ob, h2⟩
    · exact .inr (.inr ⟨n, w, m, h2, nt⟩)
    · exact .inr (.inr ⟨n, _, m, h2, fun _ z => nomatch z⟩)
theorem Le.same_trans {G H I : Hp} (a : Le G H) (b : Same H I) : Le G I := a.lr (.of b)
theorem Le.none {G H : Hp} (l : Le G H) {a : Addr} (n : H a = none) : G a = none := by
  cases q : G a with
  | none => rfl
  | some u => rcases l a u q with y | ⟨_, ob, y⟩ | ⟨_, w, _, y, _⟩ <;> rw [n] at y <;> cases y
def Fix : HO → Prop
  | .dK _ => False
  | .dT _ => False
  | .own _ => False
  | _ => True
theorem Le.nd {G H : Hp} (l : Le G H) {a : Addr} {u : HO} (h : G a = some u) (n : Fix u) : H a = some u := by
  rcases l a u h with h | ⟨d, _⟩ | ⟨m, w, e, _⟩
  · exact h
  · cases u <;> first | exact d.elim | exact n.elim
  · subst e; exact n.elim
theorem Le.rd {G H : Hp} (l : Le G H) {a : Addr} {u : HO} (nm : ∀ n, u ≠ .own n) (h : Rd G a u) : Rd H a u := by
  rcases h with h | ⟨o, h⟩
  · rcases l a u h with h | ⟨d, ob, h⟩ | ⟨m, w, e, _⟩
    · exact .inl h
    · exact .inr ⟨ob, h⟩
    · exact (nm m e).elim
  · exact .inr ⟨o, l.nd h True.intro⟩
theorem Le.sqL {K : PySem.W.Frag} {G H : Hp} (l : Le G H) {a : Addr} {xs : List V} (h : SqL K G a xs) : SqL K H a xs := by
  rcases h with h | h
  · exact .inl (l.rd (fun _ z => nomatch z) h)
  · exact .inr h
theorem Le.sqT {K : PySem.W.Frag} {G H : Hp} (l : Le G H) {a : Addr} {xs : List V} (h : SqT K G a xs) : SqT K H a xs := by
  rcases h with h | h
  · exact .inl (l.rd (fun _ z => nomatch z) h)
  · exact .inr h

/-- a tuple: it stands in G, or is an empty one of the module's -/
def TupG (K : PySem.W.Frag) (G : Hp) (a : Addr) (vs : List V) : Prop := G a = some (.tup vs) ∨ (vs = [] ∧ ∃ (o : Obj) (its : Array Value) (n : Nat), K.lookup a = some o ∧ o.cls = .type "tuple" ∧ o.data = .seq its n ∧ its.size ≤ sizeLine ∧ Vals [] its.toList)
theorem TupG.same {K : PySem.W.Frag} {G G' : Hp} {a : Addr} {vs : List V} (l : Same G G') (h : TupG K G a vs) : TupG K G' a vs := h.imp (l _ _) id
theorem TupG.sq {K : PySem.W.Frag} {G H : Hp} {a : Addr} {vs : List V} (l : Le G H) (h : TupG K G a vs) : SqT K H a vs := by
  rcases h with h | ⟨rfl, h⟩
  · exact SqT.of (l.nd h True.intro)
  · exact .inr h
/-- an exception object that was raised once -/
def exw (a C : Addr) (d : Option Addr) : HO := .ext fun h => ∃ (oe : Obj) (vs : Array Value), h.get? a = some oe ∧ Zc (.ref C) d oe ∧ oe.data = .fields vs
/-- the exception object at a: one made, or one raised once -/
def Ex0 (G : Hp) (a C : Addr) : Prop := G a = some (ExO (.ref C) a) ∨ G a = some (exw a C none)
def Ex1 (G : Hp) (a C d : Addr) : Prop := G a = some (exo a C (some d)) ∨ G a = some (exw a C (some d))
def Xd1 (G : Hp) (d : Addr) (fs : List (Str × V)) : Prop := G d = some (exd d fs) ∨ G d = some (.xd fs)
theorem Ex0.same {G G' : Hp} {a C : Addr} (l : Same G G') (h : Ex0 G a C) : Ex0 G' a C := h.imp (l _ _) (l _ _)
theorem Ex1.same {G G' : Hp} {a C d : Addr} (l : Same G G') (h : Ex1 G a C d) : Ex1 G' a C d := h.imp (l _ _) (l _ _)
theorem Xd1.same {G G' : Hp} {d : Addr} {fs : List (Str × V)} (l : Same G G') (h : Xd1 G d fs) : Xd1 G' d fs := h.imp (l _ _) (l _ _)
theorem Ex0.le {G H : Hp} {a C : Addr} (l : Le G H) (h : Ex0 G a C) : Ex0 H a C := h.imp (fun h => l.nd h True.intro) fun h => l.nd h True.intro
theorem Ex1.le {G H : Hp} {a C d : Addr} (l : Le G H) (h : Ex1 G a C d) : Ex1 H a C d := h.imp (fun h => l.nd h True.intro) fun h => l.nd h True.intro
theorem Xd1.le {G H : Hp} {d : Addr} {fs : List (Str × V)} (l : Le G H) (h : Xd1 G d fs) : Xd1 H d fs := h.imp (fun h => l.nd h True.intro) fun h => l.nd h True.intro
abbrev webF (vn vr vo vk : V) : List (Str × V) := [("people", vn), ("friends", vr), ("foes", vo), ("kept", vk)]

mutual
/-- the value v is the data d, all its parts standing in G -/
inductive VRel (T : Stt) (G : Hp) : V → D → Prop
  | non : VRel T G .non .non
  | bl (b : Bool) : VRel T G (.bl b) (.bl b)
  | int (i : Int) : VRel T G (.int i) (.int i)
  | str (x : Str) : VRel T G (.str x) (.str x)
  | tup {a : Addr} {vs : List V} {ds : List D} (h : TupG T.K G a vs) (r : VRels T G vs ds) : VRel T G (.ref a) (.tup ds)
  | lst {a : Addr} {vs : List V} {ds : List D} (h : G a = some (.lst vs)) (r : VRels T G vs ds) : VRel T G (.ref a) (.lst ds)
  | dcK {a : Addr} {kvs : List (Key × V)} {ds : List D} (h : G a = some (.dK kvs)) (r : VRels T G (kvs.map (·.2)) ds) : VRel T G (.ref a) (.dcK (kvs.map (·.1)) ds)
  | dcT {a : Addr} {kvs : List (List Key × V)} {ds : List D} (h : G a = some (.dT kvs)) (r : VRels T G (kvs.map (·.2)) ds) : VRel T G (.ref a) (.dcT (kvs.map (·.1)) ds)
  | web {a C dx : Addr} {vn vr vo vk : V} {n fr fo : D} (c : T.mg "Web" = some (.ref C)) (h : G a = some (.ins C dx (webF vn vr vo vk))) (r1 : VRel T G vn n) (r2 : VRel T G vr fr) (r3 : VRel T G vo fo) : VRel T G (.ref a) (.web n fr fo)
  | exc0 {a C : Addr} {c : Str} (hc : T.mg c = some (.ref C)) (h : Ex0 G a C) : VRel T G (.ref a) (.exc0 c)
  | ptr {a : Addr} {n : Nat} (h : G a = some (.own n)) : VRel T G (.ref a) (.ptr n)
  | scr {a : Addr} {is : List Int} (h : SqL T.K G a (is.map V.int)) : VRel T G (.ref a) (.scr is)
  | adr (a : Addr) {G0 : Hp} (h : Same G0 G) : VRel T G (.ref a) (.adr a G0)
  | exc1 {a C d : Addr} {c f : Str} {v : V} {x : D} (hc : T.mg c = some (.ref C)) (h : Ex1 G a C d) (h2 : Xd1 G d [(f, v)]) (r : VRel T G v x) : VRel T G (.ref a) (.exc1 c f x)
inductive VRels (T : Stt) (G : Hp) : List V → List D → Prop
  | nil : VRels T G [] []
  | cons {v : V} {vs : List V} {d : D} {ds : List D} (r : VRel T G v d) (rs : VRels T G vs ds) : VRels T G (v :: vs) (d :: ds)
end

mutual
theorem VRel.same {T : Stt} {G G' : Hp} (l : Same G G') : ∀ {v : V} {d : D}, VRel T G v d → VRel T G' v d
  | _, _, .non => .non
  | _, _, .bl b => .bl b
  | _, _, .int i => .int i
  | _, _, .str x => .str x
  | _, _, .tup h r => .tup (h.same l) (VRels.same l r)
  | _, _, .lst h r => .lst (l _ _ h) (VRels.same l r)
  | _, _, .dcK h r => .dcK (l _ _ h) (VRels.same l r)
  | _, _, .dcT h r => .dcT (l _ _ h) (VRels.same l r)
  | _, _, .web c h r1 r2 r3 => .web c (l _ _ h) (VRel.same l r1) (VRel.same l r2) (VRel.same l r3)
  | _, _, .exc0 c h => .exc0 c (h.same l)
  | _, _, .ptr h => .ptr (l _ _ h)
  | _, _, .scr h => .scr ((Le.of l).sqL h)
  | _, _, .adr a h => .adr a (h.trans l)
  | _, _, .exc1 c h h2 r => .exc1 c (h.same l) (h2.same l) (VRel.same l r)
theorem VRels.same {T : Stt} {G G' : Hp} (l : Same G G') : ∀ {vs : List V} {ds : List D}, VRels T G vs ds → VRels T G' vs ds
  | _, _, .nil => .nil
  | _, _, .cons r rs => .cons (VRel.same l r) (VRels.same l rs)
end
theorem VRels.length {T : Stt} {G : Hp} : ∀ {vs : List V} {ds : List D}, VRels T G vs ds → vs.length = ds.length
  | _, _, .nil => rfl
  | _, _, .cons _ rs => by simp [VRels.length rs]
theorem VRels.get {T : Stt} {G : Hp} : ∀ {vs : List V} {ds : List D} {i : Nat} {v : V}, VRels T G vs ds → vs[i]? = some v → ∃ d, ds[i]? = some d ∧ VRel T G v d
  | _, _, _, _, .nil, e => by simp at e
  | _, _, 0, _, .cons r _, e => by simp at e; subst e; exact ⟨_, rfl, r⟩
  | _, _, i + 1, v, .cons _ t, e => by
    obtain ⟨u, h1, h2⟩ := VRels.get (i := i) (v := v) t (by simpa using e)
    exact ⟨u, by simpa using h1, h2⟩
theorem VRels.get' {T : Stt} {G : Hp} : ∀ {vs : List V} {ds : List D} {i : Nat} {d : D}, VRels T G vs ds → ds[i]? = some d → ∃ v, vs[i]? = some v ∧ VRel T G v d
  | _, _, _, _, .nil, e => by simp at e
  | _, _, 0, _, .cons r _, e => by simp at e; subst e; exact ⟨_, rfl, r⟩
  | _, _, i + 1, d, .cons _ t, e => by
    obtain ⟨u, h1, h2⟩ := VRels.get' (i := i) (d := d) t (by simpa using e)
    exact ⟨u, by simpa using h1, h2⟩
theorem VRels.append {T : Stt} {G : Hp} : ∀ {xs ys : List V} {us ws : List D}, VRels T G xs us → VRels T G ys ws → VRels T G (xs ++ ys) (us ++ ws)
  | _, _, _, _, .nil, s => s
  | _, _, _, _, .cons r t, s => .cons r (VRels.append t s)
theorem VRels.take {T : Stt} {G : Hp} : ∀ {xs : List V} {us : List D} (n : Nat), VRels T G xs us → VRels T G (xs.take n) (us.take n)
  | _, _, 0, _ => by simp; exact .nil
  | _, _, n + 1, .nil => .nil
  | _, _, n + 1, .cons r t => .cons r (VRels.take n t)
theorem VRels.drop {T : Stt} {G : Hp} : ∀ {xs : List V} {us : List D} (n : Nat), VRels T G xs us → VRels T G (xs.drop n) (us.drop n)
  | _, _, 0, r => r
  | _, _, n + 1, .nil => .nil
  | _, _, n + 1, .cons r t => VRels.drop n t

/-! ### the state -/
inductive Slot where
  | no | val (d : D) | own (d : D) | sto (M : List D)
abbrev Ev := List Slot
abbrev St := L2.St
/-- a container at p that may be written: its parts stand in G -/
def CRel (T : Stt) (G H : Hp) (p : Addr) : D → Prop
  | .lst ds => ∃ vs, H p = some (.lst vs) ∧ VRels T G vs ds
  | .dcK ks ds => ∃ kvs, H p = some (.dK kvs) ∧ kvs.map (·.1) = ks ∧ VRels T G (kvs.map (·.2)) ds
  | .dcT ks ds => ∃ kvs, H p = some (.dT kvs) ∧ kvs.map (·.1) = ks ∧ VRels T G (kvs.map (·.2)) ds
  | _ => False
theorem CRel.same {T : Stt} {G G' H H' : Hp} {p : Addr} (g : Same G G') (h : ∀ u, H p = some u → H' p = some u) : ∀ {d : D}, CRel T G H p d → CRel T G' H' p d
  | .lst _, ⟨vs, e, r⟩ => ⟨vs, h _ e, r.same g⟩
  | .dcK _ _, ⟨vs, e, k, r⟩ => ⟨vs, h _ e, k, r.same g⟩
  | .dcT _ _, ⟨vs, e, k, r⟩ => ⟨vs, h _ e, k, r.same g⟩
/-- what stands at p, for the heap in which it may be read alone -/
theorem CRel.some {T : Stt} {G H : Hp} {p : Addr} : ∀ {d : D}, CRel T G H p d → ∃ u, H p = some u ∧ Mut (some u)
  | .lst _, ⟨vs, e, r⟩ => ⟨_, e, True.intro⟩
  | .dcK _ _, ⟨vs, e, k, r⟩ => ⟨_, e, True.intro⟩
  | .dcT _ _, ⟨vs, e, k, r⟩ => ⟨_, e, True.intro⟩
theorem CRel.frz {T : Stt} {G H : Hp} {p : Addr} (n : G p = Option.none) : ∀ {d : D}, CRel T G H p d → ∃ u, H p = Option.some u ∧ VRel T (upd G p u) (.ref p) d
  | .lst _, ⟨vs, e, r⟩ => ⟨_, e, .lst upd_same (r.same fun a u h => by rw [upd_ne (ne_of_none h n)]; exact h)⟩
  | .dcK _ _, ⟨vs, e, k, r⟩ => ⟨_, e, k ▸ .dcK upd_same (r.same fun a u h => by rw [upd_ne (ne_of_none h n)]; exact h)⟩
  | .dcT _ _, ⟨vs, e, k, r⟩ => ⟨_, e, k ▸ .dcT upd_same (r.same fun a u h => by rw [upd_ne (ne_of_none h n)]; exact h)⟩

def Pin : HO → Prop
  | .lst _ => True
  | .dK _ => True
  | .dT _ => True
  | _ => False
/-- no mark of the store -/
def NM (u : HO) : Prop := ∀ n, u ≠ .own n
/-- what the def's arguments stand in; the heap at its entry, but the store; what is locked by the loops around; whether there is a store -/
structure Bse where
  g : Hp
  h : Hp
  lk : Hp
  pu : Bool
def stoOf (env : Ev) : Option (List D) := match env.getLast? with
  | some (.sto M) => some M
  | _ => none
def setSto (env : Ev) (M : List D) : Ev := env.set (env.length - 1) (.sto M)
/-- p is the table of the code object of the module's def x -/
def TabOf (K : PySem.W.Frag) (mg : Str → Option Value) (x : Str) (p : Addr) : Prop := ∃ f oc od fd osl c, mg x = some (.ref f) ∧ K.lookup f = some ⟨oc, od, .func fd, osl⟩ ∧ fd.code = .ref c ∧ PySem.W.codeHdIn K c p = true
theorem codeHd_at {K : PySem.W.Frag} {c p : Addr} (h : PySem.W.codeHdIn K c p = true) : ∃ o vs, K.lookup c = some o ∧ o.data = .fields vs ∧ vs[11]? = some (Value.ref p) := by
  unfold PySem.W.codeHdIn at h
  split at h
  · rename_i vs _ hk
    simp only [Bool.and_eq_true] at h
    obtain ⟨⟨⟨⟨⟨e1, _⟩, _⟩, _⟩, _⟩, _⟩ := h
    split at e1
    · rename_i P' h11
      have hP : P' = p := beq_iff_eq.mp e1
      subst hP
      exact ⟨_, vs, hk, rfl, h11⟩
    · cases e1
  · cases h
theorem codeHd_uniq {K : PySem.W.Frag} {c p q : Addr} (h : PySem.W.codeHdIn K c p = true) (g : PySem.W.codeHdIn K c q = true) : p = q := by
  obtain ⟨o, vs, h1, h2, h3⟩ := codeHd_at h
  obtain ⟨o', vs', g1, g2, g3⟩ := codeHd_at g
  rw [h1] at g1; cases g1
  rw [h2] at g2; cases g2
  rw [h3] at g3; cases g3
  rfl
theorem TabOf.uniq {K : PySem.W.Frag} {mg : Str → Option Value} {x : Str} {p q : Addr} (h : TabOf K mg x p) (g : TabOf K mg x q) : p = q := by
  obtain ⟨f, oc, od, fd, osl, c, a1, a2, a3, a4⟩ := h
  obtain ⟨f', oc', od', fd', osl', c', b1, b2, b3, b4⟩ := g
  rw [a1] at b1; cases b1
  rw [a2] at b2; cases b2
  rw [a3] at b3; cases b3
  exact codeHd_uniq a4 b4
def tabQ (x : Str) : Str := (x ++ ".<locals>.") ++ "<lambda>"
/-- the table at p, of the def x, tells code objects of x's lambdas alone -/
def TRel (T : Stt) (G H : Hp) (p : Addr) (x : Str) : Prop := TabOf T.K T.mg x p ∧ ∃ ps : Array Value, H p = some (.tbl ps) ∧ TriplesOk ps.toList ∧ ∀ (pos : Pos) (cv : Value), codeAmong pos ps.toList = some cv → ∃ c oc, cv = .ref c ∧ G c = some (.frz oc (LamX.CodeO c (tabQ x)))
/-- a thing of the store at p -/
def MRel (T : Stt) (G H : Hp) (p : Addr) (d : D) : Prop := CRel T G H p d ∨ (∃ c ks xs C dx kvs, d = .obj c ks xs ∧ T.mg c = some (.ref C) ∧ H p = some (.ins C dx kvs) ∧ kvs.map (·.1) = ks ∧ VRels T G (kvs.map (·.2)) xs) ∨ ∃ q, d = .tab q ∧ TRel T G H p q
theorem TRel.same {T : Stt} {G G' H H' : Hp} {p : Addr} {q : Str} (g : Same G G') (h : ∀ u, H p = some u → H' p = some u) (t : TRel T G H p q) : TRel T G' H' p q := by
  obtain ⟨h0, ps, h1, h2, h3⟩ := t
  refine ⟨h0, ps, h _ h1, h2, fun pos cv e => ?_⟩
  obtain ⟨c, oc, e1, e2⟩ := h3 pos cv e
  exact ⟨c, oc, e1, g _ _ e2⟩
theorem MRel.same {T : Stt} {G G' H H' : Hp} {p : Addr} (g : Same G G') (h : ∀ u, H p = some u → H' p = some u) {d : D} (m : MRel T G H p d) : MRel T G' H' p d := by
  rcases m with m | ⟨c, ks, xs, C, dx, kvs, e, m, hp, k, r⟩ | ⟨q, e, t⟩
  · exact .inl (m.same g h)
  · exact .inr (.inl ⟨c, ks, xs, C, dx, kvs, e, m, h _ hp, k, r.same g⟩)
  · exact .inr (.inr ⟨q, e, t.same g h⟩)
theorem MRel.some {T : Stt} {G H : Hp} {p : Addr} {d : D} (m : MRel T G H p d) : ∃ u, H p = Option.some u ∧ ∀ xs, u ≠ .tup xs := by
  rcases m with m | ⟨c, ks, xs, C, dx, kvs, e, m, hp, k, r⟩ | ⟨q, e, _, ps, hp, _⟩
  · obtain ⟨u, h1, h2⟩ := m.some
    exact ⟨u, h1, fun xs z => by subst z; exact h2⟩
  · exact ⟨_, hp, fun _ z => nomatch z⟩
  · exact ⟨_, hp, fun _ z => nomatch z⟩
structure StoR (T : Stt) (B : Bse) (G H : Hp) (M : List D) : Prop where
  pu : B.pu = false
  at_ : ∀ (n : Nat) d, M[n]? = some d → ∃ p, G p = some (.own n) ∧ B.h p = none ∧ B.lk p = none ∧ MRel T G H p d
  lt : ∀ (p : Addr) n, G p = some (.own n) → n < M.length
  inj : ∀ (p q : Addr) n, G p = some (.own n) → G q = some (.own n) → p = q
structure StR (T : Stt) (B : Bse) (G H : Hp) (σ : St) (env : Ev) : Prop where
  gh : Le G H
  g0 : Same B.1 G
  h0 : Lr B.2 H
  lk : ∀ a u, B.3 a = some u → H a = some u ∧ True ∧ ((∃ o w, u = .frz o w) ∨ (G a = none ∧ Pin u))
  add : ∀ a u, G a = some u → B.1 a = some u ∨ (B.2 a = none ∧ (B.4 = true → NM u)) ∨ ∃ xs, u = .tup xs
  len : σ.length ≤ env.length
  top : ∀ (i : Nat) s, env[i]? = some s → (σ.length ≤ i ↔ ∃ M, s = .sto M)
  sto : ∀ M, stoOf env = some M → StoR T B G H M
  val : ∀ (i : Nat) d, env[i]? = some (.val d) → ∃ v, σ[i]? = some (some v) ∧ VRel T G v d
  own : ∀ (i : Nat) d, env[i]? = some (.own d) → ∃ p, σ[i]? = some (some (.ref p)) ∧ (B.2 p = none ∧ B.3 p = none) ∧ G p = none ∧ CRel T G H p d
  dis : ∀ (i j : Nat) d e p, env[i]? = some (.own d) → env[j]? = some (.own e) → σ[i]? = some (some (.ref p)) → σ[j]? = some (some (.ref p)) → i = j
/-- G gets something that is no mark -/
theorem StoR.mark {T : Stt} {B : Bse} {G H : Hp} {M : List D} {p : Addr} {u : HO} (S : StoR T B G H M) (hg : G p = none) (nm : NM u) : StoR T B (upd G p u) H M := by
  obtain ⟨s1, s2, s3, s4⟩ := S
  have old : ∀ q n, upd G p u q = some (.own n) → G q = some (.own n) := fun q n e => by
    by_cases z : q = p
    · subst z; rw [upd_same] at e; cases e; exact (nm n rfl).elim
    · rw [upd_ne z] at e; exact e
  refine ⟨s1, fun n d e => ?_, fun q n e => s3 q n (old q n e), fun q r n e1 e2 => s4 q r n (old q n e1) (old r n e2)⟩
  obtain ⟨q, a1, a2, a3, a4⟩ := s2 n d e
  have nq : q ≠ p := fun z => by rw [z, hg] at a1; cases a1
  exact ⟨q, by rw [upd_ne nq]; exact a1, a2, a3, a4.same (fun a w h => by rw [upd_ne (fun z => by rw [z, hg] at h; cases h)]; exact h) fun _ z => z⟩
theorem CRel.nm {T : Stt} {G H : Hp} {p : Addr} {u : HO} : ∀ {d : D}, CRel T G H p d → H p = Option.some u → NM u
  | .lst _, ⟨vs, e, r⟩, h => by rw [e] at h; cases h; exact fun _ z => nomatch z
  | .dcK _ _, ⟨vs, e, k, r⟩, h => by rw [e] at h; cases h; exact fun _ z => nomatch z
  | .dcT _ _, ⟨vs, e, k, r⟩, h => by rw [e] at h; cases h; exact fun _ z => nomatch z
theorem StR.lt {T : Stt} {B : Bse} {G H : Hp} {σ : St} {env : Ev} (S : StR T B G H σ env) {i : Nat} {s : Slot} (e : env[i]? = some s) (n : ∀ M, s ≠ .sto M) : i < σ.length := by
  rcases Nat.lt_or_ge i σ.length with h | h
  · exact h
  · obtain ⟨M, z⟩ := (S.top i s e).mp h
    exact (n M z).elim
/-- a slot that is no store, set to no store -/
theorem sto_set {env : Ev} {i : Nat} {s s' : Slot} (e : env[i]? = some s) (n : ∀ M, s ≠ .sto M) (n' : ∀ M, s' ≠ .sto M) : stoOf (env.set i s') = stoOf env := by
  unfold stoOf
  rw [List.getLast?_eq_getElem?, List.getLast?_eq_getElem?, List.length_set]
  by_cases h : i = env.length - 1
  · subst h
    have hl := (List.getElem?_eq_some_iff.mp e).1
    rw [List.getElem?_set_self hl, e]
    cases s with
    | sto M => exact (n M rfl).elim
    | _ => cases s' with
      | sto M => exact (n' M rfl).elim
      | _ => rfl
  · rw [List.getElem?_set_ne h]
theorem top_set {σ : St} {env : Ev} {i : Nat} {s s' : Slot} (t : ∀ (i : Nat) s, env[i]? = some s → (σ.length ≤ i ↔ ∃ M, s = .sto M)) (e : env[i]? = some s) (n : (∃ M, s = .sto M) ↔ ∃ M, s' = .sto M) :
    ∀ (j : Nat) r, (env.set i s')[j]? = some r → (σ.length ≤ j ↔ ∃ M, r = .sto M) := fun j r h => by
  by_cases z : i = j
  · subst z
    rw [List.getElem?_set_self (List.getElem?_eq_some_iff.mp e).1] at h
    cases h
    exact (t i s e).trans n
  · rw [List.getElem?_set_ne z] at h; exact t j r h
theorem StR.ng {T : Stt} {B : Bse} {G H : Hp} {σ : St} {env : Ev} {p : Addr} (S : StR T B G H σ env) (n : H p = none) : G p = none := S.gh.none n
theorem StR.nl {T : Stt} {B : Bse} {G H : Hp} {σ : St} {env : Ev} {p : Addr} (S : StR T B G H σ env) (n : H p = none) : B.3 p = none := by
  cases q : B.3 p with
  | none => rfl
  | some u => rw [(S.lk p u q).1] at n; cases n
theorem StR.nb {T : Stt} {B : Bse} {G H : Hp} {σ : St} {env : Ev} {p : Addr} (S : StR T B G H σ env) (n : H p = none) : B.2 p = none := by
  cases q : B.2 p with
  | none => rfl
  | some u => rcases S.h0 p u q with y | ⟨_, ob, y⟩ <;> rw [n] at y <;> cases y
/-- what G' has more than G: new things, and tuples -/
abbrev Adds (G H G' : Hp) : Prop := ∀ a u, G' a = some u → G a = some u ∨ (H a = none ∧ NM u) ∨ ∃ xs, u = .tup xs
/-- an operation that reads and makes new things alone -/
theorem StR.ext {T : Stt} {B : Bse} {G H G' H' : Hp} {σ : St} {env : Ev} (S : StR T B G H σ env) (g : Same G G') (gh : Le G' H') (h : Same H H') (ad : Adds G H G') : StR T B G' H' σ env where
  gh := gh
  g0 := S.g0.trans g
  h0 := S.h0.same_trans h
  lk := fun a u e => by
    obtain ⟨x1, x2, x3⟩ := S.lk a u e
    refine ⟨h a u x1, x2, ?_⟩
    rcases x3 with x3 | x3
    · exact .inl x3
    · refine .inr ⟨?_, x3.2⟩
      cases q : G' a with
      | none => rfl
      | some w =>
        rcases ad a w q with z | z | ⟨xs, z⟩
        · rw [x3.1] at z; cases z
        · rw [x1] at z; cases z.1
        · subst z
          have y := h a u x1
          have y2 := gh.nd q True.intro
          rw [y] at y2
          cases y2
          exact x3.2.elim
  add := fun a u e => by
    rcases ad a u e with z | z | z
    · exact S.add a u z
    · exact .inr (.inl ⟨S.nb z.1, fun _ => z.2⟩)
    · exact .inr (.inr z)
  len := S.len
  top := S.top
  sto := fun M e => by
    obtain ⟨s1, s2, s3, s4⟩ := S.sto M e
    have old : ∀ p n, G' p = some (.own n) → G p = some (.own n) := fun p n e => by
      rcases ad p _ e with z | z | ⟨xs, z⟩
      · exact z
      · exact (z.2 n rfl).elim
      · cases z
    refine ⟨s1, fun n d e => ?_, fun p n e => s3 p n (old p n e), fun p q n e1 e2 => s4 p q n (old p n e1) (old q n e2)⟩
    obtain ⟨p, a1, a2, a3, a4⟩ := s2 n d e
    exact ⟨p, g _ _ a1, a2, a3, a4.same g fun u q => h _ _ q⟩
  val := fun i d e => let ⟨v, h1, h2⟩ := S.val i d e; ⟨v, h1, h2.same g⟩
  own := fun i d e => by
    obtain ⟨p, h1, h2, h3, h4⟩ := S.own i d e
    refine ⟨p, h1, h2, ?_, h4.same g fun u q => h _ _ q⟩
    cases q : G' p with
    | none => rfl
    | some u =>
      obtain ⟨w, hw, mw⟩ := h4.some
      rcases ad p u q with z | z | ⟨xs, z⟩
      · rw [h3] at z; cases z
      · rw [hw] at z; cases z.1
      · subst z
        have q1 := h p w hw
        have y := gh.nd q True.intro
        rw [q1] at y; cases y; exact mw.elim
  dis := S.dis
theorem upd_same_none {H : Hp} {p : Addr} {o : HO} (n : H p = none) : Same H (upd H p o) := fun a u h => by rw [upd_ne (ne_of_none h n)]; exact h
/-- one new thing in both -/
theorem StR.new {T : Stt} {B : Bse} {G H : Hp} {σ : St} {env : Ev} {p : Addr} {o : HO} (S : StR T B G H σ env) (n : H p = none) (nm : NM o := by intro _ z; exact nomatch z) : StR T B (upd G p o) (upd H p o) σ env ∧ Same G (upd G p o) := by
  have ng : G p = none := S.gh.none n
  refine ⟨S.ext (upd_same_none ng) (fun a u h => ?_) (upd_same_none n) fun a u h => ?_, upd_same_none ng⟩
  · by_cases e : a = p
    · subst e
      rw [upd_same] at h
      rw [upd_same]
      exact .inl h
    · rw [upd_ne e] at h
      rw [upd_ne e]
      exact S.gh a u h
  · by_cases e : a = p
    · subst e; rw [upd_same] at h; cases h; exact .inr (.inl ⟨n, nm⟩)
    · rw [upd_ne e] at h; exact .inl h
/-- one new thing in the heap alone -/
theorem StR.newH {T : Stt} {B : Bse} {G H : Hp} {σ : St} {env : Ev} {p : Addr} {o : HO} (S : StR T B G H σ env) (n : H p = none) : StR T B G (upd H p o) σ env :=
  S.ext (Same.refl G) (S.gh.same_trans (upd_same_none n)) (upd_same_none n) fun a u h => .inl h

theorem StR.weak {T : Stt} {B B' : Bse} {G H : Hp} {σ : St} {env : Ev} (S : StR T B' G H σ env) (h1 : B'.1 = B.1) (h2 : B'.2 = B.2) (h3 : Same B.3 B'.3) (h4 : B'.4 = B.4) : StR T B G H σ env where
  gh := S.gh
  g0 := h1 ▸ S.g0
  h0 := h2 ▸ S.h0
  lk := fun a u e => S.lk a u (h3 a u e)
  add := fun a u e => h1 ▸ h2 ▸ h4 ▸ S.add a u e
  len := S.len
  top := S.top
  sto := fun M e => by
    obtain ⟨s1, s2, s3, s4⟩ := S.sto M e
    refine ⟨h4 ▸ s1, fun n d e => ?_, s3, s4⟩
    obtain ⟨p, a1, a2, a3, a4⟩ := s2 n d e
    refine ⟨p, a1, h2 ▸ a2, ?_, a4⟩
    cases q : B.3 p with
    | none => rfl
    | some u => have y := h3 p u q; have a3' : B'.3 p = none := a3; rw [a3'] at y; cases y
  val := S.val
  own := fun i d e => by
    obtain ⟨p, a1, a2, a3, a4⟩ := S.own i d e
    refine ⟨p, a1, ⟨h2 ▸ a2.1, ?_⟩, a3, a4⟩
    cases q : B.3 p with
    | none => rfl
    | some u => rw [h3 p u q] at a2; cases a2.2
  dis := S.dis
/-- an expression's value: data, or the own container of a slot -/
inductive EV where
  | dv (d : D) | ow (i : Nat)
def ERel (T : Stt) (G : Hp) (σ : St) (v : V) : EV → Prop
  | .dv d => VRel T G v d
  | .ow i => σ[i]? = some (some v)
def lookP (n : Nat) : Option D → Option D
  | some (.obj _ _ _) => some (.ptr n)
  | some (.tab _) => some (.ptr n)
  | some d => some d
  | none => none
def lookM (n : Nat) : Option (List D) → Option D
  | some M => lookP n M[n]?
  | none => some (.ptr n)
def look (env : Ev) : D → Option D
  | .ptr n => lookM n (stoOf env)
  | d => some d
def rd (env : Ev) : EV → Option D
  | .dv d => look env d
  | .ow i => match env[i]? with
    | some (.own d) => some d
    | some (.val d) => some d
    | _ => none
/-- what may be read as d: its parts stand in G, itself in H -/
def ORel (T : Stt) (G H : Hp) (v : V) (d : D) : Prop := VRel T G v d ∨ ∃ p, v = .ref p ∧ CRel T G H p d
theorem ERel.same {T : Stt} {G G' : Hp} {σ : St} {v : V} (g : Same G G') : ∀ {ev : EV}, ERel T G σ v ev → ERel T G' σ v ev
  | .dv _, r => VRel.same g r
  | .ow _, r => r
theorem StR.orel {T : Stt} {B : Bse} {G H : Hp} {σ : St} {env : Ev} {v : V} {d : D} (S : StR T B G H σ env) : ∀ {ev : EV}, ERel T G σ v ev → rd env ev = some d → ORel T G H v d
  | .dv d0, r, e => by
    have r' : VRel T G v d0 := r
    cases d0 with
    | ptr n =>
      unfold rd look at e
      dsimp only at e
      cases hM : stoOf env with
      | none => rw [hM] at e; cases e; exact .inl r'
      | some M =>
        rw [hM] at e
        unfold lookM at e
        dsimp only at e
        obtain ⟨_, s2, _, s4⟩ := S.sto M hM
        cases hd : M[n]? with
        | none => rw [hd] at e; cases e
        | some d1 =>
          rw [hd] at e
          cases r' with
          | ptr h =>
            obtain ⟨p, a1, _, _, a4⟩ := s2 n d1 hd
            obtain rfl := s4 _ _ n h a1
            rcases a4 with a4 | ⟨c, ks, xs, C, dx, kvs, z, _⟩ | ⟨q, z, _⟩
            · cases d1 with
              | obj _ _ _ => exact a4.elim
              | tab _ => exact a4.elim
              | _ => cases e; exact .inr ⟨_, rfl, a4⟩
            · subst z
              cases e
              exact .inl (.ptr h)
            · subst z
              cases e
              exact .inl (.ptr h)
    | _ => cases e; exact .inl r'
  | .ow i, r, e => by
    have r' : σ[i]? = some (some v) := r
    unfold rd at e
    cases q : env[i]? with
    | none => simp [q] at e
    | some sl =>
      cases sl with
      | no => simp [q] at e
      | sto M => simp [q] at e
      | val x =>
        simp only [q, Option.some.injEq] at e
        subst e
        obtain ⟨u, h1, h2⟩ := S.val i _ q
        rw [r'] at h1; cases h1
        exact .inl h2
      | own x =>
        simp only [q, Option.some.injEq] at e
        subst e
        obtain ⟨p, h1, _, _, h2⟩ := S.own i _ q
        rw [r'] at h1; cases h1
        exact .inr ⟨p, rfl, h2⟩
/-- the container of a slot is let go: from now on it is not written -/
def frz (env : Ev) : EV → Option (D × Ev)
  | .dv d => some (d, env)
  | .ow i => match env[i]? with
    | some (.own d) => some (d, env.set i (.val d))
    | some (.val d) => some (d, env)
    | _ => none
theorem StR.frz {T : Stt} {B : Bse} {G H : Hp} {σ : St} {env e' : Ev} {v : V} {d : D} (S : StR T B G H σ env) : ∀ {ev : EV}, ERel T G σ v ev → frz env ev = some (d, e') → ∃ G', StR T B G' H σ e' ∧ Same G G' ∧ VRel T G' v d
  | .dv _, r, e => by cases e; exact ⟨G, S, Same.refl G, r⟩
  | .ow i, r, e => by
    have r' : σ[i]? = some (some v) := r
    unfold DL.frz at e
    cases q : env[i]? with
    | none => simp [q] at e
    | some sl =>
      cases sl with
      | no => simp [q] at e
      | sto M => simp [q] at e
      | val x =>
        simp only [q, Option.some.injEq, Prod.mk.injEq] at e
        obtain ⟨rfl, rfl⟩ := e
        obtain ⟨u, h1, h2⟩ := S.val i _ q
        rw [r'] at h1; cases h1
        exact ⟨G, S, Same.refl G, h2⟩
      | own x =>
        simp only [q, Option.some.injEq, Prod.mk.injEq] at e
        obtain ⟨rfl, rfl⟩ := e
        obtain ⟨p, h1, hb, hg, hc⟩ := S.own i _ q
        rw [r'] at h1; cases h1
        obtain ⟨u, hu, hv⟩ := hc.frz hg
        have sg : Same G (upd G p u) := upd_same_none hg
        have hi : i < env.length := (List.getElem?_eq_some_iff.mp q).1
        have nb3 : ∀ a w, B.3 a = some w → a ≠ p := fun a w e z => by rw [z, hb.2] at e; cases e
        have nm : NM u := hc.nm hu
        refine ⟨upd G p u, ⟨fun a w h => ?_, S.g0.trans sg, S.h0, fun a w e => by obtain ⟨x1, x2, x3⟩ := S.lk a w e; exact ⟨x1, x2, x3.imp id fun x => ⟨by rw [upd_ne (nb3 a w e)]; exact x.1, x.2⟩⟩, fun a w h => ?_, by rw [List.length_set]; exact S.len,
          top_set S.top q ⟨fun ⟨_, z⟩ => (nomatch z), fun ⟨_, z⟩ => (nomatch z)⟩, fun M e => (S.sto M (by rw [← sto_set (s := .own x) (s' := .val x) q (fun _ z => (nomatch z)) (fun _ z => (nomatch z))]; exact e)).mark hg nm, fun j y h => ?_, fun j y h => ?_, fun j k y z b h1 h2 h3 h4 => ?_⟩, sg, hv⟩
        · by_cases e : a = p
          · subst e; rw [upd_same] at h; cases h; exact .inl hu
          · rw [upd_ne e] at h; exact S.gh a w h
        · by_cases e : a = p
          · subst e; rw [upd_same] at h; cases h; exact .inr (.inl ⟨hb.1, fun _ => nm⟩)
          · rw [upd_ne e] at h; exact S.add a w h
        · by_cases e : i = j
          · subst e
            rw [List.getElem?_set_self hi] at h
            cases h
            exact ⟨_, r', hv⟩
          · rw [List.getElem?_set_ne e] at h
            obtain ⟨v2, a1, a2⟩ := S.val j y h
            exact ⟨v2, a1, a2.same sg⟩
        · by_cases e : i = j
          · subst e
            rw [List.getElem?_set_self hi] at h
            cases h
          · rw [List.getElem?_set_ne e] at h
            obtain ⟨p2, a1, a2, a3, a4⟩ := S.own j y h
            have np : p2 ≠ p := fun z => e (S.dis i j _ _ p q h r' (by rw [← z]; exact a1))
            exact ⟨p2, a1, a2, by rw [upd_ne np]; exact a3, a4.same sg fun _ z => z⟩
        · by_cases e1 : i = j
          · subst e1
            rw [List.getElem?_set_self hi] at h1
            cases h1
          · by_cases e2 : i = k
            · subst e2
              rw [List.getElem?_set_self hi] at h2
              cases h2
            · rw [List.getElem?_set_ne e1] at h1
              rw [List.getElem?_set_ne e2] at h2
              exact S.dis j k y z b h1 h2 h3 h4

/-! ### what an expression does -/
inductive Xn where
  | x0 (c : Str) | x1 (c f : Str) (v : D)
def XRel (T : Stt) (G H : Hp) (x : Xn) (cls : Value) (d : Option Addr) : Prop :=
  match x with
  | .x0 c => ∃ C, T.mg c = some (.ref C) ∧ cls = .ref C ∧ d = none
  | .x1 c f y => ∃ C dd v, T.mg c = some (.ref C) ∧ cls = .ref C ∧ d = some dd ∧ G dd = some (.xd [(f, v)]) ∧ VRel T G v y
inductive Out (α : Type) where
  | ok (a : α) (e : Ev) | exc (x : Xn) (e : Ev) | stk
def Out.bind {α β : Type} (o : Out α) (k : α → Ev → Out β) : Out β := match o with
  | .ok a e => k a e
  | .exc x e => .exc x e
  | .stk => .stk
@[simp] theorem Out.bind_ok {α β : Type} (a : α) (e : Ev) (k : α → Ev → Out β) : (Out.ok a e).bind k = k a e := rfl
@[simp] theorem Out.bind_exc {α β : Type} (x : Xn) (e : Ev) (k : α → Ev → Out β) : (Out.exc x e : Out α).bind k = .exc x e := rfl
@[simp] theorem Out.bind_stk {α β : Type} (k : α → Ev → Out β) : (Out.stk : Out α).bind k = .stk := rfl
abbrev FE := Ev → Out EV

/-- the reading of an outcome: ok, exception, never stuck -/
def oE {α : Type} (T : Stt) (B : Bse) (W : WX) (σ : St) (G : Hp) (o : Out α) (R : α → Ev → Hp → Hp → Prop) : Prop := match o with
  | .ok a e' => ∀ G' H', StR T B G' H' σ e' → Same G G' → R a e' G' H'
  | .exc x e' => ∀ cls d G' H', StR T B G' H' σ e' → Same G G' → XRel T G' H' x cls d → W cls d σ H'
  | .stk => False
def tE (T : Stt) (B : Bse) (W : WX) (f : FE) : TE := fun σ H Q => ∃ G env, StR T B G H σ env ∧ oE T B W σ G (f env) fun ev e' G' H' => ∀ v, ERel T G' σ v ev → Q v H'
structure DE (X : Cx) (e : Expr) (f : FE) : Prop where
  run : ∀ (B : Bse) (W : WX), Takes X W → PE X e (tE ⟨X.K, X.mg⟩ B W f)
theorem oE.mono {α : Type} {T : Stt} {B : Bse} {W : WX} {σ : St} {G G2 : Hp} {o : Out α} {R R' : α → Ev → Hp → Hp → Prop} (h : oE T B W σ G o R) (s : Same G G2) (m : ∀ a e' G' H', Same G2 G' → R a e' G' H' → R' a e' G' H') : oE T B W σ G2 o R' := by
  cases o with
  | ok a e' => exact fun G' H' S l => m a e' G' H' l (h G' H' S (s.trans l))
  | exc x e' => exact fun cls d G' H' S l => h cls d G' H' S (s.trans l)
  | stk => exact h
theorem _root_.L2.PE.imp {X : Cx} {e : Expr} {t t' : TE} (h : PE X e t) (w : ∀ σ H Q, t' σ H Q → t σ H Q) : PE X e t' := ⟨fun pins s σ H Q I q => h.run pins s σ H Q I (w σ H Q q)⟩
theorem _root_.L2.PT.imp {X : Cx} {e : Expr} {t t' : TT} (h : PT X e t) (w : ∀ σ H Q, t' σ H Q → t σ H Q) : PT X e t' := ⟨fun pins s σ H Q I q => h.run pins s σ H Q I (w σ H Q q)⟩
theorem _root_.L2.PA.imp {X : Cx} {e : List Expr} {t t' : TA} (h : PA X e t) (w : ∀ σ H Q, t' σ H Q → t σ H Q) : PA X e t' := ⟨fun p pins s σ H Q I q => h.run p pins s σ H Q I (w σ H Q q)⟩
theorem _root_.L2.PS.imp {X : Cx} {e : Stmt} {t t' : TS} (h : PS X e t) (w : ∀ D σ H, t' D σ H → t D σ H) : PS X e t' := ⟨fun pins s σ H D I q => h.run pins s σ H D I (w D σ H q)⟩
theorem _root_.L2.PSs.imp {X : Cx} {e : List Stmt} {t t' : TS} (h : PSs X e t) (w : ∀ D σ H, t' D σ H → t D σ H) : PSs X e t' := ⟨fun pins s σ H D I q => h.run pins s σ H D I (w D σ H q)⟩

/-! ### names, constants -/
def E.var (i : Nat) : FE := fun env => match env[i]? with
  | some (.val d) => .ok (.dv d) env
  | some (.own _) => .ok (.ow i) env
  | _ => .stk
def E.cst (d : D) : FE := fun env => .ok (.dv d) env
section
variable {X : Cx}
theorem tE_var {T : Stt} {B : Bse} {W : WX} {i : Nat} {σ : St} {H : Hp} {Q : VK} (h : tE T B W (E.var i) σ H Q) : tVar i σ H Q := by
  obtain ⟨G, env, S, h⟩ := h
  unfold E.var at h
  cases q : env[i]? with
  | none => simp [q, oE] at h
  | some sl =>
    cases sl with
    | no => simp [q, oE] at h
    | sto M => simp [q, oE] at h
    | val d =>
      simp only [q, oE] at h
      obtain ⟨v, h1, h2⟩ := S.val i d q
      exact ⟨v, h1, h G H S (Same.refl G) v h2⟩
    | own d =>
      simp only [q, oE] at h
      obtain ⟨p, h1, _⟩ := S.own i d q
      exact ⟨_, h1, h G H S (Same.refl G) _ h1⟩
theorem de_var (i : Nat) {x : Str} {pos : Pos} (hN : X.N[i]? = some x := by rfl) (hv : Vis X.env.scope x := by first | exact Or.inl rfl | exact Or.inr (Or.inl rfl) | exact Or.inr (Or.inr rfl)) (hd : (x == ("__debug__" : Str)) = false := by decide)
    (hcd : (x == ("__classdict__" : Str)) = false := by decide) : DE X (.Name x pos) (E.var i) := ⟨fun B W tk => (pe_var hN hv hd hcd).imp fun σ H Q h => tE_var h⟩
theorem de_cst {e : Expr} {v : V} {d : D} (h : PE X e (tC v)) (r : ∀ G, VRel ⟨X.K, X.mg⟩ G v d) : DE X e (E.cst d) := ⟨fun B W tk => h.imp fun σ H Q ⟨G, env, S, h⟩ => h G H S (Same.refl G) v (r G)⟩
theorem de_int {i j pos} : DE X (.Constant (.int i) j pos) (E.cst (.int i)) := de_cst pe_int fun G => .int i
theorem de_bl {b j pos} : DE X (.Constant (.bool b) j pos) (E.cst (.bl b)) := de_cst pe_bl fun G => .bl b
theorem de_non {j pos} : DE X (.Constant .none j pos) (E.cst .non) := de_cst pe_non fun G => .non
theorem de_str {x j pos} : DE X (.Constant (.str x) j pos) (E.cst (.str x)) := de_cst pe_str fun G => .str x
theorem de_gint {x : Str} {i : Int} {t : Tok} {pos : Pos} (hm : X.mg x = some (.int i t)) (hg : Gl X x := by rfl) (hd : (x == ("__debug__" : Str)) = false := by decide) : DE X (.Name x pos) (E.cst (.int i)) := de_cst (v := .int i) (pe_glob hg hm ⟨t, rfl⟩ hd) fun G => .int i
theorem de_gstr {x y : Str} {t : Tok} {pos : Pos} (hm : X.mg x = some (.str y t)) (hg : Gl X x := by rfl) (hd : (x == ("__debug__" : Str)) = false := by decide) : DE X (.Name x pos) (E.cst (.str y)) := de_cst (v := .str y) (pe_glob hg hm ⟨t, rfl⟩ hd) fun G => .str y
end

/-! ### two operands -/
def E.bin (op : D → D → Option D) (f g : FE) : FE := fun env => (f env).bind fun a e1 => (g e1).bind fun b e2 =>
  match rd e2 a, rd e2 b with
  | some x, some y => match op x y with
    | some z => .ok (.dv z) e2
    | none => .stk
  | _, _ => .stk
/-- the reading of an operation on data -/
def rD (T : Stt) (op : D → D → Option D) : R2 := fun x y H Q => ∃ G d e z, Le G H ∧ ORel T G H x d ∧ ORel T G H y e ∧ op d e = some z ∧
  ∀ v G' H', Same G G' → Le G' H' → Same H H' → Adds G H G' → VRel T G' v z → Q v H'
def OpD (X : Cx) (F : Value → Value → Sem Value) (op : D → D → Option D) : Prop := OpR X F (rD ⟨X.K, X.mg⟩ op)
theorem tE_bin {T : Stt} {B : Bse} {W : WX} {op : D → D → Option D} {f g : FE} {σ : St} {H : Hp} {Q : VK} (h : tE T B W (E.bin op f g) σ H Q) : tOp (rD T op) (tE T B W f) (tE T B W g) σ H Q := by
  obtain ⟨G, env, S, h⟩ := h
  refine ⟨G, env, S, ?_⟩
  unfold E.bin at h
  cases q : f env with
  | stk => simp [q, oE] at h
  | exc x e' => simp only [q, Out.bind_exc] at h; exact h
  | ok a e1 =>
    simp only [q, Out.bind_ok] at h
    refine fun G1 H1 S1 l1 v1 r1 => ⟨G1, e1, S1, ?_⟩
    cases q2 : g e1 with
    | stk => simp [q2, oE] at h
    | exc x e' =>
      simp only [q2, Out.bind_exc] at h
      exact fun cls d G' H' S' l' => h cls d G' H' S' (l1.trans l')
    | ok b e2 =>
      simp only [q2, Out.bind_ok] at h
      refine fun G2 H2 S2 l2 v2 r2 => ?_
      cases qa : rd e2 a with
      | none => simp [qa, oE] at h
      | some x =>
        cases qb : rd e2 b with
        | none => simp [qa, qb, oE] at h
        | some y =>
          simp only [qa, qb] at h
          cases qz : op x y with
          | none => simp [qz, oE] at h
          | some z =>
            simp only [qz] at h
            refine ⟨G2, x, y, z, S2.gh, S2.orel (r1.same l2) qa, S2.orel r2 qb, qz, fun v G' H' g gh hh ad rv => ?_⟩
            exact h G' H' (S2.ext g gh hh ad) ((l1.trans l2).trans g) v rv
theorem de_bin {X : Cx} {a b : Expr} {f g : FE} {op : D → D → Option D} {o : Operator} {pos : Pos} (ho : OpD X (binaryOp o) op) (ha : DE X a f) (hb : DE X b g) : DE X (.BinOp a o b pos) (E.bin op f g) :=
  ⟨fun B W tk => (pe_op ho (ha.run B W tk) (hb.run B W tk)).imp fun σ H Q h => tE_bin h⟩
theorem de_cmp {X : Cx} {a b : Expr} {f g : FE} {op : D → D → Option D} {o : CmpOp} {pos : Pos} (ho : OpD X (compareOp o) op) (ha : DE X a f) (hb : DE X b g) (hm : behindInMarks o b = false := by first | exact nobehind _ (by decide) (by decide) | rfl) : DE X (.Compare a [o] [b] pos) (E.bin op f g) :=
  ⟨fun B W tk => (pe_cmpR ho (ha.run B W tk) (hb.run B W tk) hm).imp fun σ H Q h => tE_bin h⟩
end DL
-- DL2
set_option maxRecDepth 100000
set_option maxHeartbeats 4000000
/-! DL2: operations on data. -/
namespace DL
open PySem PySem.Spec PyProof.Rows L2

/-! ### what is read -/
section
variable {T : Stt} {G H : Hp} {v : V}
theorem ORel.non (r : ORel T G H v .non) : v = .non := by
  rcases r with r | ⟨p, _, c⟩
  · cases r; rfl
  · exact c.elim
theorem ORel.bl {b : Bool} (r : ORel T G H v (.bl b)) : v = .bl b := by
  rcases r with r | ⟨p, _, c⟩
  · cases r; rfl
  · exact c.elim
theorem ORel.int {i : Int} (r : ORel T G H v (.int i)) : v = .int i := by
  rcases r with r | ⟨p, _, c⟩
  · cases r; rfl
  · exact c.elim
theorem ORel.str {x : Str} (r : ORel T G H v (.str x)) : v = .str x := by
  rcases r with r | ⟨p, _, c⟩
  · cases r; rfl
  · exact c.elim
theorem ORel.tup {ds : List D} (l : Le G H) (r : ORel T G H v (.tup ds)) : ∃ a vs, v = .ref a ∧ SqT T.K H a vs ∧ TupG T.K G a vs ∧ VRels T G vs ds := by
  rcases r with r | ⟨p, _, c⟩
  · cases r with
    | tup h r => exact ⟨_, _, rfl, h.sq l, h, r⟩
  · exact c.elim
theorem ORel.lst {ds : List D} (l : Le G H) (r : ORel T G H v (.lst ds)) : ∃ a vs, v = .ref a ∧ H a = some (.lst vs) ∧ VRels T G vs ds := by
  rcases r with r | ⟨p, e, c⟩
  · cases r with
    | lst h r => exact ⟨_, _, rfl, l.nd h True.intro, r⟩
  · obtain ⟨vs, h, r⟩ := c
    exact ⟨p, vs, e, h, r⟩
theorem ORel.dcK {ks : List Key} {ds : List D} (l : Le G H) (r : ORel T G H v (.dcK ks ds)) : ∃ a kvs, v = .ref a ∧ Rd H a (.dK kvs) ∧ kvs.map (·.1) = ks ∧ VRels T G (kvs.map (·.2)) ds := by
  rcases r with r | ⟨p, e, c⟩
  · cases r with
    | dcK h r => exact ⟨_, _, rfl, l.rd (fun _ z => nomatch z) (.inl h), rfl, r⟩
  · obtain ⟨kvs, h, k, r⟩ := c
    exact ⟨p, kvs, e, .inl h, k, r⟩
theorem ORel.dcT {ks : List (List Key)} {ds : List D} (l : Le G H) (r : ORel T G H v (.dcT ks ds)) : ∃ a kvs, v = .ref a ∧ Rd H a (.dT kvs) ∧ kvs.map (·.1) = ks ∧ VRels T G (kvs.map (·.2)) ds := by
  rcases r with r | ⟨p, e, c⟩
  · cases r with
    | dcT h r => exact ⟨_, _, rfl, l.rd (fun _ z => nomatch z) (.inl h), rfl, r⟩
  · obtain ⟨kvs, h, k, r⟩ := c
    exact ⟨p, kvs, e, .inl h, k, r⟩
theorem ORel.scr {is : List Int} (l : Le G H) (r : ORel T G H v (.scr is)) : ∃ a, v = .ref a ∧ SqL T.K H a (is.map V.int) := by
  rcases r with r | ⟨p, _, c⟩
  · cases r with
    | scr h => exact ⟨_, rfl, l.sqL h⟩
  · exact c.elim
theorem ints_rel (is : List Int) : VRels T G (is.map V.int) (is.map .int) := by
  induction is with
  | nil => exact .nil
  | cons i is ih => exact .cons (.int i) ih
theorem VRels.ints : ∀ {vs : List V} {is : List Int}, VRels T G vs (is.map .int) → vs = is.map V.int
  | _, [], .nil => rfl
  | _, i :: is, .cons r t => by
    cases r
    rw [VRels.ints t]
    rfl
theorem VRels.bls : ∀ {vs : List V} {is : List Bool}, VRels T G vs (is.map .bl) → vs = is.map V.bl
  | _, [], .nil => rfl
  | _, i :: is, .cons r t => by
    cases r
    rw [VRels.bls t]
    rfl
theorem VRels.strs : ∀ {vs : List V} {is : List Str}, VRels T G vs (is.map .str) → vs = is.map V.str
  | _, [], .nil => rfl
  | _, i :: is, .cons r t => by
    cases r
    rw [VRels.strs t]
    rfl
end

/-! ### plain data -/
mutual
def toPy : D → Option PyData
  | .non => some .none
  | .bl b => some (.bool b)
  | .int i => some (.int i)
  | .str x => some (.str x)
  | .tup xs => (toPys xs).map .tuple
  | .lst xs => (toPys xs).map .list
  | .dcK _ _ => none
  | .dcT _ _ => none
  | .web _ _ _ => none
  | .exc0 _ => none
  | .exc1 _ _ _ => none
  | .ptr _ => none
  | .obj _ _ _ => none
  | .scr _ => none
  | .tab _ => none
  | .adr _ _ => none
def toPys : List D → Option (List PyData)
  | [] => some []
  | x :: xs => match toPy x, toPys xs with
    | some p, some q => some (p :: q)
    | _, _ => none
end
mutual
theorem VRel.dp {T : Stt} {G H : Hp} (l : Le G H) : ∀ {v : V} {d : D} {p : PyData}, VRel T G v d → toPy d = some p → Dp T.K H v p
  | _, _, _, .non, e => by rw [toPy] at e; cases e; exact .non
  | _, _, _, .bl b, e => by rw [toPy] at e; cases e; exact .bl b
  | _, _, _, .int i, e => by rw [toPy] at e; cases e; exact .int i
  | _, _, _, .str x, e => by rw [toPy] at e; cases e; exact .str x
  | _, _, p, .tup (ds := ds) h r, e => by
    rw [toPy] at e
    cases q : toPys ds with
    | none => rw [q] at e; cases e
    | some ps =>
      rw [q] at e
      cases e
      exact .tup (h.sq l) (VRels.dp l r q)
  | _, _, p, .lst (ds := ds) h r, e => by
    rw [toPy] at e
    cases q : toPys ds with
    | none => rw [q] at e; cases e
    | some ps =>
      rw [q] at e
      cases e
      exact .lst (SqL.of (l.nd h True.intro)) (VRels.dp l r q)
  | _, _, _, .dcK _ _, e => by rw [toPy] at e; cases e
  | _, _, _, .dcT _ _, e => by rw [toPy] at e; cases e
  | _, _, _, .web _ _ _ _ _, e => by rw [toPy] at e; cases e
  | _, _, _, .exc0 _ _, e => by rw [toPy] at e; cases e
  | _, _, _, .exc1 _ _ _ _, e => by rw [toPy] at e; cases e
  | _, _, _, .ptr _, e => by rw [toPy] at e; cases e
  | _, _, _, .scr _, e => by rw [toPy] at e; cases e
  | _, _, _, .adr _ _, e => by rw [toPy] at e; cases e
theorem VRels.dp {T : Stt} {G H : Hp} (l : Le G H) : ∀ {v : List V} {d : List D} {p : List PyData}, VRels T G v d → toPys d = some p → DpAll T.K H v p
  | _, _, _, .nil, e => by rw [toPys] at e; cases e; exact .nil
  | _, _, _, .cons (d := d) (ds := ds) r rs, e => by
    rw [toPys] at e
    cases q : toPy d with
    | none => simp [q] at e
    | some p1 =>
      cases q2 : toPys ds with
      | none => simp [q, q2] at e
      | some p2 =>
        simp only [q, q2, Option.some.injEq] at e
        subst e
        exact .cons (VRel.dp l r q) (VRels.dp l rs q2)
end
theorem ORel.dp {T : Stt} {G H : Hp} (l : Le G H) {v : V} {d : D} {p : PyData} (r : ORel T G H v d) (e : toPy d = some p) : Dp T.K H v p := by
  rcases r with r | ⟨a, rfl, c⟩
  · exact r.dp l e
  · cases d with
    | lst ds =>
      obtain ⟨vs, h, r⟩ := c
      rw [toPy] at e
      cases q : toPys ds with
      | none => rw [q] at e; cases e
      | some ps =>
        rw [q] at e
        cases e
        exact .lst (SqL.of h) (r.dp l q)
    | dcK _ _ => rw [toPy] at e; cases e
    | dcT _ _ => rw [toPy] at e; cases e
    | _ => exact c.elim

/-! ### an operation's end -/
abbrev Kont (T : Stt) (G H : Hp) (z : D) (Q : VK) : Prop := ∀ v G' H', Same G G' → Le G' H' → Same H H' → Adds G H G' → VRel T G' v z → Q v H'
theorem Kont.same {T : Stt} {G H : Hp} {z : D} {Q : VK} (k : Kont T G H z Q) (l : Le G H) {v : V} (r : VRel T G v z) : Q v H := k v G H (Same.refl G) l (Same.refl H) (fun a u e => .inl e) r
theorem ng_of {G H : Hp} (l : Le G H) {p : Addr} (n : H p = none) : G p = none := l.none n
theorem le_new {G H : Hp} (l : Le G H) {p : Addr} {o : HO} : Le (upd G p o) (upd H p o) := fun a u h => by
  by_cases e : a = p
  · subst e; rw [upd_same] at h; rw [upd_same]; exact .inl h
  · rw [upd_ne e] at h; rw [upd_ne e]; exact l a u h
theorem ad_new {G H : Hp} {p : Addr} {o : HO} (n : H p = none) (nm : NM o) : Adds G H (upd G p o) := fun a u h => by
  by_cases e : a = p
  · subst e; rw [upd_same] at h; cases h; exact .inr (.inl ⟨n, nm⟩)
  · rw [upd_ne e] at h; exact .inl h
theorem Kont.new {T : Stt} {G H : Hp} {z : D} {Q : VK} (k : Kont T G H z Q) (l : Le G H) {p : Addr} {o : HO} (n : H p = none) (r : VRel T (upd G p o) (.ref p) z) (nm : NM o := by intro _ z; exact nomatch z) : Q (.ref p) (upd H p o) :=
  k _ _ _ (upd_same_none (ng_of l n)) (le_new l) (upd_same_none n) (ad_new n nm) r
theorem Kont.tup {T : Stt} {G H : Hp} {ds : List D} {Q : VK} (k : Kont T G H (.tup ds) Q) (l : Le G H) {p : Addr} {vs : List V} (n : H p = none) (r : VRels T G vs ds) : Q (.ref p) (upd H p (.tup vs)) :=
  k.new l n (.tup (.inl upd_same) (r.same (upd_same_none (ng_of l n))))
theorem Kont.lst {T : Stt} {G H : Hp} {ds : List D} {Q : VK} (k : Kont T G H (.lst ds) Q) (l : Le G H) {p : Addr} {vs : List V} (n : H p = none) (r : VRels T G vs ds) : Q (.ref p) (upd H p (.lst vs)) :=
  k.new l n (.lst upd_same (r.same (upd_same_none (ng_of l n))))

/-! ### the operators -/
def addD : D → D → Option D
  | .int i, .int j => some (.int (i + j))
  | .str x, .str y => if x.length + y.length ≤ sizeLine then some (.str (x ++ y)) else none
  | .tup xs, .tup ys => if xs.length + ys.length ≤ sizeLine then some (.tup (xs ++ ys)) else none
  | .lst xs, .lst ys => if xs.length + ys.length ≤ sizeLine then some (.lst (xs ++ ys)) else none
  | .int i, .bl b => some (.int (i + b2i b))
  | _, _ => none
section
variable {X : Cx}
theorem op_addD : OpD X (binaryOp .Add) addD := by
  intro pins s σ H x y v u Q I rx ry h
  obtain ⟨G, d, e, z, l, ox, oy, hz, k⟩ := h
  unfold addD at hz
  split at hz
  · cases hz
    obtain rfl := ox.int
    obtain rfl := oy.int
    exact op_add pins s σ H _ _ v u Q I rx ry ⟨_, _, rfl, rfl, Kont.same k l (.int _)⟩
  · split at hz
    · rename_i hl
      cases hz
      obtain rfl := ox.str
      obtain rfl := oy.str
      exact op_add_str pins s σ H _ _ v u Q I rx ry ⟨_, _, rfl, rfl, hl, Kont.same k l (.str _)⟩
    · cases hz
  · split at hz
    · rename_i xs ys hl
      cases hz
      obtain ⟨a, vs, rfl, h1, g1, r1⟩ := ox.tup l
      obtain ⟨b, ws, rfl, h2, g2, r2⟩ := oy.tup l
      refine op_catA pins s σ H _ _ v u Q I rx ry ⟨a, b, vs, ws, rfl, rfl, h1, h2, by rw [r1.length, r2.length]; exact hl, fun e => ?_, fun _ e => ?_, fun _ _ p hp => ?_⟩
      · subst e
        cases r1
        exact Kont.same k l (.tup g2 r2)
      · subst e
        cases r2
        rw [List.append_nil] at k
        exact Kont.same k l (.tup g1 r1)
      · exact Kont.tup k l hp (r1.append r2)
    · cases hz
  · split at hz
    · rename_i xs ys hl
      cases hz
      obtain ⟨a, vs, rfl, h1, r1⟩ := ox.lst l
      obtain ⟨b, ws, rfl, h2, r2⟩ := oy.lst l
      exact op_cat pins s σ H _ _ v u Q I rx ry ⟨a, b, vs, ws, rfl, rfl, h1, h2, by rw [r1.length, r2.length]; exact hl, fun p hp => Kont.lst k l hp (r1.append r2)⟩
    · cases hz
  · cases hz
    obtain rfl := ox.int
    obtain rfl := oy.bl
    exact op_add_ib pins s σ H _ _ v u Q I rx ry ⟨_, _, rfl, rfl, Kont.same k l (.int _)⟩
  · cases hz
/-- an operator on two ints -/
def iiD (c : Int → Int → Bool) (f : Int → Int → Int) : D → D → Option D
  | .int i, .int j => if c i j = true then some (.int (f i j)) else none
  | _, _ => none
theorem op_iiD {F : Value → Value → Sem Value} {C : Int → Int → Prop} {c : Int → Int → Bool} {f : Int → Int → Int} (h : OpR X F (rI C fun i j => .int (f i j))) (hc : ∀ i j, c i j = true → C i j) : OpD X F (iiD c f) := by
  intro pins s σ H x y v u Q I rx ry h2
  obtain ⟨G, d, e, z, l, ox, oy, hz, k⟩ := h2
  unfold iiD at hz
  split at hz
  · split at hz
    · rename_i q
      cases hz
      obtain rfl := ox.int
      obtain rfl := oy.int
      exact h pins s σ H _ _ v u Q I rx ry ⟨_, _, rfl, rfl, hc _ _ q, Kont.same k l (.int _)⟩
    · cases hz
  · cases hz
def subD : D → D → Option D := iiD (fun _ _ => true) fun i j => i - j
theorem op_subD : OpD X (binaryOp .Sub) subD := op_iiD (C := fun _ _ => True) (fun pins s σ H x y v u Q I rx ry ⟨i, j, a, b, _, q⟩ => op_sub pins s σ H x y v u Q I rx ry ⟨i, j, a, b, q⟩) fun _ _ _ => True.intro
def mulD : D → D → Option D := iiD (fun i j => decide (-(2 ^ 64) < i ∧ i < 2 ^ 64) || decide (-(2 ^ 64) < j ∧ j < 2 ^ 64)) fun i j => i * j
theorem op_mulD : OpD X (binaryOp .Mult) mulD := op_iiD op_mul fun i j h => by
  rcases Bool.or_eq_true_iff.mp h with h | h
  · exact .inl (of_decide_eq_true h)
  · exact .inr (of_decide_eq_true h)
def fdivD : D → D → Option D := iiD (fun _ j => decide (j ≠ 0 ∧ j.natAbs < 1073741824)) fun i j => i.fdiv j
theorem op_fdivD : OpD X (binaryOp .FloorDiv) fdivD := op_iiD op_fdivN fun i j h => of_decide_eq_true (p := j ≠ 0 ∧ j.natAbs < 1073741824) h
def modD : D → D → Option D := iiD (fun _ j => decide (j ≠ 0)) fun i j => i.fmod j
theorem op_modD : OpD X (binaryOp .Mod) modD := op_iiD op_modN fun i j h => of_decide_eq_true h
/-- a comparison of two ints -/
def cmD (p : Int → Int → Bool) : D → D → Option D
  | .int i, .int j => some (.bl (p i j))
  | _, _ => none
theorem op_cmD {F : Value → Value → Sem Value} {p : Int → Int → Bool} (h : OpR X F (rI0 fun i j => .bl (p i j))) : OpD X F (cmD p) := by
  intro pins s σ H x y v u Q I rx ry h2
  obtain ⟨G, d, e, z, l, ox, oy, hz, k⟩ := h2
  unfold cmD at hz
  split at hz
  · cases hz
    obtain rfl := ox.int
    obtain rfl := oy.int
    exact h pins s σ H _ _ v u Q I rx ry ⟨_, _, rfl, rfl, Kont.same k l (.bl _)⟩
  · cases hz
def leD : D → D → Option D := cmD fun i j => decide (i ≤ j)
def gtD : D → D → Option D := cmD fun i j => decide (j < i)
def geD : D → D → Option D := cmD fun i j => decide (j ≤ i)
theorem op_leD : OpD X (compareOp .LtE) leD := op_cmD op_le
theorem op_gtD : OpD X (compareOp .Gt) gtD := op_cmD op_gt
theorem op_geD : OpD X (compareOp .GtE) geD := op_cmD op_ge
def intsOf : List D → Option (List Int)
  | [] => some []
  | .int i :: r => (intsOf r).map (i :: ·)
  | _ :: _ => none
theorem intsOf_eq : ∀ {ds : List D} {is : List Int}, intsOf ds = some is → ds = is.map .int
  | [], is, h => by rw [intsOf] at h; cases h; rfl
  | .int i :: r, is, h => by
    rw [intsOf] at h
    cases q : intsOf r with
    | none => rw [q] at h; cases h
    | some js =>
      rw [q] at h
      cases h
      rw [intsOf_eq q]
      rfl
  | .non :: _, _, h => by simp [intsOf] at h
  | .bl _ :: _, _, h => by simp [intsOf] at h
  | .str _ :: _, _, h => by simp [intsOf] at h
  | .tup _ :: _, _, h => by simp [intsOf] at h
  | .lst _ :: _, _, h => by simp [intsOf] at h
  | .dcK _ _ :: _, _, h => by simp [intsOf] at h
  | .dcT _ _ :: _, _, h => by simp [intsOf] at h
  | .web _ _ _ :: _, _, h => by simp [intsOf] at h
  | .exc0 _ :: _, _, h => by simp [intsOf] at h
  | .exc1 _ _ _ :: _, _, h => by simp [intsOf] at h
@[simp] theorem intsOf_map : ∀ is : List Int, intsOf (is.map .int) = some is
  | [] => rfl
  | i :: is => by
    show (intsOf (is.map .int)).map (i :: ·) = some (i :: is)
    rw [intsOf_map is]
    rfl
def ltD : D → D → Option D
  | .int i, .int j => some (.bl (decide (i < j)))
  | .tup xs, .tup ys => match intsOf xs, intsOf ys with
    | some a, some b => some (.bl (HT.lexLt a b))
    | _, _ => none
  | .str x, .str y => some (.bl (decide (x.cps.toList < y.cps.toList)))
  | _, _ => none
theorem op_ltD (hu : X.A.units < cLine) : OpD X (compareOp .Lt) ltD := by
  intro pins s σ H x y v u Q I rx ry h2
  obtain ⟨G, d, e, z, l, ox, oy, hz, k⟩ := h2
  unfold ltD at hz
  split at hz
  · cases hz
    obtain rfl := ox.int
    obtain rfl := oy.int
    exact op_lt pins s σ H _ _ v u Q I rx ry ⟨_, _, rfl, rfl, Kont.same k l (.bl _)⟩
  · split at hz
    · rename_i q1 q2
      cases hz
      obtain ⟨a, vs, rfl, h1, g1, r1⟩ := ox.tup l
      obtain ⟨b, ws, rfl, h2, g2, r2⟩ := oy.tup l
      rw [intsOf_eq q1] at r1
      rw [intsOf_eq q2] at r2
      rw [r1.ints] at h1
      rw [r2.ints] at h2
      exact op_ltT hu pins s σ H _ _ v u Q I rx ry ⟨a, b, _, _, rfl, rfl, h1, h2, Kont.same k l (.bl _)⟩
    · cases hz
  · cases hz
    obtain rfl := ox.str
    obtain rfl := oy.str
    exact op_lt_str pins s σ H _ _ v u Q I rx ry ⟨_, _, rfl, rfl, Kont.same k l (.bl _)⟩
  · cases hz
/-- == of data -/
def eqB (d e : D) : Option Bool := match toPy d, toPy e with
  | some p, some q => if SeqAt.shaped p = true ∧ SeqAt.shaped q = true then some (PyData.eqv p q) else none
  | _, _ => none
def eqS : D → D → Option Bool
  | .str x, .str y => some (decide (x = y))
  | _, _ => none
def eqE (d e : D) : Option Bool := match eqS d e with
  | some b => some b
  | none => eqB d e
def eqD (d e : D) : Option D := (eqE d e).map .bl
def neD (d e : D) : Option D := (eqE d e).map fun b => .bl (!b)
theorem eqS_some {d e : D} {b : Bool} (h : eqS d e = some b) : ∃ x y, d = .str x ∧ e = .str y ∧ b = decide (x = y) := by
  unfold eqS at h
  split at h
  · cases h; exact ⟨_, _, rfl, rfl, rfl⟩
  · cases h
theorem eqB_some {d e : D} {b : Bool} (h : eqB d e = some b) : ∃ p q, toPy d = some p ∧ toPy e = some q ∧ SeqAt.shaped p = true ∧ SeqAt.shaped q = true ∧ b = PyData.eqv p q := by
  unfold eqB at h
  split at h
  · split at h
    · rename_i p q e1 e2 hs
      cases h
      exact ⟨p, q, e1, e2, hs.1, hs.2, rfl⟩
    · cases h
  · cases h
theorem op_eqDD (hu : X.A.units + 64 < cLine) : OpD X (compareOp .Eq) eqD := by
  intro pins s σ H x y v u Q I rx ry h2
  obtain ⟨G, d, e, z, l, ox, oy, hz, k⟩ := h2
  unfold eqD eqE at hz
  cases q0 : eqS d e with
  | some b =>
    rw [q0] at hz
    cases hz
    obtain ⟨x, y, rfl, rfl, rfl⟩ := eqS_some q0
    obtain rfl := ox.str
    obtain rfl := oy.str
    refine op_eq pins s σ H _ _ v u Q I rx ry ⟨rfl, ?_⟩
    have := Kont.same k l (v := .bl _) (.bl _)
    simpa using this
  | none =>
  rw [q0] at hz
  cases q : eqB d e with
  | none => dsimp only at hz; rw [q] at hz; cases hz
  | some b =>
    dsimp only at hz
    rw [q] at hz
    cases hz
    obtain ⟨p, r, e1, e2, s1, s2, rfl⟩ := eqB_some q
    exact op_eqD hu pins s σ H _ _ v u Q I rx ry ⟨p, r, ox.dp l e1, oy.dp l e2, s1, s2, Kont.same k l (.bl _)⟩
theorem op_neDD (hu : X.A.units + 64 < cLine) : OpD X (compareOp .NotEq) neD := by
  intro pins s σ H x y v u Q I rx ry h2
  obtain ⟨G, d, e, z, l, ox, oy, hz, k⟩ := h2
  unfold neD eqE at hz
  cases q0 : eqS d e with
  | some b =>
    rw [q0] at hz
    cases hz
    obtain ⟨x, y, rfl, rfl, rfl⟩ := eqS_some q0
    obtain rfl := ox.str
    obtain rfl := oy.str
    refine op_ne pins s σ H _ _ v u Q I rx ry ⟨rfl, ?_⟩
    have := Kont.same k l (v := .bl _) (.bl _)
    simpa using this
  | none =>
  rw [q0] at hz
  cases q : eqB d e with
  | none => dsimp only at hz; rw [q] at hz; cases hz
  | some b =>
    dsimp only at hz
    rw [q] at hz
    cases hz
    obtain ⟨p, r, e1, e2, s1, s2, rfl⟩ := eqB_some q
    exact op_neD hu pins s σ H _ _ v u Q I rx ry ⟨p, r, ox.dp l e1, oy.dp l e2, s1, s2, Kont.same k l (.bl _)⟩
/-! `in` -/
def keyOf : D → Option Key
  | .int i => some (.inl i)
  | .str x => some (.inr x)
  | _ => none
def keysOf : List D → Option (List Key)
  | [] => some []
  | d :: r => match keyOf d, keysOf r with
    | some k, some ks => some (k :: ks)
    | _, _ => none
/-- a dict's key that is a tuple -/
def keyT : D → Option (List Key)
  | .tup [] => none
  | .tup (x :: xs) => keysOf (x :: xs)
  | _ => none
theorem keyOf_v {T : Stt} {G H : Hp} {v : V} {d : D} {k : Key} (o : ORel T G H v d) (h : keyOf d = some k) : v = kV k := by
  cases d with
  | int i => cases h; exact o.int
  | str x => cases h; exact o.str
  | _ => simp [keyOf] at h
theorem keysOf_v {T : Stt} {G : Hp} : ∀ {vs : List V} {ds : List D} {ks : List Key}, VRels T G vs ds → keysOf ds = some ks → vs = ks.map kV
  | _, _, _, .nil, h => by cases h; rfl
  | _, _, _, .cons (d := d) (ds := ds) r rs, h => by
    rw [keysOf] at h
    cases q : keyOf d with
    | none => simp [q] at h
    | some k =>
      cases q2 : keysOf ds with
      | none => simp [q, q2] at h
      | some ks =>
        simp only [q, q2, Option.some.injEq] at h
        subst h
        rw [keyOf_v (H := G) (.inl r) q, keysOf_v rs q2]
        rfl
theorem keyT_v {T : Stt} {G H : Hp} {v : V} {d : D} {k : List Key} (l : Le G H) (o : ORel T G H v d) (h : keyT d = some k) : ∃ b, v = .ref b ∧ H b = some (.tup (k.map kV)) := by
  cases d with
  | tup xs =>
    cases xs with
    | nil => simp [keyT] at h
    | cons x xs =>
      rw [keyT] at h
      obtain ⟨a, vs, rfl, _, g, r⟩ := o.tup l
      rcases g with g | ⟨rfl, _⟩
      · have h1 := l.nd g True.intro
        rw [keysOf_v r h] at h1
        exact ⟨a, rfl, h1⟩
      · cases r
  | _ => simp [keyT] at h
/-- what a dict's lists hold at a key -/
def lookD {κ : Type} [DecidableEq κ] : List κ → List D → κ → Option D
  | k :: ks, d :: ds, x => if k = x then some d else lookD ks ds x
  | _, _, _ => none
theorem valV_look {κ : Type} [DecidableEq κ] {T : Stt} {G : Hp} : ∀ {kvs : List (κ × V)} {ds : List D} {k : κ}, VRels T G (kvs.map (·.2)) ds →
    (∀ d, lookD (kvs.map (·.1)) ds k = some d → ∃ v, valV kvs k = some v ∧ VRel T G v d) ∧ (lookD (kvs.map (·.1)) ds k = none → valV kvs k = none)
  | [], ds, k, r => ⟨fun d h => by simp [lookD] at h, fun _ => rfl⟩
  | (k0, v0) :: kvs, _, k, .cons (d := d0) (ds := ds) r rs => by
    obtain ⟨ih1, ih2⟩ := valV_look (k := k) rs
    by_cases e : k0 = k
    · subst e
      refine ⟨fun d h => ?_, fun h => ?_⟩
      · simp [lookD] at h
        subst h
        exact ⟨v0, by simp [valV], r⟩
      · simp [lookD] at h
    · refine ⟨fun d h => ?_, fun h => ?_⟩
      · simp only [List.map_cons, lookD, if_neg e] at h
        obtain ⟨v, h1, h2⟩ := ih1 d h
        exact ⟨v, by simpa [valV, e] using h1, h2⟩
      · simp only [List.map_cons, lookD, if_neg e] at h
        simpa [valV, e] using ih2 h
def inB (d e : D) : Option Bool := match e with
  | .tup xs => match toPy d, toPys xs with
    | some p, some qs => if SeqAt.shaped p = true ∧ SeqAt.shaped (.tuple qs) = true then some (qs.any fun z => PyData.eqv z p) else none
    | _, _ => none
  | .lst xs => match toPy d, toPys xs with
    | some p, some qs => if SeqAt.shaped p = true ∧ SeqAt.shaped (.list qs) = true then some (qs.any fun z => PyData.eqv z p) else none
    | _, _ => none
  | .str y => match d with
    | .str x => some (!(Builtin.Str.occurrences y x 0 y.length 1).isEmpty)
    | _ => none
  | .dcK ks ds => (keyOf d).map fun k => (lookD ks ds k).isSome
  | .dcT ks ds => (keyT d).map fun k => (lookD ks ds k).isSome
  | _ => none
def inD (d e : D) : Option D := (inB d e).map .bl
def ninD (d e : D) : Option D := (inB d e).map fun b => .bl (!b)
theorem op_inBD {neg : Bool} (hu : X.A.units + 65 < cLine) : OpD X (compareOp (if neg then .NotIn else .In)) (fun d e => (inB d e).map fun b => .bl (if neg then !b else b)) := by
  intro pins s σ H x y v u Q I rx ry h2
  obtain ⟨G, d, e, z, l, ox, oy, hz, k⟩ := h2
  dsimp only at hz
  cases q : inB d e with
  | none => rw [q] at hz; cases hz
  | some b =>
    simp only [q, Option.map_some, Option.some.injEq] at hz
    subst hz
    have kb : Q (.bl (if neg then !b else b)) H := Kont.same k l (.bl _)
    unfold inB at q
    split at q
    · rename_i xs
      split at q
      · rename_i p qs e1 e2
        split at q
        · rename_i hs
          simp only [Option.some.injEq] at q
          subst q
          obtain ⟨as, r1⟩ := Dp.reads I p x v (ox.dp l e1) rx
          have e3 : toPy (.tup xs) = some (.tuple qs) := by rw [toPy, e2]; rfl
          obtain ⟨bs, r2⟩ := Dp.reads I (.tuple qs) y u (oy.dp l e3) ry
          cases neg with
          | false => exact SeqAt.in_tuple_reads r2 r1 (SeqAt.canLay_of_shaped hs.2) (SeqAt.canLay_of_shaped hs.1) (room_in_shaped hs.1 hu) ⟨.bl _, H, I, rfl, kb⟩
          | true => exact SeqAt.notIn_tuple_reads r2 r1 (SeqAt.canLay_of_shaped hs.2) (SeqAt.canLay_of_shaped hs.1) (room_in_shaped hs.1 hu) ⟨.bl _, H, I, rfl, kb⟩
        · cases q
      · cases q
    · rename_i xs
      split at q
      · rename_i p qs e1 e2
        split at q
        · rename_i hs
          simp only [Option.some.injEq] at q
          subst q
          have e3 : toPy (.lst xs) = some (.list qs) := by rw [toPy, e2]; rfl
          cases neg with
          | false => exact op_inD hu pins s σ H _ _ v u Q I rx ry ⟨p, qs, ox.dp l e1, oy.dp l e3, hs.1, hs.2, kb⟩
          | true => exact op_notInD hu pins s σ H _ _ v u Q I rx ry ⟨p, qs, ox.dp l e1, oy.dp l e3, hs.1, hs.2, kb⟩
        · cases q
      · cases q
    · rename_i yy
      split at q
      · simp only [Option.some.injEq] at q
        subst q
        obtain rfl := ox.str
        obtain rfl := oy.str
        cases neg with
        | false => exact op_in_str pins s σ H _ _ v u Q I rx ry ⟨_, _, rfl, rfl, kb⟩
        | true => exact op_notin_str pins s σ H _ _ v u Q I rx ry ⟨_, _, rfl, rfl, kb⟩
      · cases q
    · rename_i ks ds
      cases qk : keyOf d with
      | none => rw [qk] at q; cases q
      | some kk =>
        simp only [qk, Option.map_some, Option.some.injEq] at q
        subst q
        obtain rfl := keyOf_v ox qk
        obtain ⟨a, kvs, rfl, hr, rfl, rv⟩ := oy.dcK l
        obtain rfl : u = Value.ref a := ry
        have hv : (valV kvs kk).isSome = (lookD (kvs.map (·.1)) ds kk).isSome := by
          obtain ⟨h1, h2⟩ := valV_look (k := kk) rv
          cases w : lookD (kvs.map (·.1)) ds kk with
          | none => rw [h2 w]; rfl
          | some dd => obtain ⟨v, e, _⟩ := h1 dd w; rw [e]; rfl
        have g : DGet H a (kV kk) (valV kvs kk) := .inl ⟨kvs, kk, hr, rfl, rfl⟩
        cases neg with
        | false => exact d_in (by omega) I g rx fun s3 I3 => ⟨.bl _, H, I3, rfl, by rw [hv]; exact kb⟩
        | true => exact d_notIn (by omega) I g rx fun s3 I3 => ⟨.bl _, H, I3, rfl, by rw [hv]; exact kb⟩
    · rename_i ks ds
      cases qk : keyT d with
      | none => rw [qk] at q; cases q
      | some kk =>
        simp only [qk, Option.map_some, Option.some.injEq] at q
        subst q
        obtain ⟨b, rfl, hb⟩ := keyT_v l ox qk
        obtain ⟨a, kvs, rfl, hr, rfl, rv⟩ := oy.dcT l
        obtain rfl : u = Value.ref a := ry
        have hv : (valV kvs kk).isSome = (lookD (kvs.map (·.1)) ds kk).isSome := by
          obtain ⟨h1, h2⟩ := valV_look (k := kk) rv
          cases w : lookD (kvs.map (·.1)) ds kk with
          | none => rw [h2 w]; rfl
          | some dd => obtain ⟨v, e, _⟩ := h1 dd w; rw [e]; rfl
        have g : DGet H a (.ref b) (valV kvs kk) := .inr ⟨kvs, kk, b, hr, rfl, hb, rfl⟩
        cases neg with
        | false => exact d_in (by omega) I g rx fun s3 I3 => ⟨.bl _, H, I3, rfl, by rw [hv]; exact kb⟩
        | true => exact d_notIn (by omega) I g rx fun s3 I3 => ⟨.bl _, H, I3, rfl, by rw [hv]; exact kb⟩
    · cases q
theorem op_inDD (hu : X.A.units + 65 < cLine) : OpD X (compareOp .In) inD := op_inBD (neg := false) hu
theorem op_ninDD (hu : X.A.units + 65 < cLine) : OpD X (compareOp .NotIn) ninD := op_inBD (neg := true) hu
/-- x is None -/
def isNone : D → Bool
  | .non => true
  | _ => false
theorem ORel.isN {T : Stt} {G H : Hp} {v : V} {d : D} (o : ORel T G H v d) : decide (v = .non) = isNone d := by
  rcases o with o | ⟨p, rfl, c⟩
  · cases o <;> simp [isNone]
  · cases d <;> first | exact c.elim | simp [isNone]
def isND : D → D → Option D
  | d, .non => some (.bl (isNone d))
  | _, _ => none
def ntND : D → D → Option D
  | d, .non => some (.bl (!isNone d))
  | _, _ => none
theorem op_isND : OpD X (compareOp .Is) isND := by
  intro pins s σ H x y v u Q I rx ry h2
  obtain ⟨G, d, e, z, l, ox, oy, hz, k⟩ := h2
  unfold isND at hz
  split at hz
  · cases hz
    obtain rfl := oy.non
    exact op_isN pins s σ H _ _ v u Q I rx ry ⟨rfl, by rw [ox.isN]; exact Kont.same k l (.bl _)⟩
  · cases hz
theorem op_ntND : OpD X (compareOp .IsNot) ntND := by
  intro pins s σ H x y v u Q I rx ry h2
  obtain ⟨G, d, e, z, l, ox, oy, hz, k⟩ := h2
  unfold ntND at hz
  split at hz
  · cases hz
    obtain rfl := oy.non
    exact op_notN pins s σ H _ _ v u Q I rx ry ⟨rfl, by rw [ox.isN]; exact Kont.same k l (.bl _)⟩
  · cases hz
end
end DL
-- DL3
set_option maxRecDepth 100000
set_option maxHeartbeats 4000000
/-! DL3: arguments, displays, tests, calls of built-ins and of defs. -/
namespace DL
open PySem PySem.Spec PyProof.Rows L2

/-! ### arguments: each one let go -/
abbrev FA := Ev → Out (List D)
def A.nil : FA := fun env => .ok [] env
def A.cons (f : FE) (g : FA) : FA := fun env => (f env).bind fun a e1 => match frz e1 a with
  | some (d, e2) => (g e2).bind fun ds e3 => .ok (d :: ds) e3
  | none => .stk
def tAr (T : Stt) (B : Bse) (W : WX) (f : FA) : TA := fun σ H Q => ∃ G env, StR T B G H σ env ∧ oE T B W σ G (f env) fun ds e' G' H' => ∀ vs, VRels T G' vs ds → Q vs H'
structure DA (X : Cx) (es : List Expr) (f : FA) : Prop where
  run : ∀ (B : Bse) (W : WX), Takes X W → PA X es (tAr ⟨X.K, X.mg⟩ B W f)
section
variable {X : Cx}
theorem da_nil : DA X [] A.nil := ⟨fun B W tk => pa_nil.imp fun σ H Q ⟨G, env, S, h⟩ => h G H S (Same.refl G) [] .nil⟩
theorem tA_cons {T : Stt} {B : Bse} {W : WX} {f : FE} {g : FA} {σ : St} {H : Hp} {Q : List V → Hp → Prop} (h : tAr T B W (A.cons f g) σ H Q) : tCons (tE T B W f) (tAr T B W g) σ H Q := by
  obtain ⟨G, env, S, h⟩ := h
  refine ⟨G, env, S, ?_⟩
  unfold A.cons at h
  cases q : f env with
  | stk => simp [q, oE] at h
  | exc x e' => simp only [q, Out.bind_exc] at h; exact h
  | ok a e1 =>
    simp only [q, Out.bind_ok] at h
    refine fun G1 H1 S1 l1 v1 r1 => ?_
    cases qf : frz e1 a with
    | none => simp [qf, oE] at h
    | some p =>
      obtain ⟨d, e2⟩ := p
      simp only [qf] at h
      obtain ⟨G2, S2, l2, rv⟩ := S1.frz r1 qf
      refine ⟨G2, e2, S2, ?_⟩
      cases q2 : g e2 with
      | stk => simp [q2, oE] at h
      | exc x e' =>
        simp only [q2, Out.bind_exc] at h
        exact fun cls d G' H' S' l' => h cls d G' H' S' ((l1.trans l2).trans l')
      | ok ds e3 =>
        simp only [q2, Out.bind_ok] at h
        exact fun G3 H3 S3 l3 vs rvs => h G3 H3 S3 ((l1.trans l2).trans l3) (v1 :: vs) (.cons (rv.same l3) rvs)
theorem da_cons {e : Expr} {es : List Expr} {f : FE} {g : FA} (ha : DE X e f) (hr : DA X es g) (hs : starEach (e :: es) X.env = (false, eval e X.env) :: starEach es X.env := by rfl) : DA X (e :: es) (A.cons f g) :=
  ⟨fun B W tk => (pa_cons (ha.run B W tk) (hr.run B W tk) hs).imp fun σ H Q h => tA_cons h⟩
end

/-! ### a call on data -/
/-- a call's reading: the arguments let go, the answer data -/
def rCD (T : Stt) (op : List D → Option D) : List V → Hp → VK → Prop := fun vs H Q => ∃ G ds z, Le G H ∧ VRels T G vs ds ∧ op ds = some z ∧ Kont T G H z Q
def CallD (X : Cx) (f : Value) (op : List D → Option D) : Prop := CallR X f (rCD ⟨X.K, X.mg⟩ op)
def E.cb (op : List D → Option D) (g : FA) : FE := fun env => (g env).bind fun ds e => match op ds with
  | some z => .ok (.dv z) e
  | none => .stk
theorem tE_cb {T : Stt} {B : Bse} {W : WX} {op : List D → Option D} {g : FA} {σ : St} {H : Hp} {Q : VK} (h : tE T B W (E.cb op g) σ H Q) : tCB (rCD T op) (tAr T B W g) σ H Q := by
  obtain ⟨G, env, S, h⟩ := h
  refine ⟨G, env, S, ?_⟩
  unfold E.cb at h
  cases q : g env with
  | stk => simp [q, oE] at h
  | exc x e' => simp only [q, Out.bind_exc] at h; exact h
  | ok ds e1 =>
    simp only [q, Out.bind_ok] at h
    refine fun G1 H1 S1 l1 vs r1 => ?_
    cases qz : op ds with
    | none => simp [qz, oE] at h
    | some z =>
      simp only [qz] at h
      exact ⟨G1, ds, z, S1.gh, r1, qz, fun v G' H' g1 gh hh ad rv => h G' H' (S1.ext g1 gh hh ad) (l1.trans g1) v rv⟩
/-- one argument, not let go: len(x), x own -/
def E.c1 (op : D → Option D) (f : FE) : FE := fun env => (f env).bind fun a e1 => match rd e1 a with
  | some x => match op x with
    | some z => .ok (.dv z) e1
    | none => .stk
  | none => .stk
def r1D (T : Stt) (op : D → Option D) : V → Hp → VK → Prop := fun x H Q => ∃ G d z, Le G H ∧ ORel T G H x d ∧ op d = some z ∧ Kont T G H z Q
def Call1 (X : Cx) (f : Value) (op : D → Option D) : Prop := CallR X f (fun vs H Q => ∃ v, vs = [v] ∧ r1D ⟨X.K, X.mg⟩ op v H Q)
theorem tE_u1 {T : Stt} {B : Bse} {W : WX} {op : D → Option D} {f : FE} {σ : St} {H : Hp} {Q : VK} (h : tE T B W (E.c1 op f) σ H Q) : tE T B W f σ H fun v H1 => r1D T op v H1 Q := by
  obtain ⟨G, env, S, h⟩ := h
  refine ⟨G, env, S, ?_⟩
  unfold E.c1 at h
  cases q : f env with
  | stk => simp [q, oE] at h
  | exc x e' => simp only [q, Out.bind_exc] at h; exact h
  | ok a e1 =>
    simp only [q, Out.bind_ok] at h
    refine fun G1 H1 S1 l1 v1 r1 => ?_
    cases qa : rd e1 a with
    | none => simp [qa, oE] at h
    | some x =>
      simp only [qa] at h
      cases qz : op x with
      | none => simp [qz, oE] at h
      | some z =>
        simp only [qz] at h
        exact ⟨G1, x, z, S1.gh, S1.orel r1 qa, qz, fun v G' H' g1 gh hh ad rv => h G' H' (S1.ext g1 gh hh ad) (l1.trans g1) v rv⟩
section
variable {X : Cx} {x id : Str} {p pos : Pos} {e : Expr} {es : List Expr} {b : String}
theorem de_cb {op : List D → Option D} {g : FA} (hc : CallD X (.builtin b) op) (hm : X.mg x = none) (hv : bootBuiltins x = some (.builtin b)) (ha : DA X (e :: es) g) (hg : Gl X x := by rfl) (hn : x ≠ "__name__" := by decide) (hdb : (x == ("__debug__" : Str)) = false := by decide)
    (he : starEach (e :: es) X.env = (false, eval e X.env) :: starEach es X.env := by rfl) (hpl : (backTo pos (starEach es X.env)).any (·.1) = false := by rfl) : DE X (.Call (.Name x p) (e :: es) [] pos) (E.cb op g) :=
  ⟨fun B W tk => (pe_callB hc hg hm hv (ha.run B W tk) hn hdb he hpl).imp fun σ H Q h => tE_cb h⟩
theorem de_ct {op : List D → Option D} {g : FA} (hc : CallD X (.type b) op) (hm : X.mg x = none) (hv : bootBuiltins x = some (.type b)) (ha : DA X (e :: es) g) (hg : Gl X x := by rfl) (hn : x ≠ "__name__" := by decide) (hdb : (x == ("__debug__" : Str)) = false := by decide)
    (he : starEach (e :: es) X.env = (false, eval e X.env) :: starEach es X.env := by rfl) (hpl : (backTo pos (starEach es X.env)).any (·.1) = false := by rfl) : DE X (.Call (.Name x p) (e :: es) [] pos) (E.cb op g) :=
  ⟨fun B W tk => (pe_callTy hc hg hm hv (ha.run B W tk) hn hdb he hpl).imp fun σ H Q h => tE_cb h⟩
theorem t1_call {T : Stt} {B : Bse} {W : WX} {op : D → Option D} {f : FE} {σ : St} {H : Hp} {Q : VK} (h : tE T B W (E.c1 op f) σ H Q) : tCB (fun vs H Q => ∃ v, vs = [v] ∧ r1D T op v H Q) (tCons (tE T B W f) tNil) σ H Q := by
  obtain ⟨G, env, S, h2⟩ := tE_u1 h
  refine ⟨G, env, S, h2.mono (Same.refl G) fun a e' G' H' l k v r => ⟨v, rfl, k v r⟩⟩
theorem de_b1 {op : D → Option D} {f : FE} (hc : Call1 X (.builtin b) op) (hm : X.mg x = none) (hv : bootBuiltins x = some (.builtin b)) (ha : DE X e f) (hg : Gl X x := by rfl) (hn : x ≠ "__name__" := by decide) (hdb : (x == ("__debug__" : Str)) = false := by decide)
    (hs : starEach (e :: []) X.env = (false, eval e X.env) :: starEach [] X.env := by rfl) (hpl : (backTo pos (starEach [] X.env)).any (·.1) = false := by rfl) : DE X (.Call (.Name x p) [e] [] pos) (E.c1 op f) :=
  ⟨fun B W tk => (pe_callB hc hg hm hv (pa_cons (ha.run B W tk) pa_nil hs) hn hdb hs hpl).imp fun σ H Q h => t1_call h⟩
theorem de_t1 {op : D → Option D} {f : FE} (hc : Call1 X (.type b) op) (hm : X.mg x = none) (hv : bootBuiltins x = some (.type b)) (ha : DE X e f) (hg : Gl X x := by rfl) (hn : x ≠ "__name__" := by decide) (hdb : (x == ("__debug__" : Str)) = false := by decide)
    (hs : starEach (e :: []) X.env = (false, eval e X.env) :: starEach [] X.env := by rfl) (hpl : (backTo pos (starEach [] X.env)).any (·.1) = false := by rfl) : DE X (.Call (.Name x p) [e] [] pos) (E.c1 op f) :=
  ⟨fun B W tk => (pe_callTy hc hg hm hv (pa_cons (ha.run B W tk) pa_nil hs) hn hdb hs hpl).imp fun σ H Q h => t1_call h⟩
theorem de_un {op : D → Option D} {f : FE} {o : UnaryOp} (ho : UnR X (unaryOp o) (r1D ⟨X.K, X.mg⟩ op)) (ha : DE X e f) : DE X (.UnaryOp o e pos) (E.c1 op f) :=
  ⟨fun B W tk => (pe_un ho (ha.run B W tk)).imp fun σ H Q h => tE_u1 h⟩
end

/-! ### the built-ins -/
def lenD : D → Option D
  | .lst xs => some (.int xs.length)
  | .tup xs => some (.int xs.length)
  | .str x => if x.length ≤ sizeLine then some (.int x.length) else none
  | .scr is => some (.int is.length)
  | _ => none
section
variable {X : Cx}
theorem c_len : Call1 X (.builtin "len") lenD := by
  intro pins s σ H xs us Q I r ⟨v, e, G, d, z, l, o, hz, k⟩
  unfold lenD at hz
  split at hz
  · cases hz
    obtain ⟨a, vs, rfl, h, rv⟩ := o.lst l
    exact call_len pins s σ H xs us Q I r ⟨_, vs.length, e, .inl ⟨vs, SqL.of h, rfl⟩, by rw [rv.length]; exact Kont.same k l (.int _)⟩
  · cases hz
    obtain ⟨a, vs, rfl, h, _, rv⟩ := o.tup l
    exact call_len pins s σ H xs us Q I r ⟨_, vs.length, e, .inr ⟨vs, h, rfl⟩, by rw [rv.length]; exact Kont.same k l (.int _)⟩
  · split at hz
    · rename_i hl
      cases hz
      obtain rfl := o.str
      exact call_len pins s σ H xs us Q I r ⟨_, _, e, ⟨hl, rfl⟩, Kont.same k l (.int _)⟩
    · cases hz
  · rename_i is
    cases hz
    obtain ⟨a, rfl, h⟩ := o.scr l
    exact call_len pins s σ H xs us Q I r ⟨_, (is.map V.int).length, e, .inl ⟨_, h, rfl⟩, by rw [List.length_map]; exact Kont.same k l (.int _)⟩
  · cases hz
def absD : D → Option D
  | .int i => some (.int (if i < 0 then -i else i))
  | _ => none
theorem c_abs : Call1 X (.builtin "abs") absD := by
  intro pins s σ H xs us Q I r ⟨v, e, G, d, z, l, o, hz, k⟩
  unfold absD at hz
  split at hz
  · cases hz
    obtain rfl := o.int
    exact call_abs pins s σ H xs us Q I r ⟨_, e, Kont.same k l (.int _)⟩
  · cases hz
def max2D : List D → Option D
  | [.int i, .int j] => some (.int (if j > i then j else i))
  | _ => none
def min2D : List D → Option D
  | [.int i, .int j] => some (.int (if j < i then j else i))
  | _ => none
theorem two_ints {T : Stt} {G : Hp} {vs : List V} {i j : Int} (r : VRels T G vs [.int i, .int j]) : vs = [.int i, .int j] := by
  cases r with
  | cons r1 r =>
    cases r with
    | cons r2 r =>
      cases r; cases r1; cases r2; rfl
theorem c_max2 (hc : X.calm = true) : CallD X (.builtin "max") max2D := by
  intro pins s σ H xs us Q I r ⟨G, ds, z, l, o, hz, k⟩
  unfold max2D at hz
  split at hz
  · cases hz
    obtain rfl := two_ints o
    exact call_max2 hc pins s σ H _ us Q I r ⟨_, _, rfl, Kont.same k l (.int _)⟩
  · cases hz
theorem c_min2 (hc : X.calm = true) : CallD X (.builtin "min") min2D := by
  intro pins s σ H xs us Q I r ⟨G, ds, z, l, o, hz, k⟩
  unfold min2D at hz
  split at hz
  · cases hz
    obtain rfl := two_ints o
    exact call_min2 hc pins s σ H _ us Q I r ⟨_, _, rfl, Kont.same k l (.int _)⟩
  · cases hz
def intD : D → Option D
  | .int i => some (.int i)
  | .bl b => some (.int (if b then 1 else 0))
  | _ => none
theorem c_int : Call1 X (.type "int") intD := by
  intro pins s σ H xs us Q I r ⟨v, e, G, d, z, l, o, hz, k⟩
  unfold intD at hz
  split at hz
  · cases hz
    obtain rfl := o.int
    exact call_int1 pins s σ H xs us Q I r (.inl ⟨_, e, Kont.same k l (.int _)⟩)
  · cases hz
    obtain rfl := o.bl
    exact call_int1 pins s σ H xs us Q I r (.inr ⟨_, e, Kont.same k l (.int _)⟩)
  · cases hz
def strD : D → Option D
  | .int i => if i.natAbs.log2 < 1920 then some (.str (toString i)) else none
  | _ => none
theorem c_str : Call1 X (.type "str") strD := by
  intro pins s σ H xs us Q I r ⟨v, e, G, d, z, l, o, hz, k⟩
  unfold strD at hz
  split at hz
  · split at hz
    · rename_i hl
      cases hz
      obtain rfl := o.int
      exact call_str_int pins s σ H xs us Q I r ⟨_, e, hl, Kont.same k l (.str _)⟩
    · cases hz
  · cases hz
def tupD : D → Option D
  | .lst xs => some (.tup xs)
  | .tup xs => some (.tup xs)
  | _ => none
theorem c_tup : Call1 X (.type "tuple") tupD := by
  intro pins s σ H xs us Q I r ⟨v, e, G, d, z, l, o, hz, k⟩
  unfold tupD at hz
  split at hz
  · cases hz
    obtain ⟨a, vs, rfl, h, rv⟩ := o.lst l
    exact call_tuple_of pins s σ H xs us Q I r ⟨a, vs, e, .inl ⟨SqL.of h, fun p hp => Kont.tup k l hp rv⟩⟩
  · cases hz
    obtain ⟨a, vs, rfl, h, g, rv⟩ := o.tup l
    exact call_tuple_of pins s σ H xs us Q I r ⟨a, vs, e, .inr ⟨h, Kont.same k l (.tup g rv)⟩⟩
  · cases hz
def listD : D → Option D
  | .lst xs => some (.lst xs)
  | .tup xs => some (.lst xs)
  | _ => none
theorem c_list : Call1 X (.type "list") listD := by
  intro pins s σ H xs us Q I r ⟨v, e, G, d, z, l, o, hz, k⟩
  unfold listD at hz
  split at hz
  · cases hz
    obtain ⟨a, vs, rfl, h, rv⟩ := o.lst l
    exact call_list_of pins s σ H xs us Q I r ⟨a, vs, e, .inl (SqL.of h), fun p hp => Kont.lst k l hp rv⟩
  · cases hz
    obtain ⟨a, vs, rfl, h, g, rv⟩ := o.tup l
    exact call_list_of pins s σ H xs us Q I r ⟨a, vs, e, .inr h, fun p hp => Kont.lst k l hp rv⟩
  · cases hz
def blsOf : List D → Option (List Bool)
  | [] => some []
  | .bl i :: r => (blsOf r).map (i :: ·)
  | _ :: _ => none
theorem blsOf_eq : ∀ {ds : List D} {is : List Bool}, blsOf ds = some is → ds = is.map .bl
  | [], is, h => by rw [blsOf] at h; cases h; rfl
  | .bl i :: r, is, h => by
    rw [blsOf] at h
    cases q : blsOf r with
    | none => rw [q] at h; cases h
    | some js =>
      rw [q] at h
      cases h
      rw [blsOf_eq q]
      rfl
  | .non :: _, _, h => by simp [blsOf] at h
  | .int _ :: _, _, h => by simp [blsOf] at h
  | .str _ :: _, _, h => by simp [blsOf] at h
  | .tup _ :: _, _, h => by simp [blsOf] at h
  | .lst _ :: _, _, h => by simp [blsOf] at h
  | .dcK _ _ :: _, _, h => by simp [blsOf] at h
  | .dcT _ _ :: _, _, h => by simp [blsOf] at h
  | .web _ _ _ :: _, _, h => by simp [blsOf] at h
  | .exc0 _ :: _, _, h => by simp [blsOf] at h
  | .exc1 _ _ _ :: _, _, h => by simp [blsOf] at h
@[simp] theorem blsOf_map : ∀ is : List Bool, blsOf (is.map .bl) = some is
  | [] => rfl
  | i :: is => by
    show (blsOf (is.map .bl)).map (i :: ·) = some (i :: is)
    rw [blsOf_map is]
    rfl
def allD : D → Option D
  | .lst xs => (blsOf xs).map fun bs => .bl (bs.all id)
  | _ => none
def anyD : D → Option D
  | .lst xs => (blsOf xs).map fun bs => .bl (bs.any id)
  | _ => none
def sumD : D → Option D
  | .lst xs => (intsOf xs).map fun is => .int is.sum
  | _ => none
theorem c_all (hc : X.calm = true) : Call1 X (.builtin "all") allD := by
  intro pins s σ H xs us Q I r ⟨v, e, G, d, z, l, o, hz, k⟩
  unfold allD at hz
  split at hz
  · rename_i ys
    cases q : blsOf ys with
    | none => rw [q] at hz; cases hz
    | some bs =>
      rw [q] at hz
      cases hz
      obtain ⟨a, vs, rfl, h, rv⟩ := o.lst l
      rw [blsOf_eq q] at rv
      rw [rv.bls] at h
      exact cr_all hc pins s σ H xs us Q I r ⟨a, bs, e, SqL.of h, Kont.same k l (.bl _)⟩
  · cases hz
theorem c_any (hc : X.calm = true) : Call1 X (.builtin "any") anyD := by
  intro pins s σ H xs us Q I r ⟨v, e, G, d, z, l, o, hz, k⟩
  unfold anyD at hz
  split at hz
  · rename_i ys
    cases q : blsOf ys with
    | none => rw [q] at hz; cases hz
    | some bs =>
      rw [q] at hz
      cases hz
      obtain ⟨a, vs, rfl, h, rv⟩ := o.lst l
      rw [blsOf_eq q] at rv
      rw [rv.bls] at h
      exact cr_any hc pins s σ H xs us Q I r ⟨a, bs, e, SqL.of h, Kont.same k l (.bl _)⟩
  · cases hz
theorem c_sum (hc : X.calm = true) : Call1 X (.builtin "sum") sumD := by
  intro pins s σ H xs us Q I r ⟨v, e, G, d, z, l, o, hz, k⟩
  unfold sumD at hz
  split at hz
  · rename_i ys
    cases q : intsOf ys with
    | none => rw [q] at hz; cases hz
    | some bs =>
      rw [q] at hz
      cases hz
      obtain ⟨a, vs, rfl, h, rv⟩ := o.lst l
      rw [intsOf_eq q] at rv
      rw [rv.ints] at h
      exact cr_sum hc pins s σ H xs us Q I r ⟨a, bs, e, SqL.of h, Kont.same k l (.int _)⟩
  · cases hz
def negD : D → Option D
  | .int i => some (.int (-i))
  | _ => none
theorem u_neg : UnR X (unaryOp .USub) (r1D ⟨X.K, X.mg⟩ negD) := by
  intro pins s σ H x v Q I r ⟨G, d, z, l, o, hz, k⟩
  unfold negD at hz
  split at hz
  · cases hz
    obtain rfl := o.int
    exact un_neg pins s σ H _ v Q I r ⟨_, rfl, Kont.same k l (.int _)⟩
  · cases hz
end
end DL
-- DL4
set_option maxRecDepth 100000
set_option maxHeartbeats 4000000
/-! DL4: displays, tests, subscripts, attributes, calls of defs. -/
namespace DL
open PySem PySem.Spec PyProof.Rows L2

/-! ### displays -/
def E.tup (g : FA) : FE := fun env => (g env).bind fun ds e => if ds.length ≤ sizeLine then .ok (.dv (.tup ds)) e else .stk
section
variable {X : Cx} {es : List Expr} {pos : Pos} {k : Nat}
theorem de_tup {g : FA} (ha : DA X es g)
    (mk : ∀ t, PA X es t → PE X (.Tuple es k pos) (tTup t) := by intro t h; exact pe_tup h) : DE X (.Tuple es k pos) (E.tup g) := by
  refine ⟨fun B W tk => (mk _ (ha.run B W tk)).imp fun σ H Q h => ?_⟩
  obtain ⟨G, env, S, h⟩ := h
  refine ⟨G, env, S, ?_⟩
  unfold E.tup at h
  cases q : g env with
  | stk => simp [q, oE] at h
  | exc x e' => simp only [q, Out.bind_exc] at h; exact h
  | ok ds e1 =>
    simp only [q, Out.bind_ok] at h
    refine fun G1 H1 S1 l1 vs r1 => ?_
    split at h
    · rename_i hl
      refine ⟨by rw [r1.length]; exact hl, fun p hp => ?_⟩
      obtain ⟨S2, l2⟩ := S1.new (o := .tup vs) hp
      exact h _ _ S2 (l1.trans l2) _ (.tup (.inl upd_same) (r1.same l2))
    · exact h.elim
end

/-! ### what makes a new container -/
abbrev FD := Ev → Out D
def tF (T : Stt) (B : Bse) (W : WX) (f : FD) : TE := fun σ H Q => ∃ G env, StR T B G H σ env ∧ oE T B W σ G (f env) fun d e' G' H' =>
  ∀ p, (B.2 p = none ∧ B.3 p = none) → G' p = none → (∀ (j : Nat) d', e'[j]? = some (.own d') → σ[j]? ≠ some (some (.ref p))) → CRel T G' H' p d → Q (.ref p) H'
/-- an expression that makes a new container -/
structure DF (X : Cx) (e : Expr) (f : FD) : Prop where
  run : ∀ (B : Bse) (W : WX), Takes X W → PE X e (tF ⟨X.K, X.mg⟩ B W f)
/-- what stands at p is let go: G has it -/
theorem StR.gfz {T : Stt} {B : Bse} {G1 H1 : Hp} {σ : St} {e1 : Ev} {p : Addr} {u : HO} (S1 : StR T B G1 H1 σ e1) (hb : B.2 p = none ∧ B.3 p = none) (hg : G1 p = none) (ho : ∀ (j : Nat) d', e1[j]? = some (.own d') → σ[j]? ≠ some (some (.ref p))) (hu : H1 p = some u) (nm : NM u) :
    StR T B (upd G1 p u) H1 σ e1 := by
  have sg : Same G1 (upd G1 p u) := upd_same_none hg
  have nb3 : ∀ a w, B.3 a = some w → a ≠ p := fun a w e z => by rw [z, hb.2] at e; cases e
  refine ⟨fun a w e => ?_, S1.g0.trans sg, S1.h0, fun a w e => by obtain ⟨x1, x2, x3⟩ := S1.lk a w e; exact ⟨x1, x2, x3.imp id fun x => ⟨by rw [upd_ne (nb3 a w e)]; exact x.1, x.2⟩⟩, fun a w e => ?_, S1.len, S1.top, fun M e => (S1.sto M e).mark hg nm, fun i d' e => ?_, fun i d' e => ?_, S1.dis⟩
  · by_cases z : a = p
    · subst z; rw [upd_same] at e; cases e; exact .inl hu
    · rw [upd_ne z] at e; exact S1.gh a w e
  · by_cases z : a = p
    · subst z; rw [upd_same] at e; cases e; exact .inr (.inl ⟨hb.1, fun _ => nm⟩)
    · rw [upd_ne z] at e; exact S1.add a w e
  · obtain ⟨v, a1, a2⟩ := S1.val i d' e
    exact ⟨v, a1, a2.same sg⟩
  · obtain ⟨p2, a1, a2, a3, a4⟩ := S1.own i d' e
    have np : p2 ≠ p := fun z => ho i d' e (by rw [← z]; exact a1)
    exact ⟨p2, a1, a2, by rw [upd_ne np]; exact a3, a4.same sg fun _ z => z⟩
/-- what stands at p becomes the next thing of the store -/
theorem StR.gmk {T : Stt} {B : Bse} {G1 H1 : Hp} {σ : St} {e1 : Ev} {p : Addr} {d : D} {M : List D} (S1 : StR T B G1 H1 σ e1) (hM : stoOf e1 = some M) (hb : B.2 p = none ∧ B.3 p = none) (hg : G1 p = none) (ho : ∀ (j : Nat) d', e1[j]? = some (.own d') → σ[j]? ≠ some (some (.ref p))) (hc : MRel T G1 H1 p d) :
    StR T B (upd G1 p (.own M.length)) H1 σ (setSto e1 (M ++ [d])) ∧ Same G1 (upd G1 p (.own M.length)) := by
  have sg : Same G1 (upd G1 p (.own M.length)) := upd_same_none hg
  have nb3 : ∀ a w, B.3 a = some w → a ≠ p := fun a w e z => by rw [z, hb.2] at e; cases e
  obtain ⟨u, hu, mu⟩ := hc.some
  obtain ⟨s1, s2, s3, s4⟩ := S1.sto M hM
  have hl : e1[e1.length - 1]? = some (.sto M) := by
    unfold stoOf at hM
    split at hM
    · rename_i q; cases hM; rw [List.getLast?_eq_getElem?] at q; exact q
    · cases hM
  have hi := (List.getElem?_eq_some_iff.mp hl).1
  have other : ∀ {j : Nat} {s : Slot}, (setSto e1 (M ++ [d]))[j]? = some s → (∀ M, s ≠ .sto M) → e1[j]? = some s := fun {j s} e n => by
    unfold setSto at e
    by_cases z : e1.length - 1 = j
    · subst z; rw [List.getElem?_set_self hi] at e; cases e; exact (n _ rfl).elim
    · rw [List.getElem?_set_ne z] at e; exact e
  refine ⟨⟨fun a w e => ?_, S1.g0.trans sg, S1.h0, fun a w e => by obtain ⟨x1, x2, x3⟩ := S1.lk a w e; exact ⟨x1, x2, x3.imp id fun x => ⟨by rw [upd_ne (nb3 a w e)]; exact x.1, x.2⟩⟩, fun a w e => ?_, by unfold setSto; rw [List.length_set]; exact S1.len, ?_, fun M' e => ?_, fun i d' e => ?_, fun i d' e => ?_, fun i j x y q h1 h2 => S1.dis i j x y q (other h1 fun _ z => nomatch z) (other h2 fun _ z => nomatch z)⟩, sg⟩
  · by_cases z : a = p
    · subst z; rw [upd_same] at e; cases e; exact .inr (.inr ⟨_, u, rfl, hu, fun xs z => mu xs z⟩)
    · rw [upd_ne z] at e; exact S1.gh a w e
  · by_cases z : a = p
    · subst z; exact .inr (.inl ⟨hb.1, fun y => by have y' : B.pu = true := y; rw [s1] at y'; cases y'⟩)
    · rw [upd_ne z] at e; exact S1.add a w e
  · exact top_set S1.top hl ⟨fun ⟨_, z⟩ => ⟨_, rfl⟩, fun ⟨_, z⟩ => ⟨_, rfl⟩⟩
  · have eM : M' = M ++ [d] := by
      unfold stoOf setSto at e
      rw [List.getLast?_eq_getElem?, List.length_set, List.getElem?_set_self hi] at e
      cases e
      rfl
    subst eM
    refine ⟨s1, fun n d1 e => ?_, fun q n e => ?_, fun q r n e1 e2 => ?_⟩
    · by_cases hn : n < M.length
      · rw [List.getElem?_append_left hn] at e
        obtain ⟨q, a1, a2, a3, a4⟩ := s2 n d1 e
        have nq : q ≠ p := fun z => by rw [z, hg] at a1; cases a1
        exact ⟨q, by rw [upd_ne nq]; exact a1, a2, a3, a4.same sg fun _ z => z⟩
      · have en : n = M.length := by
          have := (List.getElem?_eq_some_iff.mp e).1
          rw [List.length_append, List.length_singleton] at this
          omega
        subst en
        rw [List.getElem?_append_right (Nat.le_refl _), Nat.sub_self] at e
        cases e
        exact ⟨p, upd_same, hb.1, hb.2, hc.same sg fun _ z => z⟩
    · rw [List.length_append, List.length_singleton]
      by_cases z : q = p
      · subst z; rw [upd_same] at e; cases e; exact Nat.lt_succ_self _
      · rw [upd_ne z] at e; exact Nat.lt_succ_of_lt (s3 q n e)
    · by_cases z1 : q = p <;> by_cases z2 : r = p
      · rw [z1, z2]
      · subst z1
        rw [upd_same] at e1; cases e1
        rw [upd_ne z2] at e2
        exact absurd (s3 r _ e2) (Nat.lt_irrefl _)
      · subst z2
        rw [upd_same] at e2; cases e2
        rw [upd_ne z1] at e1
        exact absurd (s3 q _ e1) (Nat.lt_irrefl _)
      · rw [upd_ne z1] at e1; rw [upd_ne z2] at e2; exact s4 q r n e1 e2
  · obtain ⟨v, a1, a2⟩ := S1.val i d' (other e fun _ z => nomatch z)
    exact ⟨v, a1, a2.same sg⟩
  · obtain ⟨p2, a1, a2, a3, a4⟩ := S1.own i d' (other e fun _ z => nomatch z)
    have np : p2 ≠ p := fun z => ho i d' (other e fun _ z => nomatch z) (by rw [← z]; exact a1)
    exact ⟨p2, a1, a2, by rw [upd_ne np]; exact a3, a4.same sg fun _ z => z⟩
def E.mk (f : FD) : FE := fun env => (f env).bind fun d e => match stoOf e with
  | some M => .ok (.dv (.ptr M.length)) (setSto e (M ++ [d]))
  | none => .stk
theorem tE_mk {T : Stt} {B : Bse} {W : WX} {f : FD} {σ : St} {H : Hp} {Q : VK} (h : tE T B W (E.mk f) σ H Q) : tF T B W f σ H Q := by
  obtain ⟨G, env, S, h⟩ := h
  refine ⟨G, env, S, ?_⟩
  unfold E.mk at h
  cases q : f env with
  | stk => simp [q, oE] at h
  | exc x e' => simp only [q, Out.bind_exc] at h; exact h
  | ok d e1 =>
    simp only [q, Out.bind_ok] at h
    cases hM : stoOf e1 with
    | none => simp [hM, oE] at h
    | some M =>
      simp only [hM] at h
      refine fun G1 H1 S1 l1 p hb hg ho hc => ?_
      obtain ⟨S2, l2⟩ := S1.gmk hM hb hg ho (.inl hc)
      exact h _ H1 S2 (l1.trans l2) _ (.ptr upd_same)
theorem DF.dm {X : Cx} {e : Expr} {f : FD} (h : DF X e f) : DE X e (E.mk f) := ⟨fun B W tk => (h.run B W tk).imp fun σ H Q q => tE_mk q⟩
def E.fz (f : FD) : FE := fun env => (f env).bind fun d e => .ok (.dv d) e
theorem tE_fz {T : Stt} {B : Bse} {W : WX} {f : FD} {σ : St} {H : Hp} {Q : VK} (h : tE T B W (E.fz f) σ H Q) : tF T B W f σ H Q := by
  obtain ⟨G, env, S, h⟩ := h
  refine ⟨G, env, S, ?_⟩
  unfold E.fz at h
  cases q : f env with
  | stk => simp [q, oE] at h
  | exc x e' => simp only [q, Out.bind_exc] at h; exact h
  | ok d e1 =>
    simp only [q, Out.bind_ok] at h
    refine fun G1 H1 S1 l1 p hb hg ho hc => ?_
    obtain ⟨u, hu, rv⟩ := hc.frz hg
    exact h (upd G1 p u) H1 (S1.gfz hb hg ho hu (hc.nm hu)) (l1.trans (upd_same_none hg)) _ rv
theorem DF.de {X : Cx} {e : Expr} {f : FD} (h : DF X e f) : DE X e (E.fz f) := ⟨fun B W tk => (h.run B W tk).imp fun σ H Q q => tE_fz q⟩
/-- a new thing at p in the heap alone: it is an own one -/
theorem StR.fresh {T : Stt} {B : Bse} {G H : Hp} {σ : St} {env : Ev} {p : Addr} {o : HO} (S : StR T B G H σ env) (n : H p = none) :
    StR T B G (upd H p o) σ env ∧ (B.2 p = none ∧ B.3 p = none) ∧ G p = none ∧ ∀ (j : Nat) d', env[j]? = some (.own d') → σ[j]? ≠ some (some (.ref p)) := by
  refine ⟨S.newH n, ⟨S.nb n, S.nl n⟩, S.ng n, fun j d' e z => ?_⟩
  obtain ⟨p2, a1, _, _, a4⟩ := S.own j d' e
  rw [a1] at z
  cases z
  obtain ⟨u, hu, _⟩ := a4.some
  rw [n] at hu
  cases hu
def E.lst (g : FA) : FD := fun env => (g env).bind fun ds e => if ds.length ≤ sizeLine then .ok (.lst ds) e else .stk
section
variable {X : Cx} {es : List Expr} {pos : Pos}
theorem df_lst {g : FA} (ha : DA X es g) (mk : ∀ t, PA X es t → PE X (.List es pos) (tLst t) := by intro t h; exact pe_lst h) : DF X (.List es pos) (E.lst g) := by
  refine ⟨fun B W tk => (mk _ (ha.run B W tk)).imp fun σ H Q h => ?_⟩
  obtain ⟨G, env, S, h⟩ := h
  refine ⟨G, env, S, ?_⟩
  unfold E.lst at h
  cases q : g env with
  | stk => simp [q, oE] at h
  | exc x e' => simp only [q, Out.bind_exc] at h; exact h
  | ok ds e1 =>
    simp only [q, Out.bind_ok] at h
    refine fun G1 H1 S1 l1 vs r1 => ?_
    split at h
    · rename_i hl
      refine ⟨by rw [r1.length]; exact hl, fun p hp => ?_⟩
      obtain ⟨S2, n1, n2, n3⟩ := S1.fresh (o := .lst vs) hp
      exact h _ _ S2 l1 p n1 n2 n3 ⟨vs, upd_same, r1⟩
    · exact h.elim
def E.dnK : FD := fun env => .ok (.dcK [] []) env
def E.dnT : FD := fun env => .ok (.dcT [] []) env
theorem df_dnK : DF X (.Dict [] [] pos) E.dnK := ⟨fun B W tk => pe_dnewK.imp fun σ H Q ⟨G, env, S, h⟩ p hp => by
  obtain ⟨S2, n1, n2, n3⟩ := S.fresh (o := .dK []) hp
  exact h _ _ S2 (Same.refl G) p n1 n2 n3 ⟨[], upd_same, rfl, .nil⟩⟩
theorem df_dnT : DF X (.Dict [] [] pos) E.dnT := ⟨fun B W tk => pe_dnewT.imp fun σ H Q ⟨G, env, S, h⟩ p hp => by
  obtain ⟨S2, n1, n2, n3⟩ := S.fresh (o := .dT []) hp
  exact h _ _ S2 (Same.refl G) p n1 n2 n3 ⟨[], upd_same, rfl, .nil⟩⟩
end

/-! ### tests -/
abbrev FB := Ev → Out Bool
def tT (T : Stt) (B : Bse) (W : WX) (f : FB) : TT := fun σ H Q => ∃ G env, StR T B G H σ env ∧ oE T B W σ G (f env) fun b e' G' H' => Q b H'
structure DT (X : Cx) (e : Expr) (f : FB) : Prop where
  run : ∀ (B : Bse) (W : WX), Takes X W → PT X e (tT ⟨X.K, X.mg⟩ B W f)
structure DW (X : Cx) (e : Expr) (f : FB) : Prop where
  run : ∀ (B : Bse) (W : WX), Takes X W → PW X e (tT ⟨X.K, X.mg⟩ B W f)
theorem DW.dt {X : Cx} {e : Expr} {f : FB} (h : DW X e f) : DT X e f := ⟨fun B W tk => (h.run B W tk).pt⟩
def Tt.val (f : FE) : FB := fun env => (f env).bind fun a e => match rd e a with
  | some (.bl b) => .ok b e
  | _ => .stk
theorem tT_val {T : Stt} {B : Bse} {W : WX} {f : FE} {σ : St} {H : Hp} {Q : Bool → Hp → Prop} (h : tT T B W (Tt.val f) σ H Q) : tB (tE T B W f) σ H Q := by
  obtain ⟨G, env, S, h⟩ := h
  refine ⟨G, env, S, ?_⟩
  unfold Tt.val at h
  cases q : f env with
  | stk => simp [q, oE] at h
  | exc x e' => simp only [q, Out.bind_exc] at h; exact h
  | ok a e1 =>
    simp only [q, Out.bind_ok] at h
    refine fun G1 H1 S1 l1 v r1 => ?_
    cases qa : rd e1 a with
    | none => simp [qa, oE] at h
    | some d =>
      cases d with
      | bl b =>
        simp only [qa] at h
        exact ⟨b, (S1.orel r1 qa).bl, h G1 H1 S1 l1⟩
      | _ => simp [qa, oE] at h
section
variable {X : Cx} {e a b : Expr} {pos : Pos}
theorem dt_val {f : FE} (h : DE X e f) (he : ∀ whole, isTrue e X.env whole = (do let v ← whole; standAt e.pos; holding [v] (truthy v)) := by intro _; rfl) : DT X e (Tt.val f) :=
  ⟨fun B W tk => (pt_val (h.run B W tk) he).imp fun σ H Q q => tT_val q⟩
theorem dt_cmp {f g : FE} {op : D → D → Option D} {o : CmpOp} (ho : OpD X (compareOp o) op) (ha : DE X a f) (hb : DE X b g) (hm : behindInMarks o b = false := by first | exact nobehind _ (by decide) (by decide) | rfl) : DT X (.Compare a [o] [b] pos) (Tt.val (E.bin op f g)) :=
  ⟨fun B W tk => (pt_cmpR ho (ha.run B W tk) (hb.run B W tk) hm).imp fun σ H Q q => by
    obtain ⟨G, env, S, h⟩ := tT_val q
    exact tE_bin ⟨G, env, S, h⟩⟩
def Tt.not (f : FB) : FB := fun env => (f env).bind fun b e => .ok (!b) e
theorem dt_not {f : FB} (ha : DT X a f) : DT X (.UnaryOp .Not a pos) (Tt.not f) := by
  refine ⟨fun B W tk => (pt_not (ha.run B W tk)).imp fun σ H Q h => ?_⟩
  obtain ⟨G, env, S, h⟩ := h
  refine ⟨G, env, S, ?_⟩
  unfold Tt.not at h
  cases q : f env with
  | stk => simp [q, oE] at h
  | exc x e' => simp only [q, Out.bind_exc] at h; exact h
  | ok b e1 =>
    simp only [q, Out.bind_ok] at h
    exact fun G1 H1 S1 l1 => h G1 H1 S1 l1
def Tt.and (f g : FB) : FB := fun env => (f env).bind fun b e => if b = true then g e else .ok false e
def Tt.or (f g : FB) : FB := fun env => (f env).bind fun b e => if b = true then .ok true e else g e
theorem dw_and1 {f : FB} (ha : DT X a f) : DW X (.BoolOp .And [a] pos) f := ⟨fun B W tk => pw_and1 (ha.run B W tk)⟩
theorem dw_or1 {f : FB} (ha : DT X a f) : DW X (.BoolOp .Or [a] pos) f := ⟨fun B W tk => pw_or1 (ha.run B W tk)⟩
theorem _root_.L2.PW.imp {X : Cx} {e : Expr} {t t' : TT} (h : PW X e t) (w : ∀ σ H Q, t' σ H Q → t σ H Q) : PW X e t' := ⟨fun wh pins s σ H Q I q => h.run wh pins s σ H Q I (w σ H Q q)⟩
theorem dw_and {rest : List Expr} {f g : FB} (ha : DT X a f) (hb : DW X (.BoolOp .And (b :: rest) pos) g) : DW X (.BoolOp .And (a :: b :: rest) pos) (Tt.and f g) := by
  refine ⟨fun B W tk => (pw_and (ha.run B W tk) (hb.run B W tk)).imp fun σ H Q h => ?_⟩
  obtain ⟨G, env, S, h⟩ := h
  refine ⟨G, env, S, ?_⟩
  unfold Tt.and at h
  cases q : f env with
  | stk => simp [q, oE] at h
  | exc x e' => simp only [q, Out.bind_exc] at h; exact h
  | ok c e1 =>
    simp only [q, Out.bind_ok] at h
    refine fun G1 H1 S1 l1 => ?_
    cases c with
    | true => exact iteT ⟨G1, e1, S1, oE.mono (by simpa using h) l1 fun _ _ _ _ _ z => z⟩
    | false => exact iteF (h G1 H1 S1 l1)
theorem dw_or {rest : List Expr} {f g : FB} (ha : DT X a f) (hb : DW X (.BoolOp .Or (b :: rest) pos) g) : DW X (.BoolOp .Or (a :: b :: rest) pos) (Tt.or f g) := by
  refine ⟨fun B W tk => (pw_or (ha.run B W tk) (hb.run B W tk)).imp fun σ H Q h => ?_⟩
  obtain ⟨G, env, S, h⟩ := h
  refine ⟨G, env, S, ?_⟩
  unfold Tt.or at h
  cases q : f env with
  | stk => simp [q, oE] at h
  | exc x e' => simp only [q, Out.bind_exc] at h; exact h
  | ok c e1 =>
    simp only [q, Out.bind_ok] at h
    refine fun G1 H1 S1 l1 => ?_
    cases c with
    | true => exact iteT (h G1 H1 S1 l1)
    | false => exact iteF ⟨G1, e1, S1, oE.mono (by simpa using h) l1 fun _ _ _ _ _ z => z⟩
/-! as values -/
def E.and (f g : FE) : FE := fun env => (f env).bind fun a e => match rd e a with
  | some (.bl b) => if b = true then g e else .ok (.dv (.bl false)) e
  | _ => .stk
def E.or (f g : FE) : FE := fun env => (f env).bind fun a e => match rd e a with
  | some (.bl b) => if b = true then .ok (.dv (.bl true)) e else g e
  | _ => .stk
def notD : D → Option D
  | .bl b => some (.bl (!b))
  | _ => none
def E.not (f : FE) : FE := E.c1 notD f
theorem de_one {op} {f : FE} (ha : DE X a f) : DE X (.BoolOp op [a] pos) f := ⟨fun B W tk => pe_one (ha.run B W tk)⟩
theorem de_and {rest : List Expr} {f g : FE} (ha : DE X a f) (hb : DE X (.BoolOp .And (b :: rest) pos) g) : DE X (.BoolOp .And (a :: b :: rest) pos) (E.and f g) := by
  refine ⟨fun B W tk => (pe_and (ha.run B W tk) (hb.run B W tk)).imp fun σ H Q h => ?_⟩
  obtain ⟨G, env, S, h⟩ := h
  refine ⟨G, env, S, ?_⟩
  unfold E.and at h
  cases q : f env with
  | stk => simp [q, oE] at h
  | exc x e' => simp only [q, Out.bind_exc] at h; exact h
  | ok c e1 =>
    simp only [q, Out.bind_ok] at h
    refine fun G1 H1 S1 l1 v r1 => ?_
    cases qa : rd e1 c with
    | none => simp [qa, oE] at h
    | some d =>
      cases d with
      | bl b =>
        simp only [qa] at h
        refine ⟨b, (S1.orel r1 qa).bl, ?_⟩
        cases b with
        | true => exact iteT ⟨G1, e1, S1, oE.mono (by simpa using h) l1 fun _ _ _ _ _ z => z⟩
        | false => exact iteF (h G1 H1 S1 l1 _ (.bl _))
      | _ => simp [qa, oE] at h
theorem de_or {rest : List Expr} {f g : FE} (ha : DE X a f) (hb : DE X (.BoolOp .Or (b :: rest) pos) g) : DE X (.BoolOp .Or (a :: b :: rest) pos) (E.or f g) := by
  refine ⟨fun B W tk => (pe_or (ha.run B W tk) (hb.run B W tk)).imp fun σ H Q h => ?_⟩
  obtain ⟨G, env, S, h⟩ := h
  refine ⟨G, env, S, ?_⟩
  unfold E.or at h
  cases q : f env with
  | stk => simp [q, oE] at h
  | exc x e' => simp only [q, Out.bind_exc] at h; exact h
  | ok c e1 =>
    simp only [q, Out.bind_ok] at h
    refine fun G1 H1 S1 l1 v r1 => ?_
    cases qa : rd e1 c with
    | none => simp [qa, oE] at h
    | some d =>
      cases d with
      | bl b =>
        simp only [qa] at h
        refine ⟨b, (S1.orel r1 qa).bl, ?_⟩
        cases b with
        | true => exact iteT (h G1 H1 S1 l1 _ (.bl _))
        | false => exact iteF ⟨G1, e1, S1, oE.mono (by simpa using h) l1 fun _ _ _ _ _ z => z⟩
      | _ => simp [qa, oE] at h
theorem de_not {f : FE} (ha : DE X a f) : DE X (.UnaryOp .Not a pos) (E.not f) := by
  refine ⟨fun B W tk => (pe_not (ha.run B W tk)).imp fun σ H Q h => ?_⟩
  obtain ⟨G, env, S, h⟩ := tE_u1 h
  refine ⟨G, env, S, h.mono (Same.refl G) fun a e' G' H' l k v r => ?_⟩
  obtain ⟨G2, d, z, l2, o, hz, kk⟩ := k v r
  unfold notD at hz
  split at hz
  · cases hz
    exact ⟨_, o.bl, Kont.same kk l2 (.bl _)⟩
  · cases hz
def E.ite (t : FB) (f g : FE) : FE := fun env => (t env).bind fun b e => if b = true then f e else g e
theorem de_ite {c : Expr} {t : FB} {f g : FE} (hc : DT X c t) (ha : DE X a f) (hb : DE X b g) : DE X (.IfExp c a b pos) (E.ite t f g) := by
  refine ⟨fun B W tk => (pe_ifExp (hc.run B W tk) (ha.run B W tk) (hb.run B W tk)).imp fun σ H Q h => ?_⟩
  obtain ⟨G, env, S, h⟩ := h
  refine ⟨G, env, S, ?_⟩
  unfold E.ite at h
  cases q : t env with
  | stk => simp [q, oE] at h
  | exc x e' => simp only [q, Out.bind_exc] at h; exact h
  | ok c e1 =>
    simp only [q, Out.bind_ok] at h
    refine fun G1 H1 S1 l1 => ?_
    cases c with
    | true => exact iteT ⟨G1, e1, S1, oE.mono (by simpa using h) l1 fun _ _ _ _ _ z => z⟩
    | false => exact iteF ⟨G1, e1, S1, oE.mono (by simpa using h) l1 fun _ _ _ _ _ z => z⟩
/-- a < b < c -/
def E.chn (op op' : D → D → Option D) (f g h : FE) : FE := fun env => (f env).bind fun a e1 => (g e1).bind fun b e2 => match rd e2 a, rd e2 b with
  | some x, some y => match op x y with
    | some (.bl true) => (h e2).bind fun c e3 => match rd e3 b, rd e3 c with
      | some y', some z => match op' y' z with
        | some w => .ok (.dv w) e3
        | none => .stk
      | _, _ => .stk
    | some (.bl false) => .ok (.dv (.bl false)) e2
    | _ => .stk
  | _, _ => .stk
theorem tE_chn {T : Stt} {B : Bse} {W : WX} {op op' : D → D → Option D} {f g h : FE} {σ : St} {H : Hp} {Q : VK} (q : tE T B W (E.chn op op' f g h) σ H Q) : tChain (rD T op) (rD T op') (tE T B W f) (tE T B W g) (tE T B W h) σ H Q := by
  obtain ⟨G, env, S, q⟩ := q
  refine ⟨G, env, S, ?_⟩
  unfold E.chn at q
  cases q1 : f env with
  | stk => simp [q1, oE] at q
  | exc x e' => simp only [q1, Out.bind_exc] at q; exact q
  | ok a e1 =>
    simp only [q1, Out.bind_ok] at q
    refine fun G1 H1 S1 l1 v1 r1 => ⟨G1, e1, S1, ?_⟩
    cases q2 : g e1 with
    | stk => simp [q2, oE] at q
    | exc x e' =>
      simp only [q2, Out.bind_exc] at q
      exact fun cls d G' H' S' l' => q cls d G' H' S' (l1.trans l')
    | ok b e2 =>
      simp only [q2, Out.bind_ok] at q
      refine fun G2 H2 S2 l2 v2 r2 => ?_
      cases qa : rd e2 a with
      | none => simp [qa, oE] at q
      | some x =>
        cases qb : rd e2 b with
        | none => simp [qa, qb, oE] at q
        | some y =>
          simp only [qa, qb] at q
          cases qz : op x y with
          | none => simp [qz, oE] at q
          | some z =>
            refine ⟨G2, x, y, z, S2.gh, S2.orel (r1.same l2) qa, S2.orel r2 qb, qz, fun v G3 H3 g3 gh hh ad rv => ?_⟩
            have S3 := S2.ext g3 gh hh ad
            cases z with
            | bl c =>
              cases rv
              refine ⟨c, rfl, ?_⟩
              cases c with
              | false =>
                simp only [qz] at q
                exact iteF (q G3 H3 S3 ((l1.trans l2).trans g3) _ (.bl _))
              | true =>
                simp only [qz] at q
                refine iteT ⟨G3, e2, S3, ?_⟩
                cases q3 : h e2 with
                | stk => simp [q3, oE] at q
                | exc x e' =>
                  simp only [q3, Out.bind_exc] at q
                  exact fun cls d G' H' S' l' => q cls d G' H' S' (((l1.trans l2).trans g3).trans l')
                | ok c e3 =>
                  simp only [q3, Out.bind_ok] at q
                  refine fun G4 H4 S4 l4 v4 r4 => ?_
                  cases qc : rd e3 b with
                  | none => simp [qc, oE] at q
                  | some y' =>
                    cases qd : rd e3 c with
                    | none => simp [qc, qd, oE] at q
                    | some z' =>
                      simp only [qc, qd] at q
                      cases qw : op' y' z' with
                      | none => simp [qw, oE] at q
                      | some w =>
                        simp only [qw] at q
                        exact ⟨G4, y', z', w, S4.gh, S4.orel ((r2.same g3).same l4) qc, S4.orel r4 qd, qw, fun v G5 H5 g5 gh5 hh5 ad5 rv => q G5 H5 (S4.ext g5 gh5 hh5 ad5) ((((l1.trans l2).trans g3).trans l4).trans g5) v rv⟩
            | _ => simp [qz, oE] at q
theorem de_chn {c : Expr} {o o' : CmpOp} {op op' : D → D → Option D} {f g h : FE} (ho : OpD X (compareOp o) op) (ho' : OpD X (compareOp o') op') (ha : DE X a f) (hb : DE X b g) (hc : DE X c h)
    (hm : lastMarks [o, o'] [b, c] = false := by with_unfolding_all rfl) : DE X (.Compare a [o, o'] [b, c] pos) (E.chn op op' f g h) :=
  ⟨fun B W tk => (pe_chain ho ho' (ha.run B W tk) (hb.run B W tk) (hc.run B W tk) hm).imp fun σ H Q q => tE_chn q⟩
theorem dt_chn {c : Expr} {o o' : CmpOp} {op op' : D → D → Option D} {f g h : FE} (ho : OpD X (compareOp o) op) (ho' : OpD X (compareOp o') op') (ha : DE X a f) (hb : DE X b g) (hc : DE X c h)
    (hm : lastMarks [o, o'] [b, c] = false := by with_unfolding_all rfl) : DT X (.Compare a [o, o'] [b, c] pos) (Tt.val (E.chn op op' f g h)) :=
  ⟨fun B W tk => (pt_chain ho ho' (ha.run B W tk) (hb.run B W tk) (hc.run B W tk) hm).imp fun σ H Q q => by
    obtain ⟨G, env, S, h⟩ := tT_val q
    exact tE_chn ⟨G, env, S, h⟩⟩
end

/-! ### subscripts -/
def ixD : D → D → Option D
  | .lst xs, .int i => atI xs i
  | .tup xs, .int i => atI xs i
  | .str x, .int i => if x.length ≤ sizeLine then (atI x.cps.toList i).map fun c => .str ⟨#[c]⟩ else none
  | .dcK ks ds, k => (keyOf k).bind (lookD ks ds)
  | .dcT ks ds, k => (keyT k).bind (lookD ks ds)
  | _, _ => none
theorem atI_rel {T : Stt} {G : Hp} {vs : List V} {ds : List D} {i : Int} {d : D} (r : VRels T G vs ds) (h : atI ds i = some d) : ∃ v, atI vs i = some v ∧ VRel T G v d := by
  unfold atI at h ⊢
  rw [r.length]
  cases q : ixN ds.length i with
  | none => rw [q] at h; cases h
  | some j =>
    rw [q] at h
    exact r.get' h
section
variable {X : Cx} {a b : Expr} {pos : Pos}
theorem ix_D (hu : X.A.units + 1 < cLine) : IxR X (rD ⟨X.K, X.mg⟩ ixD) := by
  intro value slice pins s σ H x y v u Q I rx ry ⟨G, d, e, z, l, ox, oy, hz, k⟩ hs
  unfold ixD at hz
  split at hz
  · obtain ⟨p, vs, rfl, h, r⟩ := ox.lst l
    obtain rfl := oy.int
    obtain ⟨w, h1, h2⟩ := atI_rel r hz
    exact ix_list value slice pins s σ H _ _ v u Q I rx ry ⟨p, vs, _, w, rfl, rfl, SqL.of h, h1, Kont.same k l h2⟩ hs
  · obtain ⟨p, vs, rfl, h, _, r⟩ := ox.tup l
    obtain rfl := oy.int
    obtain ⟨w, h1, h2⟩ := atI_rel r hz
    exact ix_tup value slice pins s σ H _ _ v u Q I rx ry ⟨p, vs, _, w, rfl, rfl, h, h1, Kont.same k l h2⟩ hs
  · split at hz
    · rename_i xx i hl
      obtain rfl := ox.str
      obtain rfl := oy.int
      cases q : atI xx.cps.toList i with
      | none => rw [q] at hz; cases hz
      | some c =>
        rw [q] at hz
        cases hz
        exact ix_str value slice pins s σ H _ _ v u Q I rx ry ⟨_, _, c, rfl, rfl, hl, q, Kont.same k l (.str _)⟩ hs
    · cases hz
  · rename_i ks ds
    cases qk : keyOf e with
    | none => rw [qk] at hz; cases hz
    | some kk =>
      rw [qk] at hz
      obtain rfl := keyOf_v oy qk
      obtain ⟨p, kvs, rfl, hr, rfl, rv⟩ := ox.dcK l
      obtain rfl : v = Value.ref p := rx
      obtain ⟨w, h1, h2⟩ := (valV_look rv).1 z hz
      have g : DGet H p (kV kk) (some w) := .inl ⟨kvs, kk, hr, rfl, h1.symm⟩
      exact tail_any (dict_typeIs I g) PySem.F.slot_dict_getitem.lookup (d_getItem hu I g ry fun w' s3 I3 rw' => ⟨w, H, I3, rw', Kont.same k l h2⟩) hs
  · rename_i ks ds
    cases qk : keyT e with
    | none => rw [qk] at hz; cases hz
    | some kk =>
      rw [qk] at hz
      obtain ⟨b, rfl, hb⟩ := keyT_v l oy qk
      obtain ⟨p, kvs, rfl, hr, rfl, rv⟩ := ox.dcT l
      obtain rfl : v = Value.ref p := rx
      obtain ⟨w, h1, h2⟩ := (valV_look rv).1 z hz
      have g : DGet H p (.ref b) (some w) := .inr ⟨kvs, kk, b, hr, rfl, hb, h1.symm⟩
      exact tail_any (dict_typeIs I g) PySem.F.slot_dict_getitem.lookup (d_getItem hu I g ry fun w' s3 I3 rw' => ⟨w, H, I3, rw', Kont.same k l h2⟩) hs
  · cases hz
theorem de_ix {f g : FE} (hu : X.A.units + 1 < cLine) (ha : DE X a f) (hb : DE X b g) (hs : PlainIx b := by intro _ _; rfl) : DE X (.Subscript a b pos) (E.bin ixD f g) :=
  ⟨fun B W tk => (pe_ix (ix_D hu) (ha.run B W tk) (hb.run B W tk) hs).imp fun σ H Q h => tE_bin h⟩
end
end DL
-- DL5
set_option maxRecDepth 100000
set_option maxHeartbeats 4000000
/-! DL5: slices, attributes, calls of defs, statements, loops. -/
namespace DL
open PySem PySem.Spec PyProof.Rows L2

/-! ### slices -/
abbrev FO1 := Ev → Out (Option Int)
def P.no : FO1 := fun env => .ok none env
def P.at (f : FE) : FO1 := fun env => (f env).bind fun a e => match rd e a with
  | some (.int i) => .ok (some i) e
  | _ => .stk
def tOp1 (T : Stt) (B : Bse) (W : WX) (f : FO1) : TO := fun σ H Q => ∃ G env, StR T B G H σ env ∧ oE T B W σ G (f env) fun b e' G' H' => Q b H'
structure DP (X : Cx) (e : Option Expr) (f : FO1) : Prop where
  run : ∀ (B : Bse) (W : WX), Takes X W → PO X e (tOp1 ⟨X.K, X.mg⟩ B W f)
theorem _root_.L2.PO.imp {X : Cx} {e : Option Expr} {t t' : TO} (h : PO X e t) (w : ∀ σ H Q, t' σ H Q → t σ H Q) : PO X e t' := ⟨fun pins s σ H Q I q => h.run pins s σ H Q I (w σ H Q q)⟩
def cutD (xs : List D) (lo hi : Option Int) : List D := (xs.drop (HT.sIx xs.length 0 lo)).take (HT.sIx xs.length xs.length hi - HT.sIx xs.length 0 lo)
def sliceD (d : D) (lo hi : Option Int) : Option D := match d with
  | .tup xs => some (.tup (cutD xs lo hi))
  | .lst xs => some (.lst (cutD xs lo hi))
  | .str z => if z.length ≤ sizeLine then some (.str (cutS z lo hi)) else none
  | .scr is => some (.lst (cutD (is.map .int) lo hi))
  | _ => none
def E.sl (f : FE) (l h : FO1) : FE := fun env => (f env).bind fun a e1 => (l e1).bind fun lo e2 => (h e2).bind fun hi e3 => match rd e3 a with
  | some d => match sliceD d lo hi with
    | some z => .ok (.dv z) e3
    | none => .stk
  | none => .stk
section
variable {X : Cx} {e : Expr} {lo hi : Option Expr} {pos p2 : Pos}
theorem dp_no : DP X none P.no := ⟨fun B W tk => po_none.imp fun σ H Q ⟨G, env, S, h⟩ => h G H S (Same.refl G)⟩
theorem dp_at {f : FE} (h : DE X e f) : DP X (some e) (P.at f) := by
  refine ⟨fun B W tk => (po_some (h.run B W tk)).imp fun σ H Q h => ?_⟩
  obtain ⟨G, env, S, h⟩ := h
  refine ⟨G, env, S, ?_⟩
  unfold P.at at h
  cases q : f env with
  | stk => simp [q, oE] at h
  | exc x e' => simp only [q, Out.bind_exc] at h; exact h
  | ok c e1 =>
    simp only [q, Out.bind_ok] at h
    refine fun G1 H1 S1 l1 v r1 => ?_
    cases qa : rd e1 c with
    | none => simp [qa, oE] at h
    | some d =>
      cases d with
      | int b =>
        simp only [qa] at h
        exact ⟨b, (S1.orel r1 qa).int, h G1 H1 S1 l1⟩
      | _ => simp [qa, oE] at h
theorem VRels.cut {T : Stt} {G : Hp} {vs : List V} {ds : List D} (r : VRels T G vs ds) (lo hi : Option Int) : VRels T G (cutV vs lo hi) (cutD ds lo hi) := by
  unfold cutV cutD
  rw [r.length]
  exact (r.drop _).take _
def rSD (T : Stt) : V → Option Int → Option Int → Hp → VK → Prop := fun x lo hi H Q => ∃ G d z, Le G H ∧ ORel T G H x d ∧ sliceD d lo hi = some z ∧ Kont T G H z Q
theorem cut_whole {xs : List D} {lo hi : Option Int} (h : HT.sIx xs.length 0 lo = 0 ∧ HT.sIx xs.length xs.length hi = xs.length) : cutD xs lo hi = xs := by
  unfold cutD
  rw [h.1, h.2]
  simp
theorem sl_D : SlR X (rSD ⟨X.K, X.mg⟩) := by
  intro pins s σ H x v vl vu lo hi sl Q I rx hs pl pu ⟨G, d, z, l, o, hz, k⟩
  unfold sliceD at hz
  split at hz
  · cases hz
    obtain ⟨a, vs, rfl, h, g, r⟩ := o.tup l
    refine sl_tupA pins s σ H _ v vl vu lo hi sl Q I rx hs pl pu ⟨a, vs, rfl, h, fun w => ?_, fun _ p hp => Kont.tup k l hp (r.cut lo hi)⟩
    rw [r.length] at w
    rw [cut_whole w] at k
    exact Kont.same k l (.tup g r)
  · cases hz
    obtain ⟨a, vs, rfl, h, r⟩ := o.lst l
    exact sl_list pins s σ H _ v vl vu lo hi sl Q I rx hs pl pu ⟨a, vs, rfl, SqL.of h, fun p hp => Kont.lst k l hp (r.cut lo hi)⟩
  · split at hz
    · rename_i hl
      cases hz
      obtain rfl := o.str
      exact sl_str pins s σ H _ v vl vu lo hi sl Q I rx hs pl pu ⟨_, rfl, hl, Kont.same k l (.str _)⟩
    · cases hz
  · rename_i is
    cases hz
    obtain ⟨a, rfl, h⟩ := o.scr l
    exact sl_list pins s σ H _ v vl vu lo hi sl Q I rx hs pl pu ⟨a, _, rfl, h, fun p hp => Kont.lst k l hp ((ints_rel is).cut lo hi)⟩
  · cases hz
theorem de_sl {f : FE} {l h : FO1} (he : DE X e f) (hl : DP X lo l) (hh : DP X hi h) : DE X (.Subscript e (.Slice lo hi none p2) pos) (E.sl f l h) := by
  refine ⟨fun B W tk => (pe_slice sl_D (he.run B W tk) (hl.run B W tk) (hh.run B W tk)).imp fun σ H Q q => ?_⟩
  obtain ⟨G, env, S, q⟩ := q
  refine ⟨G, env, S, ?_⟩
  unfold E.sl at q
  cases q1 : f env with
  | stk => simp [q1, oE] at q
  | exc x e' => simp only [q1, Out.bind_exc] at q; exact q
  | ok a e1 =>
    simp only [q1, Out.bind_ok] at q
    refine fun G1 H1 S1 l1 v1 r1 => ⟨G1, e1, S1, ?_⟩
    cases q2 : l e1 with
    | stk => simp [q2, oE] at q
    | exc x e' =>
      simp only [q2, Out.bind_exc] at q
      exact fun cls d G' H' S' l' => q cls d G' H' S' (l1.trans l')
    | ok lo2 e2 =>
      simp only [q2, Out.bind_ok] at q
      refine fun G2 H2 S2 l2 => ⟨G2, e2, S2, ?_⟩
      cases q3 : h e2 with
      | stk => simp [q3, oE] at q
      | exc x e' =>
        simp only [q3, Out.bind_exc] at q
        exact fun cls d G' H' S' l' => q cls d G' H' S' ((l1.trans l2).trans l')
      | ok hi2 e3 =>
        simp only [q3, Out.bind_ok] at q
        refine fun G3 H3 S3 l3 => ?_
        cases qa : rd e3 a with
        | none => simp [qa, oE] at q
        | some d =>
          simp only [qa] at q
          cases qz : sliceD d lo2 hi2 with
          | none => simp [qz, oE] at q
          | some z =>
            simp only [qz] at q
            exact ⟨G3, d, z, S3.gh, S3.orel ((r1.same l2).same l3) qa, qz, fun v G' H' g gh hh ad rv => q G' H' (S3.ext g gh hh ad) (((l1.trans l2).trans l3).trans g) v rv⟩
end

/-! ### attributes of a web -/
def fldD (x : Str) : D → Option D
  | .web n fr fo => if x = "people" then some n else if x = "friends" then some fr else if x = "foes" then some fo else none
  | _ => none
structure WebT (K : PySem.W.Frag) (mg : Str → Option Value) : Prop where
  ex : ∃ C, mg "Web" = some (.ref C) ∧ Cls K C ∧ NoAttr K C "people" ∧ NoAttr K C "friends" ∧ NoAttr K C "foes" ∧ NoAttr K C "kept"
theorem webF_people {a b c d : V} : (webF a b c d).lookup ("people" : Str) = some a := by
  simp [webF, List.lookup]
theorem sne1 : (("friends" : Str) == ("people" : Str)) = false := by decide +kernel
theorem sne2 : (("foes" : Str) == ("people" : Str)) = false := by decide +kernel
theorem sne3 : (("foes" : Str) == ("friends" : Str)) = false := by decide +kernel
theorem sne4 : (("kept" : Str) == ("people" : Str)) = false := by decide +kernel
theorem sne5 : (("kept" : Str) == ("friends" : Str)) = false := by decide +kernel
theorem sne6 : (("kept" : Str) == ("foes" : Str)) = false := by decide +kernel
theorem webF_friends {a b c d : V} : (webF a b c d).lookup ("friends" : Str) = some b := by
  simp [webF, List.lookup, sne1]
theorem webF_foes {a b c d : V} : (webF a b c d).lookup ("foes" : Str) = some c := by
  simp [webF, List.lookup, sne2, sne3]
section
variable {X : Cx} {e : Expr} {pos : Pos} {x : Str}
theorem de_fld {f : FE} (w : WebT X.K X.mg) (he : DE X e f) (hb : attributeBase e x X.env (eval e X.env) = eval e X.env := by rfl) : DE X (.Attribute e x pos) (E.c1 (fldD x) f) := by
  refine ⟨fun B W tk => (pe_fld (he.run B W tk) hb).imp fun σ H Q q => ?_⟩
  obtain ⟨G, env, S, q⟩ := tE_u1 q
  refine ⟨G, env, S, q.mono (Same.refl G) fun a e' G' H' l k v r => ?_⟩
  obtain ⟨G2, d, z, l2, o, hz, kk⟩ := k v r
  obtain ⟨C, c1, c2, c3, c4, c5, _⟩ := w.ex
  unfold fldD at hz
  split at hz
  · rcases o with o | ⟨p, _, c⟩
    · cases o with
      | web cc h r1 r2 r3 =>
        have cc' := c1.symm.trans cc
        cases cc'
        have h2 := l2.nd h True.intro
        split at hz
        · rename_i ex
          cases hz
          subst ex
          exact ⟨_, C, _, _, _, rfl, h2, c2, c3, webF_people, Kont.same kk l2 r1⟩
        · split at hz
          · rename_i ex
            cases hz
            subst ex
            exact ⟨_, C, _, _, _, rfl, h2, c2, c4, webF_friends, Kont.same kk l2 r2⟩
          · split at hz
            · rename_i ex
              cases hz
              subst ex
              exact ⟨_, C, _, _, _, rfl, h2, c2, c5, webF_foes, Kont.same kk l2 r3⟩
            · cases hz
    · exact c.elim
  · cases hz
end

/-! ### calls of defs -/
inductive FO where
  | ok (d : D) | exc (x : Xn) | stk
def oF (T : Stt) (G H : Hp) (o : FO) (Q : VK) (E : XK) : Prop := match o with
  | .ok z => Kont T G H z Q
  | .exc x => ∀ cls d G' H', Same G G' → Le G' H' → Same H H' → Adds G H G' → XRel T G' H' x cls d → E cls d H'
  | .stk => False
/-- what a pure def promises: F of its arguments' data -/
def spD (T : Stt) (F : List D → FO) : Sp := fun vs H Q E => ∃ G ds, Le G H ∧ VRels T G vs ds ∧ oF T G H (F ds) Q E
def E.call (F : List D → FO) (g : FA) : FE := fun env => (g env).bind fun ds e => match F ds with
  | .ok z => .ok (.dv z) e
  | .exc x => .exc x e
  | .stk => .stk
/-- a def of the module that keeps its promise F, by at most level k -/
structure DefOk (P : Program) (w : World) (K : PySem.W.Frag) (mg : Str → Option Value) (base : Heap) (x : Str) (k : Nat) (F : List D → FO) : Prop where
  ex : ∃ f fd ps, mg x = some (.ref f) ∧ PySem.W.keepIn K (.ref f) = true ∧ Binds K fd ps [] ∧ FnOk P w K mg base (L2.CX P w) k f fd ps (spD ⟨K, mg⟩ F)
section
variable {X : Cx} {x : Str} {p pos : Pos} {e : Expr} {es : List Expr} {k : Nat}
theorem tE_call {T : Stt} {B : Bse} {W : WX} {F : List D → FO} {g : FA} {σ : St} {H : Hp} {Q : VK} (h : tE T B W (E.call F g) σ H Q) : tAr T B W g σ H fun vs H1 => spD T F vs H1 Q (WE W σ) := by
  obtain ⟨G, env, S, h⟩ := h
  refine ⟨G, env, S, ?_⟩
  unfold E.call at h
  cases q : g env with
  | stk => simp [q, oE] at h
  | exc x e' => simp only [q, Out.bind_exc] at h; exact h
  | ok ds e1 =>
    simp only [q, Out.bind_ok] at h
    refine fun G1 H1 S1 l1 vs r1 => ⟨G1, ds, S1.gh, r1, ?_⟩
    cases qz : F ds with
    | stk => simp [qz, oE] at h
    | ok z =>
      simp only [qz] at h
      exact fun v G' H' g1 gh hh ad rv => h G' H' (S1.ext g1 gh hh ad) (l1.trans g1) v rv
    | exc x =>
      simp only [qz] at h
      exact fun cls d G' H' g1 gh hh ad rx => h cls d G' H' (S1.ext g1 gh hh ad) (l1.trans g1) rx
theorem de_call {F : List D → FO} {g : FA} (D : DefOk X.prog X.w X.K X.mg X.base x k F) (hr : Room k X.A) (ha : DA X (e :: es) g) (hg : Gl X x := by rfl) (hdb : (x == ("__debug__" : Str)) = false := by decide)
    (he : starEach (e :: es) X.env = (false, eval e X.env) :: starEach es X.env := by rfl) (hpl : (backTo pos (starEach es X.env)).any (·.1) = false := by rfl) : DE X (.Call (.Name x p) (e :: es) [] pos) (E.call F g) := by
  obtain ⟨f, fd, ps, hm, hk, hb, Fk⟩ := D.ex
  exact ⟨fun B W tk => (pe_callS Fk hr hg hm hk hb (fun σ => passAt tk σ) (ha.run B W tk) hdb he hpl).imp fun σ H Q h => tE_call h⟩
end

/-! ### statements -/
inductive SO where
  | nx (e : Ev) | rt (d : D) (e : Ev) | bk (e : Ev) | ct (e : Ev) | exc (x : Xn) (e : Ev) | stk
abbrev FS := Ev → SO
def oS (T : Stt) (B : Bse) (W : WX) (De : Ends) (G : Hp) (o : SO) : Prop := match o with
  | .nx e' => ∀ σ' G' H', StR T B G' H' σ' e' → Same G G' → De.nx σ' H'
  | .rt d e' => ∀ v σ' G' H', StR T B G' H' σ' e' → Same G G' → VRel T G' v d → De.rt v H'
  | .bk e' => ∀ σ' G' H', StR T B G' H' σ' e' → Same G G' → De.bk σ' H'
  | .ct e' => ∀ σ' G' H', StR T B G' H' σ' e' → Same G G' → De.ct σ' H'
  | .exc x e' => ∀ cls d σ' G' H', StR T B G' H' σ' e' → Same G G' → XRel T G' H' x cls d → W cls d σ' H'
  | .stk => False
def tS (T : Stt) (B : Bse) (W : WX) (f : FS) : TS := fun De σ H => ∃ G env, StR T B G H σ env ∧ oS T B W De G (f env)
abbrev Psn (X : Cx) : Prop := PassesOwn (model X.prog X.w) X.A X.env X.xe
structure DS (X : Cx) (st : Stmt) (f : FS) : Prop where
  run : ∀ (B : Bse) (W : WX), Takes X W → Psn X → PS X st (tS ⟨X.K, X.mg⟩ B W f)
structure DSs (X : Cx) (sts : List Stmt) (f : FS) : Prop where
  run : ∀ (B : Bse) (W : WX), Takes X W → Psn X → PSs X sts (tS ⟨X.K, X.mg⟩ B W f)
theorem oS.mono {T : Stt} {B : Bse} {W : WX} {De : Ends} {G G2 : Hp} {o : SO} (h : oS T B W De G o) (s : Same G G2) : oS T B W De G2 o := by
  cases o with
  | nx e' => exact fun σ' G' H' S l => h σ' G' H' S (s.trans l)
  | rt d e' => exact fun v σ' G' H' S l => h v σ' G' H' S (s.trans l)
  | bk e' => exact fun σ' G' H' S l => h σ' G' H' S (s.trans l)
  | ct e' => exact fun σ' G' H' S l => h σ' G' H' S (s.trans l)
  | exc x e' => exact fun c d σ' G' H' S l => h c d σ' G' H' S (s.trans l)
  | stk => exact h
def S.nop : FS := fun env => .nx env
def S.seq (f g : FS) : FS := fun env => match f env with
  | .nx e => g e
  | o => o
section
variable {X : Cx} {pos : Pos}
theorem ds_nil : DSs X [] S.nop := ⟨fun B W tk ps => pss_nil.imp fun De σ H ⟨G, env, Sr, h⟩ => h σ G H Sr (Same.refl G)⟩
theorem tS_seq {T : Stt} {B : Bse} {W : WX} {f g : FS} {De : Ends} {σ : St} {H : Hp} (h : tS T B W (S.seq f g) De σ H) : tSeq (tS T B W f) (tS T B W g) De σ H := by
  obtain ⟨G, env, Sr, h⟩ := h
  refine ⟨G, env, Sr, ?_⟩
  unfold S.seq at h
  cases q : f env with
  | nx e => simp only [q] at h; exact fun σ' G' H' S' l => ⟨G', e, S', h.mono l⟩
  | rt d e => simp only [q] at h; exact h
  | bk e => simp only [q] at h; exact h
  | ct e => simp only [q] at h; exact h
  | exc x e => simp only [q] at h; exact h
  | stk => simp [q, oS] at h
theorem ds_cons {st : Stmt} {sts : List Stmt} {f g : FS} (h1 : DS X st f) (h2 : DSs X sts g) : DSs X (st :: sts) (S.seq f g) := ⟨fun B W tk ps => (pss_cons (h1.run B W tk ps) (h2.run B W tk ps)).imp fun De σ H h => tS_seq h⟩
theorem ds_one {st : Stmt} {f : FS} (h1 : DS X st f) : DSs X [st] f := ⟨fun B W tk ps => pss_one (h1.run B W tk ps)⟩
def Out.toS {α : Type} (o : Out α) (k : α → Ev → SO) : SO := match o with
  | .ok a e => k a e
  | .exc x e => .exc x e
  | .stk => .stk
@[simp] theorem Out.toS_ok {α : Type} (a : α) (e : Ev) (k : α → Ev → SO) : (Out.ok a e).toS k = k a e := rfl
@[simp] theorem Out.toS_exc {α : Type} (x : Xn) (e : Ev) (k : α → Ev → SO) : (Out.exc x e : Out α).toS k = .exc x e := rfl
@[simp] theorem Out.toS_stk {α : Type} (k : α → Ev → SO) : (Out.stk : Out α).toS k = .stk := rfl
/-- from a statement's outcome to its expression's -/
theorem oS_toS {α : Type} {T : Stt} {B : Bse} {W : WX} {De : Ends} {σ : St} {G : Hp} {o : Out α} {k : α → Ev → SO} {R : α → Ev → Hp → Hp → Prop} (h : oS T B W De G (o.toS k))
    (m : ∀ a e' G' H', StR T B G' H' σ e' → Same G G' → oS T B W De G' (k a e') → R a e' G' H') : oE T B W σ G o R := by
  cases o with
  | ok a e => exact fun G' H' S l => m a e G' H' S l (oS.mono h l)
  | exc x e => exact fun c d G' H' S l rx => h c d σ G' H' S l rx
  | stk => exact h
def S.ret (f : FE) : FS := fun env => (f env).toS fun a e => match frz e a with
  | some (d, e2) => .rt d e2
  | none => .stk
theorem ds_ret {e : Expr} {f : FE} (h : DE X e f) : DS X (.Return (some e) pos) (S.ret f) := by
  refine ⟨fun B W tk ps => (ps_ret (h.run B W tk)).imp fun De σ H q => ?_⟩
  obtain ⟨G, env, Sr, q⟩ := q
  refine ⟨G, env, Sr, oS_toS q fun a e' G' H' S' l k v r => ?_⟩
  cases qf : frz e' a with
  | none => simp [qf, oS] at k
  | some p =>
    obtain ⟨d, e2⟩ := p
    simp only [qf] at k
    obtain ⟨G2, S2, l2, rv⟩ := S'.frz r qf
    exact k v σ G2 H' S2 l2 rv
def S.retN : FS := fun env => .rt .non env
theorem ds_retN : DS X (.Return none pos) S.retN := ⟨fun B W tk ps => ps_retN.imp fun De σ H ⟨G, env, Sr, h⟩ => h .non σ G H Sr (Same.refl G) .non⟩
def S.expr (f : FE) : FS := fun env => (f env).toS fun _ e => .nx e
theorem ds_expr {e : Expr} {f : FE} (h : DE X e f) (hs : swapsWith e none pos.line X.env = pure false := by rfl) : DS X (.Expr e pos) (S.expr f) := by
  refine ⟨fun B W tk ps => (ps_expr (h.run B W tk) hs).imp fun De σ H q => ?_⟩
  obtain ⟨G, env, Sr, q⟩ := q
  exact ⟨G, env, Sr, oS_toS q fun a e' G' H' S' l k v r => k σ G' H' S' (Same.refl G')⟩
theorem ds_pass : DS X (.Pass pos) S.nop := ⟨fun B W tk ps => ps_pass.imp fun De σ H ⟨G, env, Sr, h⟩ => h σ G H Sr (Same.refl G)⟩
def S.brk : FS := fun env => .bk env
def S.cnt : FS := fun env => .ct env
theorem ds_brk : DS X (.Break pos) S.brk := ⟨fun B W tk ps => ps_break.imp fun De σ H ⟨G, env, Sr, h⟩ => h σ G H Sr (Same.refl G)⟩
theorem ds_cnt : DS X (.Continue pos) S.cnt := ⟨fun B W tk ps => ps_continue.imp fun De σ H ⟨G, env, Sr, h⟩ => h σ G H Sr (Same.refl G)⟩
def S.ifs (t : FB) (f g : FS) : FS := fun env => (t env).toS fun b e => if b = true then f e else g e
theorem ds_if {c : Expr} {a b : List Stmt} {t : FB} {f g : FS} (hc : DT X c t) (ha : DSs X a f) (hb : DSs X b g) : DS X (.If c a b pos) (S.ifs t f g) := by
  refine ⟨fun B W tk ps => (ps_if (hc.run B W tk) (ha.run B W tk ps) (hb.run B W tk ps)).imp fun De σ H q => ?_⟩
  obtain ⟨G, env, Sr, q⟩ := q
  refine ⟨G, env, Sr, oS_toS q fun c e' G' H' S' l k => ?_⟩
  cases c with
  | true => exact iteT ⟨G', e', S', by simpa using k⟩
  | false => exact iteF ⟨G', e', S', by simpa using k⟩
/-! assignments -/
/-- slot i is set, unless the store stands there -/
def put1 (e : Ev) (i : Nat) (s : Slot) : Ev := match e[i]? with
  | some (.sto _) => e
  | _ => e.set i s
theorem StR.over {T : Stt} {B : Bse} {G H : Hp} {σ : St} {env : Ev} (Sr : StR T B G H σ env) {i : Nat} (h : σ.length ≤ i) (o : Option V) : StR T B G H (σ.set i o) env := by
  rw [List.set_eq_of_length_le h]; exact Sr
theorem StR.put1 {T : Stt} {B : Bse} {G H : Hp} {σ : St} {env : Ev} (Sr : StR T B G H σ env) {i : Nat} {o : Option V} {s' : Slot} (k : ∀ s, env[i]? = some s → (∀ M, s ≠ .sto M) → StR T B G H (σ.set i o) (env.set i s')) : StR T B G H (σ.set i o) (DL.put1 env i s') := by
  unfold DL.put1
  split
  · rename_i M q
    exact Sr.over ((Sr.top i _ q).mpr ⟨M, rfl⟩) o
  · rename_i q
    cases h : env[i]? with
    | none =>
      have hl := List.getElem?_eq_none_iff.mp h
      rw [List.set_eq_of_length_le hl]
      exact Sr.over (Nat.le_trans Sr.len hl) o
    | some s => exact k s h fun M z => q M (by rw [h, z])
theorem StR.set0 {T : Stt} {B : Bse} {G H : Hp} {σ : St} {env : Ev} (Sr : StR T B G H σ env) {v : V} {d : D} (r : VRel T G v d) (i : Nat) {s0 : Slot} (e0 : env[i]? = some s0) (n0 : ∀ M, s0 ≠ .sto M) : StR T B G H (σ.set i (some v)) (env.set i (.val d)) where
  gh := Sr.gh
  g0 := Sr.g0
  h0 := Sr.h0
  lk := Sr.lk
  add := Sr.add
  len := by rw [List.length_set, List.length_set]; exact Sr.len
  top := by
    rw [List.length_set]
    exact top_set Sr.top e0 ⟨fun ⟨M, z⟩ => (n0 M z).elim, fun ⟨M, z⟩ => nomatch z⟩
  sto := fun M e => Sr.sto M (by rw [← sto_set (s' := Slot.val d) e0 n0 (fun _ z => nomatch z)]; exact e)
  val := fun j d' e => by
    by_cases z : i = j
    · subst z
      have hi : i < env.length := by
        have := (List.getElem?_eq_some_iff.mp e).1
        rwa [List.length_set] at this
      rw [List.getElem?_set_self hi] at e
      cases e
      exact ⟨v, List.getElem?_set_self (Sr.lt e0 n0), r⟩
    · rw [List.getElem?_set_ne z] at e
      rw [List.getElem?_set_ne z]
      exact Sr.val j d' e
  own := fun j d' e => by
    by_cases z : i = j
    · subst z
      have hi : i < env.length := by
        have := (List.getElem?_eq_some_iff.mp e).1
        rwa [List.length_set] at this
      rw [List.getElem?_set_self hi] at e
      cases e
    · rw [List.getElem?_set_ne z] at e
      rw [List.getElem?_set_ne z]
      exact Sr.own j d' e
  dis := fun j k d1 d2 p e1 e2 h1 h2 => by
    have ne : ∀ {m : Nat} {x : D}, (env.set i (.val d))[m]? = some (.own x) → i ≠ m := fun {m x} e z => by
      subst z
      have hi : i < env.length := by
        have := (List.getElem?_eq_some_iff.mp e).1
        rwa [List.length_set] at this
      rw [List.getElem?_set_self hi] at e
      cases e
    have n1 := ne e1
    have n2 := ne e2
    rw [List.getElem?_set_ne n1] at e1 h1
    rw [List.getElem?_set_ne n2] at e2 h2
    exact Sr.dis j k d1 d2 p e1 e2 h1 h2
/-- .. with an own container -/
theorem StR.set {T : Stt} {B : Bse} {G H : Hp} {σ : St} {env : Ev} (Sr : StR T B G H σ env) {v : V} {d : D} (r : VRel T G v d) (i : Nat) : StR T B G H (σ.set i (some v)) (DL.put1 env i (.val d)) := Sr.put1 fun s e n => Sr.set0 r i e n
theorem StR.setO0 {T : Stt} {B : Bse} {G H : Hp} {σ : St} {env : Ev} (Sr : StR T B G H σ env) {p : Addr} {d : D} (hb : B.2 p = none ∧ B.3 p = none) (hg : G p = none) (hn : ∀ (j : Nat) d', env[j]? = some (.own d') → σ[j]? ≠ some (some (.ref p))) (r : CRel T G H p d) (i : Nat) {s0 : Slot} (e0 : env[i]? = some s0) (n0 : ∀ M, s0 ≠ .sto M) :
    StR T B G H (σ.set i (some (.ref p))) (env.set i (.own d)) where
  gh := Sr.gh
  g0 := Sr.g0
  h0 := Sr.h0
  lk := Sr.lk
  add := Sr.add
  len := by rw [List.length_set, List.length_set]; exact Sr.len
  top := by
    rw [List.length_set]
    exact top_set Sr.top e0 ⟨fun ⟨M, z⟩ => (n0 M z).elim, fun ⟨M, z⟩ => nomatch z⟩
  sto := fun M e => Sr.sto M (by rw [← sto_set (s' := Slot.own d) e0 n0 (fun _ z => nomatch z)]; exact e)
  val := fun j d' e => by
    by_cases z : i = j
    · subst z
      have hi : i < env.length := by
        have := (List.getElem?_eq_some_iff.mp e).1
        rwa [List.length_set] at this
      rw [List.getElem?_set_self hi] at e
      cases e
    · rw [List.getElem?_set_ne z] at e
      rw [List.getElem?_set_ne z]
      exact Sr.val j d' e
  own := fun j d' e => by
    by_cases z : i = j
    · subst z
      have hi : i < env.length := by
        have := (List.getElem?_eq_some_iff.mp e).1
        rwa [List.length_set] at this
      rw [List.getElem?_set_self hi] at e
      cases e
      exact ⟨p, List.getElem?_set_self (Sr.lt e0 n0), hb, hg, r⟩
    · rw [List.getElem?_set_ne z] at e
      rw [List.getElem?_set_ne z]
      exact Sr.own j d' e
  dis := fun j k d1 d2 q e1 e2 h1 h2 => by
    have at_ : ∀ {m : Nat} {x : D}, (env.set i (.own d))[m]? = some (.own x) → (σ.set i (some (.ref p)))[m]? = some (some (.ref q)) → (m = i ∧ q = p) ∨ (i ≠ m ∧ env[m]? = some (.own x) ∧ σ[m]? = some (some (.ref q))) := fun {m x} e h => by
      by_cases z : i = m
      · subst z
        have hi : i < env.length := by
          have := (List.getElem?_eq_some_iff.mp e).1
          rwa [List.length_set] at this
        rw [List.getElem?_set_self (Sr.lt e0 n0)] at h
        cases h
        exact .inl ⟨rfl, rfl⟩
      · rw [List.getElem?_set_ne z] at e h
        exact .inr ⟨z, e, h⟩
    rcases at_ e1 h1 with ⟨a1, b1⟩ | ⟨a1, b1, c1⟩ <;> rcases at_ e2 h2 with ⟨a2, b2⟩ | ⟨a2, b2, c2⟩
    · rw [a1, a2]
    · subst b1; exact (hn k d2 b2 c2).elim
    · subst b2; exact (hn j d1 b1 c1).elim
    · exact Sr.dis j k d1 d2 q b1 b2 c1 c2
theorem StR.setO {T : Stt} {B : Bse} {G H : Hp} {σ : St} {env : Ev} (Sr : StR T B G H σ env) {p : Addr} {d : D} (hb : B.2 p = none ∧ B.3 p = none) (hg : G p = none) (hn : ∀ (j : Nat) d', env[j]? = some (.own d') → σ[j]? ≠ some (some (.ref p))) (r : CRel T G H p d) (i : Nat) :
    StR T B G H (σ.set i (some (.ref p))) (DL.put1 env i (.own d)) := Sr.put1 fun s e n => Sr.setO0 hb hg hn r i e n
def S.set (i : Nat) (f : FE) : FS := fun env => (f env).toS fun a e => match frz e a with
  | some (d, e2) => .nx (put1 e2 i (.val d))
  | none => .stk
theorem tS_set {T : Stt} {B : Bse} {W : WX} {i : Nat} {f : FE} {De : Ends} {σ : St} {H : Hp} (q : tS T B W (S.set i f) De σ H) : tAsg (tE T B W f) (gName i) De σ H := by
  obtain ⟨G, env, Sr, q⟩ := q
  refine ⟨G, env, Sr, oS_toS q fun a e' G' H' S' l k v r => ?_⟩
  cases qf : frz e' a with
  | none => simp [qf, oS] at k
  | some p =>
    obtain ⟨d, e2⟩ := p
    simp only [qf] at k
    obtain ⟨G2, S2, l2, rv⟩ := S'.frz r qf
    exact k (σ.set i (some v)) G2 H' (S2.set rv i) l2
theorem ds_set (i : Nat) {x : Str} {e : Expr} {pos' : Pos} {f : FE} (hN : X.N.Nodup) (he : DE X e f) (hi : X.N[i]? = some x := by rfl) (hx : Loc X.env.scope x := by first | exact Or.inl rfl | exact Or.inr rfl) (hs : swapsWith e (some (.Name x pos')) pos.line X.env = pure false := by rfl)
    (hf : X.fn x = true ∨ X.env.scope.names.lookup x = some .local := by first | exact .inl rfl | exact .inr rfl | assumption) : DS X (.Assign [.Name x pos'] e pos) (S.set i f) :=
  ⟨fun B W tk ps => (ps_set hN hi hx (he.run B W tk) hs hf).imp fun De σ H q => tS_set q⟩
def S.own (i : Nat) (f : FD) : FS := fun env => (f env).toS fun d e => .nx (put1 e i (.own d))
theorem tS_own {T : Stt} {B : Bse} {W : WX} {i : Nat} {f : FD} {De : Ends} {σ : St} {H : Hp} (q : tS T B W (S.own i f) De σ H) : tAsg (tF T B W f) (gName i) De σ H := by
  obtain ⟨G, env, Sr, q⟩ := q
  exact ⟨G, env, Sr, oS_toS q fun d e' G' H' S' l k p n1 n2 n3 r => k (σ.set i (some (.ref p))) G' H' (S'.setO n1 n2 n3 r i) (Same.refl G')⟩
theorem ds_own (i : Nat) {x : Str} {e : Expr} {pos' : Pos} {f : FD} (hN : X.N.Nodup) (he : DF X e f) (hi : X.N[i]? = some x := by rfl) (hx : Loc X.env.scope x := by first | exact Or.inl rfl | exact Or.inr rfl) (hs : swapsWith e (some (.Name x pos')) pos.line X.env = pure false := by rfl)
    (hf : X.fn x = true ∨ X.env.scope.names.lookup x = some .local := by first | exact .inl rfl | exact .inr rfl | assumption) : DS X (.Assign [.Name x pos'] e pos) (S.own i f) :=
  ⟨fun B W tk ps => (ps_set hN hi hx (he.run B W tk) hs hf).imp fun De σ H q => tS_own q⟩
end

/-! ### targets -/
inductive Tgt where
  | nm (i : Nat) | tp (ts : List Tgt)
  /-- x[k], x in slot i, a list of the store -/
  | six (i : Nat) (k : Int)
/-- a thing of the store is changed -/
theorem StR.updP {T : Stt} {B : Bse} {G H : Hp} {σ : St} {env : Ev} {M : List D} {n : Nat} {p : Addr} {o : HO} {d' : D} (S : StR T B G H σ env) (hM : stoOf env = some M) (hp : G p = some (.own n)) (hc : MRel T G (L2.upd H p o) p d') :
    StR T B G (L2.upd H p o) σ (setSto env (M.set n d')) := by
  obtain ⟨s1, s2, s3, s4⟩ := S.sto M hM
  have hn : n < M.length := s3 p n hp
  obtain ⟨p0, b1, b2, b3, b4⟩ := s2 n (M[n]'hn) (List.getElem?_eq_getElem hn)
  obtain rfl := s4 _ _ n hp b1
  have hl : env[env.length - 1]? = some (.sto M) := by
    unfold stoOf at hM
    split at hM
    · rename_i q; cases hM; rw [List.getLast?_eq_getElem?] at q; exact q
    · cases hM
  have hi := (List.getElem?_eq_some_iff.mp hl).1
  have other : ∀ {j : Nat} {s : Slot}, (setSto env (M.set n d'))[j]? = some s → (∀ M, s ≠ .sto M) → env[j]? = some s := fun {j s} e nn => by
    unfold setSto at e
    by_cases z : env.length - 1 = j
    · subst z; rw [List.getElem?_set_self hi] at e; cases e; exact (nn _ rfl).elim
    · rw [List.getElem?_set_ne z] at e; exact e
  obtain ⟨u, hu, mu⟩ := hc.some
  rw [upd_same] at hu
  cases hu
  refine ⟨fun a w e => ?_, S.g0, fun a w e => ?_, fun a w e => ?_, S.add, by unfold setSto; rw [List.length_set]; exact S.len, top_set S.top hl ⟨fun ⟨_, _⟩ => ⟨_, rfl⟩, fun ⟨_, _⟩ => ⟨_, rfl⟩⟩, fun M' e => ?_, fun i d e => S.val i d (other e fun _ z => nomatch z), fun i d e => ?_, fun i j x y q h1 h2 => S.dis i j x y q (other h1 fun _ z => nomatch z) (other h2 fun _ z => nomatch z)⟩
  · by_cases z : a = p
    · subst z
      rw [hp] at e
      cases e
      exact .inr (.inr ⟨n, o, rfl, upd_same, fun xs z => mu xs z⟩)
    · rw [upd_ne z]; exact S.gh a w e
  · rw [upd_ne (fun z => by subst z; have b2' : B.2 a = none := b2; rw [b2'] at e; cases e)]; exact S.h0 a w e
  · rw [upd_ne (fun z => by subst z; have b3' : B.3 a = none := b3; rw [b3'] at e; cases e)]; exact S.lk a w e
  · have eM : M' = M.set n d' := by
      unfold stoOf setSto at e
      rw [List.getLast?_eq_getElem?, List.length_set, List.getElem?_set_self hi] at e
      cases e
      rfl
    subst eM
    refine ⟨s1, fun m d1 e => ?_, fun q m e => by rw [List.length_set]; exact s3 q m e, s4⟩
    by_cases hm : n = m
    · subst hm
      rw [List.getElem?_set_self hn] at e
      cases e
      exact ⟨p, hp, b2, b3, hc⟩
    · rw [List.getElem?_set_ne hm] at e
      obtain ⟨q, a1, a2, a3, a4⟩ := s2 m d1 e
      have nq : q ≠ p := fun z => by rw [z, hp] at a1; cases a1; exact hm rfl
      exact ⟨q, a1, a2, a3, a4.same (Same.refl G) fun u z => by rw [upd_ne nq]; exact z⟩
  · obtain ⟨q, a1, a2, a3, a4⟩ := S.own i d (other e fun _ z => nomatch z)
    have nq : q ≠ p := fun z => by rw [z, hp] at a3; cases a3
    exact ⟨q, a1, a2, a3, a4.same (Same.refl G) fun u z => by rw [upd_ne nq]; exact z⟩
/-- what stands at n of the store -/
theorem StR.stoAt {T : Stt} {B : Bse} {G H : Hp} {σ : St} {env : Ev} {M : List D} {n : Nat} {d : D} {v : V} (S : StR T B G H σ env) (hM : stoOf env = some M) (hd : M[n]? = some d) (r : VRel T G v (.ptr n)) : ∃ p, v = .ref p ∧ G p = some (.own n) ∧ MRel T G H p d := by
  obtain ⟨s1, s2, s3, s4⟩ := S.sto M hM
  cases r with
  | ptr h =>
    obtain ⟨q, a1, a2, a3, a4⟩ := s2 n d hd
    obtain rfl := s4 _ _ n h a1
    exact ⟨_, rfl, a1, a4⟩
def sixM (M : List D) (n : Nat) (k : Int) (d : D) (env : Ev) : Option Ev := match M[n]? with
  | some (.lst xs) => if 0 ≤ k ∧ k < xs.length then some (setSto env (M.set n (.lst (xs.set k.toNat d)))) else none
  | _ => none
def sixE (i : Nat) (k : Int) (d : D) (env : Ev) : Option Ev := match env[i]?, stoOf env with
  | some (.val (.ptr n)), some M => sixM M n k d env
  | _, _ => none
theorem VRels.set {T : Stt} {G : Hp} {v : V} {d : D} (r : VRel T G v d) : ∀ {vs : List V} {ds : List D} (i : Nat), VRels T G vs ds → VRels T G (vs.set i v) (ds.set i d)
  | _, _, _, .nil => .nil
  | _, _, 0, .cons _ t => .cons r t
  | _, _, i + 1, .cons q t => .cons q (VRels.set r i t)
mutual
def bindT : Tgt → D → Ev → Option Ev
  | .nm i, d, env => some (put1 env i (.val d))
  | .six i k, d, env => sixE i k d env
  | .tp ts, .tup ds, env => bindTs ts ds env
  | .tp _, _, _ => none
def bindTs : List Tgt → List D → Ev → Option Ev
  | [], [], env => some env
  | t :: ts, d :: ds, env => (bindT t d env).bind fun e => bindTs ts ds e
  | _, _, _ => none
end
theorem bindTs_len : ∀ {ts : List Tgt} {ds : List D} {env e : Ev}, bindTs ts ds env = some e → ts.length = ds.length
  | [], [], _, _, _ => rfl
  | t :: ts, d :: ds, env, e, h => by
    rw [bindTs] at h
    cases q : bindT t d env with
    | none => rw [q] at h; cases h
    | some e1 =>
      rw [q] at h
      simp [bindTs_len (ts := ts) (ds := ds) h]
  | [], _ :: _, _, _, h => by simp [bindTs] at h
  | _ :: _, [], _, _, h => by simp [bindTs] at h
mutual
def Tgt.slots : Tgt → List Nat
  | .nm i => [i]
  | .six _ _ => []
  | .tp ts => slotsAll ts
def slotsAll : List Tgt → List Nat
  | [] => []
  | t :: ts => t.slots ++ slotsAll ts
end
/-- the slots but those of vs are as they were -/
def Agr (vs : List Nat) (σ σ' : St) : Prop := σ'.length = σ.length ∧ ∀ j, j ∉ vs → σ'[j]? = σ[j]?
theorem Agr.trans {vs ws : List Nat} {σ σ1 σ2 : St} (a : Agr vs σ σ1) (b : Agr ws σ1 σ2) : Agr (vs ++ ws) σ σ2 :=
  ⟨b.1.trans a.1, fun j h => (b.2 j fun z => h (List.mem_append_right _ z)).trans (a.2 j fun z => h (List.mem_append_left _ z))⟩
def gT (T : Stt) (B : Bse) (tg : Tgt) : TG := fun v σ H Q => ∃ G env d e', StR T B G H σ env ∧ VRel T G v d ∧ bindT tg d env = some e' ∧ ∀ σ' H', StR T B G H' σ' e' → Agr tg.slots σ σ' → Q σ' H'
def gTs (T : Stt) (B : Bse) (ts : List Tgt) : TGs := fun vs σ H Q => ∃ G env ds e', StR T B G H σ env ∧ VRels T G vs ds ∧ bindTs ts ds env = some e' ∧ ∀ σ' H', StR T B G H' σ' e' → Agr (slotsAll ts) σ σ' → Q σ' H'
structure DG (X : Cx) (e : Expr) (tg : Tgt) : Prop where
  run : ∀ (B : Bse), PG X e (gT ⟨X.K, X.mg⟩ B tg)
structure DGs (X : Cx) (es : List Expr) (ts : List Tgt) : Prop where
  run : ∀ (B : Bse), PGs X es (gTs ⟨X.K, X.mg⟩ B ts)
theorem _root_.L2.PG.imp {X : Cx} {e : Expr} {t t' : TG} (h : PG X e t) (w : ∀ v σ H Q, t' v σ H Q → t v σ H Q) : PG X e t' := ⟨fun pins s σ H v u Q I r q => h.run pins s σ H v u Q I r (w v σ H Q q)⟩
theorem _root_.L2.PGs.imp {X : Cx} {e : List Expr} {t t' : TGs} (h : PGs X e t) (w : ∀ v σ H Q, t' v σ H Q → t v σ H Q) : PGs X e t' := ⟨fun pins s σ H v u Q I r q => h.run pins s σ H v u Q I r (w v σ H Q q)⟩
section
variable {X : Cx} {pos : Pos}
theorem dg_nm (i : Nat) {x : Str} (hN : X.N.Nodup) (hi : X.N[i]? = some x := by rfl) (hx : Loc X.env.scope x := by first | exact Or.inl rfl | exact Or.inr rfl) (hf : X.fn x = true ∨ X.env.scope.names.lookup x = some .local := by first | exact .inl rfl | exact .inr rfl | assumption) : DG X (.Name x pos) (.nm i) :=
  ⟨fun B => (pg_name hN hi hx hf).imp fun v σ H Q ⟨G, env, d, e', S, r, hb, k⟩ => by
    rw [bindT] at hb
    cases hb
    refine k _ _ (S.set r i) ⟨by rw [List.length_set], fun j hj => ?_⟩
    have hj' : i ≠ j := fun z => hj (by rw [Tgt.slots, z]; exact List.mem_singleton.mpr rfl)
    rw [List.getElem?_set_ne hj']⟩
theorem dg_six (i : Nat) (k : Int) {x : Str} {ix : Expr} {px : Pos} (hk : PE X ix (tC (.int k))) (hN : X.N[i]? = some x := by rfl) (hv : Vis X.env.scope x := by first | exact Or.inl rfl | exact Or.inr (Or.inl rfl) | exact Or.inr (Or.inr rfl)) (hd : (x == ("__debug__" : Str)) = false := by decide)
    (hcd : (x == ("__classdict__" : Str)) = false := by decide)
    (ha : ∀ v, assign (.Subscript (.Name x px) ix pos) X.env v = (do
      let ov ← holding [v] (eval (.Name x px) X.env)
      let iv ← holding [v, ov] (eval ix X.env)
      standAt pos
      holding [v, ov, iv] (setItem ov iv v)
      release [v, ov, iv] []) := by intro _; rfl) : DG X (.Subscript (.Name x px) ix pos) (.six i k) := by
  refine ⟨fun B => (pg_sub (pe_var hN hv hd hcd) hk set_list ha).imp fun v σ H Q ⟨G, env, d, e', S, r, hb, kk⟩ => ?_⟩
  rw [bindT] at hb
  unfold sixE at hb
  cases h1 : env[i]? with
  | none => simp [h1] at hb
  | some sl =>
    cases sl with
    | val x0 =>
      cases x0 with
      | ptr n =>
        cases h2 : stoOf env with
        | none => simp [h1, h2] at hb
        | some M =>
          simp only [h1, h2] at hb
          unfold sixM at hb
          cases h3 : M[n]? with
          | none => rw [h3] at hb; cases hb
          | some dd =>
            rw [h3] at hb
            cases dd with
            | lst xs =>
              dsimp only at hb
              split at hb
              · rename_i hk
                cases hb
                obtain ⟨v0, a1, a2⟩ := S.val i _ h1
                obtain ⟨p, rfl, hp, hc⟩ := S.stoAt h2 h3 a2
                rcases hc with hc | ⟨c, ks, xs, C, dx, kvs, z, _⟩ | ⟨q, z, _⟩
                · obtain ⟨vs, hh, rr⟩ := hc
                  refine ⟨_, a1, p, vs, k, k.toNat, rfl, rfl, hh, ?_, ?_⟩
                  · unfold ixN
                    rw [rr.length, if_pos hk.1, if_pos hk.2]
                  · exact kk σ _ (S.updP h2 hp (.inl ⟨_, upd_same, rr.set r _⟩)) ⟨rfl, fun _ _ => rfl⟩
                · cases z
                · cases z
              · cases hb
            | _ => simp at hb
      | _ => simp [h1] at hb
    | _ => simp [h1] at hb
theorem dgs_nil : DGs X [] [] := ⟨fun B => pgs_nil.imp fun v σ H Q ⟨G, env, ds, e', S, r, hb, k⟩ => by
  cases r with
  | nil => rw [bindTs] at hb; cases hb; exact ⟨rfl, k σ _ S ⟨rfl, fun _ _ => rfl⟩⟩
  | cons _ _ => simp [bindTs] at hb⟩
theorem dgs_cons {e : Expr} {es : List Expr} {t : Tgt} {ts : List Tgt} (h1 : DG X e t) (h2 : DGs X es ts) (hs : (assignEach (e :: es) X.env).map (·.2) = assign e X.env :: (assignEach es X.env).map (·.2) := by rfl) : DGs X (e :: es) (t :: ts) :=
  ⟨fun B => (pgs_cons (h1.run B) (h2.run B) hs).imp fun v σ H Q ⟨G, env, ds, e', S, r, hb, k⟩ => by
    cases r with
    | nil => simp [bindTs] at hb
    | @cons v1 vr d1 dr r1 rs =>
      rw [bindTs] at hb
      cases q : bindT t d1 env with
      | none => rw [q] at hb; cases hb
      | some e1 =>
        rw [q] at hb
        exact ⟨_, _, rfl, G, env, d1, e1, S, r1, q, fun σ1 H1 S1 a1 => ⟨G, e1, dr, e', S1, rs, hb, fun σ2 H2 S2 a2 => k σ2 H2 S2 (by rw [slotsAll]; exact a1.trans a2)⟩⟩⟩
theorem dg_tp {es : List Expr} {ts : List Tgt} {k n : Nat} (hc : X.calm = true) (h : DGs X es ts) (hl : ts.length = n := by rfl) (hn : (assignEach es X.env).length = n := by rfl) (hst : (assignEach es X.env).findIdx? (·.1) = none := by rfl) : DG X (.Tuple es k pos) (.tp ts) :=
  ⟨fun B => (pg_tup hc (h.run B) hn hst).imp fun v σ H Q ⟨G, env, d, e', S, r, hb, kk⟩ => by
    cases d with
    | tup ds =>
      rw [bindT] at hb
      cases r with
      | tup hh rr => exact ⟨_, _, rfl, hh.sq S.gh, by rw [rr.length, ← bindTs_len hb, hl], G, env, ds, e', S, rr, hb, fun σ' H' S' a => kk σ' H' S' (by rw [Tgt.slots]; exact a)⟩
    | _ => simp [bindT] at hb⟩
def S.asg (tg : Tgt) (f : FE) : FS := fun env => (f env).toS fun a e => match frz e a with
  | some (d, e2) => match bindT tg d e2 with
    | some e3 => .nx e3
    | none => .stk
  | none => .stk
theorem ds_asg {tg : Tgt} {t e : Expr} {f : FE} (he : DE X e f) (hg : DG X t tg) (hs : swapsWithSole [t] e pos.line X.env = pure false := by rfl) (hw : swappedStores [t] e X.env = pure none := by rfl)
    (h1 : (assignEach [t] X.env).map (·.2) = [assign t X.env] := by rfl) : DS X (.Assign [t] e pos) (S.asg tg f) := by
  refine ⟨fun B W tk ps => (ps_asg (he.run B W tk) (hg.run B) hs hw h1).imp fun De σ H q => ?_⟩
  obtain ⟨G, env, Sr, q⟩ := q
  refine ⟨G, env, Sr, oS_toS q fun a e' G' H' S' l k v r => ?_⟩
  cases qf : frz e' a with
  | none => simp [qf, oS] at k
  | some p =>
    obtain ⟨d, e2⟩ := p
    simp only [qf] at k
    obtain ⟨G2, S2, l2, rv⟩ := S'.frz r qf
    cases qb : bindT tg d e2 with
    | none => simp [qb, oS] at k
    | some e3 =>
      simp only [qb] at k
      exact ⟨G2, e2, d, e3, S2, rv, qb, fun σ' H3 S3 _ => k σ' G2 H3 S3 l2⟩
end

/-! ### loops -/
/-- B' has B's entry and more locks -/
structure BExt (B B' : Bse) : Prop where
  g : B'.1 = B.1
  h : B'.2 = B.2
  lk : Same B.3 B'.3
  pu : B'.4 = B.4
theorem BExt.refl (B : Bse) : BExt B B := ⟨rfl, rfl, Same.refl _, rfl⟩
theorem StR.back {T : Stt} {B B' : Bse} {G H : Hp} {σ : St} {env : Ev} (S : StR T B' G H σ env) (b : BExt B B') : StR T B G H σ env := S.weak b.g b.h b.lk b.pu
theorem oS.fwd {T : Stt} {B B' : Bse} {W : WX} {De : Ends} {G : Hp} {o : SO} (h : oS T B W De G o) (b : BExt B B') : oS T B' W De G o := by
  cases o with
  | nx e' => exact fun σ' G' H' S l => h σ' G' H' (S.back b) l
  | rt d e' => exact fun v σ' G' H' S l => h v σ' G' H' (S.back b) l
  | bk e' => exact fun σ' G' H' S l => h σ' G' H' (S.back b) l
  | ct e' => exact fun σ' G' H' S l => h σ' G' H' (S.back b) l
  | exc x e' => exact fun c d σ' G' H' S l => h c d σ' G' H' (S.back b) l
  | stk => exact h
theorem oE.fwd {α : Type} {T : Stt} {B B' : Bse} {W : WX} {σ : St} {G : Hp} {o : Out α} {R : α → Ev → Hp → Hp → Prop} (h : oE T B W σ G o R) (b : BExt B B') : oE T B' W σ G o R := by
  cases o with
  | ok a e' => exact fun G' H' S l => h G' H' (S.back b) l
  | exc x e' => exact fun c d G' H' S l => h c d G' H' (S.back b) l
  | stk => exact h
/-- J walks ds, which stand in G1, while the locks L hold -/
structure DWalk (T : Stt) (J : It) (G1 L : Hp) (ds : List D) : Prop where
  goes : ∀ i H, i < ds.length → Le G1 H → Same L H → J.go i H
  stops : ∀ H, Le G1 H → Same L H → J.stop ds.length H
  yields : ∀ i H x H', i < ds.length → Le G1 H → Same L H → J.yld i H x H' → ∃ d, ds[i]? = some d ∧ ∀ G, Same G1 G → Le G H → ∃ G', Same G G' ∧ Le G' H' ∧ Same H H' ∧ Adds G H G' ∧ VRel T G' x d
abbrev FI := Ev → Out (List D)
def tIt (T : Stt) (B : Bse) (W : WX) (f : FI) : TI := fun σ H R => ∃ G env, StR T B G H σ env ∧ oE T B W σ G (f env) fun ds e' G' H' => ∀ J H2 B', BExt B B' → StR T B' G' H2 σ e' → DWalk T J G' B'.3 ds → R J H2
structure DI (X : Cx) (tg iter : Expr) (f : FI) : Prop where
  run : ∀ (B : Bse) (W : WX), Takes X W → PI X tg iter (tIt ⟨X.K, X.mg⟩ B W f)
def loopS (tg : Tgt) (body : FS) : List D → Ev → SO
  | [], e => .nx e
  | d :: ds, e => match bindT tg d e with
    | none => .stk
    | some e1 => match body e1 with
      | .nx e2 => loopS tg body ds e2
      | .ct e2 => loopS tg body ds e2
      | .bk e2 => .nx e2
      | o => o
def S.for_ (it : FI) (tg : Tgt) (body : FS) : FS := fun env => (it env).toS fun ds e => loopS tg body ds e
theorem StR.turn {T : Stt} {B : Bse} {G H G' H' : Hp} {σ : St} {env : Ev} (S : StR T B G H σ env) (g : Same G G') (gh : Le G' H') (h : Same H H') (ad : Adds G H G') : StR T B G' H' σ env := S.ext g gh h ad
section
variable {X : Cx} {pos : Pos}
theorem pss_any {ι : Type} {sts : List Stmt} {t : ι → TS} (h : ∀ i, PSs X sts (t i)) : PSs X sts (fun De σ H => ∃ i, t i De σ H) := ⟨fun pins s σ H De I q => let ⟨i, q⟩ := q; (h i).run pins s σ H De I q⟩
theorem pg_any {ι : Type} {e : Expr} {t : ι → TG} (h : ∀ i, PG X e (t i)) : PG X e (fun v σ H Q => ∃ i, t i v σ H Q) := ⟨fun pins s σ H v u Q I r q => let ⟨i, q⟩ := q; (h i).run pins s σ H v u Q I r q⟩
theorem pt_any {ι : Type} {e : Expr} {t : ι → TT} (h : ∀ i, PT X e (t i)) : PT X e (fun σ H Q => ∃ i, t i σ H Q) := ⟨fun pins s σ H Q I q => let ⟨i, q⟩ := q; (h i).run pins s σ H Q I q⟩
theorem pe_any {ι : Type} {e : Expr} {t : ι → TE} (h : ∀ i, PE X e (t i)) : PE X e (fun σ H Q => ∃ i, t i σ H Q) := ⟨fun pins s σ H Q I q => let ⟨i, q⟩ := q; (h i).run pins s σ H Q I q⟩
theorem ds_for {tg iter : Expr} {body : List Stmt} {it : FI} {t : Tgt} {f : FS} (hc : X.calm = true) (hi : DI X tg iter it) (hg : DG X tg t) (hb : DSs X body f) (mk : ∀ {wi : TI} {g : TG} {tb : TS}, Psn X → PI X tg iter wi → PG X tg g → PSs X body tb → PS X (.For tg iter body [] pos) (tFor wi g tb) := by intro wi g tb hp h1 h2 h3; exact ps_for hp rfl h1 h2 h3) :
    DS X (.For tg iter body [] pos) (S.for_ it t f) := by
  refine ⟨fun B W tk ps => (mk ps (hi.run B W tk) (pg_any fun B => hg.run B) (pss_any fun B => hb.run B W tk ps)).imp fun De σ H q => ?_⟩
  obtain ⟨G, env, Sr, q⟩ := q
  refine ⟨G, env, Sr, oS_toS q fun ds e' G1 H0 S0 l1 k J H1 B' bx S1 w => ?_⟩
  refine ⟨fun i m σ H => m = ds.length - i ∧ i ≤ ds.length ∧ ∃ G e, StR ⟨X.K, X.mg⟩ B' G H σ e ∧ Same G1 G ∧ oS ⟨X.K, X.mg⟩ B' W De G (loopS t f (ds.drop i) e), ⟨ds.length, by simp, Nat.zero_le _, G1, e', S1, Same.refl G1, by simpa using k.fwd bx⟩, ?_⟩
  rintro i m σ H ⟨rfl, hi, G, e, S, g, h⟩
  have l : Le G1 H := Le.of_same g S.gh
  by_cases hlt : i < ds.length
  · refine .inr ⟨w.goes i H hlt l (fun a u e => (S.lk a u e).1), fun σ' H' => ∃ G e, StR ⟨X.K, X.mg⟩ B' G H' σ' e ∧ Same G1 G ∧ oS ⟨X.K, X.mg⟩ B' W De G (loopS t f (ds.drop (i + 1)) e), fun σ' H' z => ⟨ds.length - (i + 1), by omega, rfl, hlt, z⟩, fun x H' y => ?_⟩
    obtain ⟨d, hd, yy⟩ := w.yields i H x H' hlt l (fun a u e => (S.lk a u e).1) y
    obtain ⟨G', g', gh', hh', ad', rx⟩ := yy G g S.gh
    have S' := S.turn g' gh' hh' ad'
    have hdr : ds.drop i = d :: ds.drop (i + 1) := by
      obtain ⟨h1, h2⟩ := List.getElem?_eq_some_iff.mp hd
      rw [← h2]
      exact List.drop_eq_getElem_cons h1
    rw [hdr, loopS] at h
    cases qb : bindT t d e with
    | none => simp [qb, oS] at h
    | some e1 =>
      simp only [qb] at h
      refine ⟨B', G', e, d, e1, S', rx, qb, fun σ2 H2 S2 _ => ⟨B', G', e1, S2, ?_⟩⟩
      cases qf : f e1 with
      | nx e2 =>
        simp only [qf] at h
        exact fun σ' G3 H3 S3 l3 => ⟨G3, e2, S3, (g.trans g').trans l3, (h.mono g').mono l3⟩
      | ct e2 =>
        simp only [qf] at h
        exact fun σ' G3 H3 S3 l3 => ⟨G3, e2, S3, (g.trans g').trans l3, (h.mono g').mono l3⟩
      | bk e2 =>
        simp only [qf] at h
        exact fun σ' G3 H3 S3 l3 => h σ' G3 H3 S3 (g'.trans l3)
      | rt d2 e2 =>
        simp only [qf] at h
        exact fun v σ' G3 H3 S3 l3 rv => h v σ' G3 H3 S3 (g'.trans l3) rv
      | exc x2 e2 =>
        simp only [qf] at h
        exact fun c d3 σ' G3 H3 S3 l3 rv => h c d3 σ' G3 H3 S3 (g'.trans l3) rv
      | stk => simp [qf, oS] at h
  · have e0 : i = ds.length := by omega
    subst e0
    rw [List.drop_length, loopS] at h
    exact .inl ⟨w.stops H l (fun a u e => (S.lk a u e).1), h σ G H S (Same.refl G)⟩
def whileS (t : FB) (body : FS) : Nat → Ev → SO
  | 0, _ => .stk
  | n + 1, e => (t e).toS fun b e1 => if b = true then match body e1 with
      | .nx e2 => whileS t body n e2
      | .ct e2 => whileS t body n e2
      | .bk e2 => .nx e2
      | o => o
    else .nx e1
def S.whl (n : Nat) (t : FB) (body : FS) : FS := fun env => whileS t body n env
theorem ds_whl (n : Nat) {c : Expr} {body : List Stmt} {t : FB} {f : FS} (hc : DT X c t) (hb : DSs X body f) : DS X (.While c body [] pos) (S.whl n t f) := by
  refine ⟨fun B W tk ps => (ps_while ps (hc.run B W tk) (hb.run B W tk ps)).imp fun De σ H q => ?_⟩
  obtain ⟨G, env, Sr, q⟩ := q
  refine ⟨fun m σ H => ∃ G e, StR ⟨X.K, X.mg⟩ B G H σ e ∧ oS ⟨X.K, X.mg⟩ B W De G (whileS t f m e), ⟨n, G, env, Sr, q⟩, ?_⟩
  rintro m σ H ⟨G, e, S, h⟩
  cases m with
  | zero => exact (show False from h).elim
  | succ m =>
    rw [whileS] at h
    refine ⟨G, e, S, oS_toS h fun b e1 G1 H1 S1 l1 k => ?_⟩
    cases b with
    | false => exact iteF (k σ G1 H1 S1 (Same.refl G1))
    | true =>
      refine iteT ⟨fun σ' H' => ∃ G e, StR ⟨X.K, X.mg⟩ B G H' σ' e ∧ oS ⟨X.K, X.mg⟩ B W De G (whileS t f m e), fun σ' H' z => ⟨m, Nat.lt_succ_self m, z⟩, G1, e1, S1, ?_⟩
      rw [if_pos rfl] at k
      cases qf : f e1 with
      | nx e2 =>
        simp only [qf] at k
        exact fun σ' G3 H3 S3 l3 => ⟨G3, e2, S3, k.mono l3⟩
      | ct e2 =>
        simp only [qf] at k
        exact fun σ' G3 H3 S3 l3 => ⟨G3, e2, S3, k.mono l3⟩
      | bk e2 =>
        simp only [qf] at k
        exact fun σ' G3 H3 S3 l3 => k σ' G3 H3 S3 l3
      | rt d2 e2 =>
        simp only [qf] at k
        exact fun v σ' G3 H3 S3 l3 rv => k v σ' G3 H3 S3 l3 rv
      | exc x2 e2 =>
        simp only [qf] at k
        exact fun c d3 σ' G3 H3 S3 l3 rv => k c d3 σ' G3 H3 S3 l3 rv
      | stk => simp [qf, oS] at k
end
end DL
-- DL6
set_option maxRecDepth 100000
set_option maxHeartbeats 4000000
/-! DL6: what loops walk; comprehensions; changes of own containers; defs. -/
namespace DL
open PySem PySem.Spec PyProof.Rows L2

/-! ### values walked -/
section
variable {X : Cx} {pins : List (Addr × Obj)} {σ : St} {H : Hp} {s : Shared} {tg : Expr} {R : It → Hp → Prop} {E : Value → Shared → Prop}
theorem pie_list {a : Addr} {xs : List V} (I : Inv X pins σ H s) (hq : SqL X.K H a xs) (q : R (Itl X.K a) H) : wpAny (model X.prog X.w) X.A (pyIter (.ref a)) (PIE X pins σ tg R) E s := by
  obtain ⟨its, rv, p, hz⟩ := I.list hq
  refine wpAny_pyIter_list p.isList ?_
  refine ⟨s.heap.objs.size, [s.heap.objs.size], _, _, H, rfl, I.kept (t' := s.toks) fun b o e => Heap.get?_push_of_some _ e, turn_list a _, ⟨_, Heap.get?_push_size _ rfl, rfl, rfl⟩, fun b hb => ?_, q⟩
  have e : b = s.heap.objs.size := by simpa using hb
  subst e
  exact I.fpOk (Nat.le_refl _) (I.hok.fresh (Nat.le_refl _))
theorem pie_tup {a : Addr} {xs : List V} (I : Inv X pins σ H s) (hq : SqT X.K H a xs) (q : R (Itt X.K a) H) : wpAny (model X.prog X.w) X.A (pyIter (.ref a)) (PIE X pins σ tg R) E s := by
  obtain ⟨its, rv, p, hz⟩ := I.tuple hq
  refine wpAny_pyIter_tuple (show s.heap.IsTuple a its.toArray from p) ?_
  refine ⟨s.heap.objs.size, [s.heap.objs.size], _, _, H, rfl, I.kept (t' := s.toks) fun b o e => Heap.get?_push_of_some _ e, turn_tuple a _, ⟨_, Heap.get?_push_size _ rfl, rfl, rfl⟩, fun b hb => ?_, q⟩
  have e : b = s.heap.objs.size := by simpa using hb
  subst e
  exact I.fpOk (Nat.le_refl _) (I.hok.fresh (Nat.le_refl _))
theorem pie_keysT {d : Addr} {o : Obj} {kvs : List (List Key × V)} (I : Inv X pins σ H s) (hd : H d = some (.frz o (.dT kvs))) (q : R (Itkt d o kvs) H) : wpAny (model X.prog X.w) X.A (pyIter (.ref d)) (PIE X pins σ tg R) E s := by
  obtain ⟨hs, hgd, hx, es, ep, hdt, hsz, ent⟩ := I.frzT hd
  refine iter_keys hs hgd hx hdt (pi_one (tk := s.toks) I _ (turn_keysT _ hdt) ⟨_, Heap.get?_push_size _ rfl, rfl, ?_⟩ q)
  rw [hsz] <;> rfl
theorem pie_keysK {d : Addr} {o : Obj} {kvs : List (Key × V)} (I : Inv X pins σ H s) (hd : H d = some (.frz o (.dK kvs))) (q : R (Itk d o kvs) H) : wpAny (model X.prog X.w) X.A (pyIter (.ref d)) (PIE X pins σ tg R) E s := by
  obtain ⟨hs, hgd, hx, es, ep, vs, hdt, hsz, kv, hm⟩ := I.frzK hd
  refine iter_keys hs hgd hx hdt (pi_one (tk := s.toks) I _ (turn_keys _ hdt) ⟨_, Heap.get?_push_size _ rfl, rfl, ?_⟩ q)
  rw [hsz] <;> rfl
end
def keyKD : Key → D
  | .inl i => .int i
  | .inr x => .str x
def keyTD (k : List Key) : D := .tup (k.map keyKD)
def itemsD : D → Option (List D)
  | .lst xs => some xs
  | .tup xs => some xs
  | .dcT ks _ => some (ks.map keyTD)
  | .dcK ks _ => some (ks.map keyKD)
  | _ => none
theorem keyKD_rel {T : Stt} {G : Hp} : ∀ k : Key, VRel T G (kV k) (keyKD k)
  | .inl i => .int i
  | .inr x => .str x
theorem keysKD_rel {T : Stt} {G : Hp} : ∀ ks : List Key, VRels T G (ks.map kV) (ks.map keyKD)
  | [] => .nil
  | k :: ks => .cons (keyKD_rel k) (keysKD_rel ks)
/-- the walk of a list, a tuple -/
theorem dw_list {T : Stt} {G1 L : Hp} {a : Addr} {vs : List V} {ds : List D} (h : G1 a = some (.lst vs)) (r : VRels T G1 vs ds) : DWalk T (Itl T.K a) G1 L ds where
  goes := fun i H hi l _ => ⟨vs, vs[i]'(by rw [r.length]; exact hi), SqL.of (l.nd h True.intro), by simp⟩
  stops := fun H l _ => ⟨vs, SqL.of (l.nd h True.intro), by rw [r.length]; exact Nat.le_refl _⟩
  yields := fun i H x H' hi l _ y => by
    obtain ⟨e, y⟩ := y
    subst e
    obtain ⟨d, hd, rd⟩ := r.get (y vs (SqL.of (l.nd h True.intro)))
    exact ⟨d, hd, fun G g gh => ⟨G, Same.refl G, gh, Same.refl _, fun a u e => .inl e, rd.same g⟩⟩
theorem dw_tup {T : Stt} {G1 L : Hp} {a : Addr} {vs : List V} {ds : List D} (h : TupG T.K G1 a vs) (r : VRels T G1 vs ds) : DWalk T (Itt T.K a) G1 L ds where
  goes := fun i H hi l _ => ⟨vs, vs[i]'(by rw [r.length]; exact hi), h.sq l, by simp⟩
  stops := fun H l _ => ⟨vs, h.sq l, by rw [r.length]; exact Nat.le_refl _⟩
  yields := fun i H x H' hi l _ y => by
    obtain ⟨e, y⟩ := y
    subst e
    obtain ⟨d, hd, rd⟩ := r.get (y vs (h.sq l))
    exact ⟨d, hd, fun G g gh => ⟨G, Same.refl G, gh, Same.refl _, fun a u e => .inl e, rd.same g⟩⟩
theorem dw_keysK {T : Stt} {G1 L : Hp} {d : Addr} {o : Obj} {kvs : List (Key × V)} (h : L d = some (.frz o (.dK kvs))) : DWalk T (Itk d o kvs) G1 L ((kvs.map (·.1)).map keyKD) where
  goes := fun i H hi _ l => ⟨l d _ h, by simpa using hi⟩
  stops := fun H _ l => ⟨l d _ h, by simp⟩
  yields := fun i H x H' hi _ l y => by
    obtain ⟨e, k, v, hk, e2⟩ := y
    subst e e2
    exact ⟨keyKD k, by simp [hk], fun G g gh => ⟨G, Same.refl G, gh, Same.refl _, fun a u e => .inl e, keyKD_rel k⟩⟩
theorem le_add {G H : Hp} (l : Le G H) {q : Addr} {xs : List V} (h : H q = some (.tup xs)) : Same G (upd G q (.tup xs)) ∧ Le (upd G q (.tup xs)) H ∧ Adds G H (upd G q (.tup xs)) := by
  refine ⟨fun a u e => ?_, fun a u e => ?_, fun a u e => ?_⟩
  · by_cases z : a = q
    · subst z
      rw [upd_same]
      rcases l a u e with y | ⟨_, ob, y⟩ | ⟨n, w, m, y, nt⟩
      · rw [h] at y; exact y
      · rw [h] at y; cases y
      · rw [h] at y; cases y; exact (nt _ rfl).elim
    · rw [upd_ne z]; exact e
  · by_cases z : a = q
    · subst z; rw [upd_same] at e; cases e; exact .inl h
    · rw [upd_ne z] at e; exact l a u e
  · by_cases z : a = q
    · subst z; rw [upd_same] at e; cases e; exact .inr (.inr ⟨xs, rfl⟩)
    · rw [upd_ne z] at e; exact .inl e
theorem dw_keysT {T : Stt} {G1 L : Hp} {d : Addr} {o : Obj} {kvs : List (List Key × V)} (h : L d = some (.frz o (.dT kvs))) : DWalk T (Itkt d o kvs) G1 L ((kvs.map (·.1)).map keyTD) where
  goes := fun i H hi _ l => ⟨l d _ h, by simpa using hi⟩
  stops := fun H _ l => ⟨l d _ h, by simp⟩
  yields := fun i H x H' hi _ l y => by
    obtain ⟨e, k, v, q, hk, e2, hq⟩ := y
    subst e e2
    refine ⟨keyTD k, by simp [hk], fun G g gh => ?_⟩
    obtain ⟨g1, g2, g3⟩ := le_add gh hq
    exact ⟨_, g1, g2, Same.refl _, g3, .tup (.inl upd_same) (keysKD_rel k)⟩
theorem StoR.ch {T : Stt} {B B' : Bse} {G H H' : Hp} {M : List D} (S : StoR T B G H M) (hp : B'.4 = B.4) (h : ∀ p n u, G p = some (.own n) → H p = some u → H' p = some u) (hb : ∀ p n, G p = some (.own n) → B.2 p = none → B'.2 p = none) (hl : ∀ p n, G p = some (.own n) → B.3 p = none → B'.3 p = none) : StoR T B' G H' M := by
  obtain ⟨s1, s2, s3, s4⟩ := S
  refine ⟨hp.trans s1, fun n d e => ?_, s3, s4⟩
  obtain ⟨p, a1, a2, a3, a4⟩ := s2 n d e
  exact ⟨p, a1, hb p n a1 a2, hl p n a1 a3, a4.same (Same.refl G) fun u q => h p n u a1 q⟩
/-- a dict is locked -/
theorem StR.lock {T : Stt} {B : Bse} {G H : Hp} {σ : St} {env : Ev} {d : Addr} {u : HO} (S : StR T B G H σ env) (hg : G d = some u) (hd : Dic u) (hh : H d = some u) (o : Obj) :
    BExt B ⟨B.1, B.2, upd B.3 d (.frz o u), B.4⟩ ∧ StR T ⟨B.1, B.2, upd B.3 d (.frz o u), B.4⟩ G (upd H d (.frz o u)) σ env := by
  have b3 : ∀ a w, B.3 a = some w → a ≠ d := fun a w e z => by
    subst z
    obtain ⟨x1, _, x2⟩ := S.lk a w e
    rw [hh] at x1
    cases x1
    rcases x2 with ⟨o2, w2, x2⟩ | x2
    · subst x2; exact hd
    · rw [hg] at x2; cases x2.1
  refine ⟨⟨rfl, rfl, fun a w e => by show upd B.3 d _ a = _; rw [upd_ne (b3 a w e)]; exact e, rfl⟩, ⟨fun a w e => ?_, S.g0, fun a w e => ?_, fun a w e => ?_, S.add, S.len, S.top, fun M e => (S.sto M e).ch rfl (fun p n w q hw => by rw [upd_ne (fun z => by rw [z, hg] at q; cases q; exact hd)]; exact hw) (fun _ _ _ z => z) (fun p n q z => by
    show upd B.3 d _ p = none
    rw [upd_ne (fun z => by rw [z, hg] at q; cases q; exact hd)]; exact z), S.val, fun i x e => ?_, S.dis⟩⟩
  · by_cases z : a = d
    · subst z; rw [hg] at e; cases e; exact .inr (.inl ⟨hd, o, upd_same⟩)
    · rw [upd_ne z]; exact S.gh a w e
  · by_cases z : a = d
    · subst z
      rcases S.h0 a w e with y | ⟨y, ob, y2⟩
      · rw [hh] at y; cases y; exact .inr ⟨hd, o, upd_same⟩
      · rw [hh] at y2; cases y2; exact hd.elim
    · rw [upd_ne z]; exact S.h0 a w e
  · have e' : upd B.3 d (.frz o u) a = some w := e
    by_cases z : a = d
    · subst z; rw [upd_same] at e'; cases e'; exact ⟨upd_same, True.intro, .inl ⟨o, u, rfl⟩⟩
    · rw [upd_ne z] at e'; rw [upd_ne z]; exact S.lk a w e'
  · obtain ⟨p, a1, a2, a3, a4⟩ := S.own i x e
    have np : p ≠ d := fun z => by rw [z, hg] at a3; cases a3
    exact ⟨p, a1, ⟨a2.1, by show upd B.3 d _ p = none; rw [upd_ne np]; exact a2.2⟩, a3, a4.same (Same.refl G) fun w q => by rw [upd_ne np]; exact q⟩
/-- a dict that is locked already -/
theorem StR.lock2 {T : Stt} {B : Bse} {G H : Hp} {σ : St} {env : Ev} {d : Addr} {u : HO} {o : Obj} (S : StR T B G H σ env) (hh : H d = some (.frz o u)) (hg : G d = some u) (hd : Dic u) :
    BExt B ⟨B.1, B.2, upd B.3 d (.frz o u), B.4⟩ ∧ StR T ⟨B.1, B.2, upd B.3 d (.frz o u), B.4⟩ G H σ env := by
  refine ⟨⟨rfl, rfl, fun a w e => ?_, rfl⟩, ⟨S.gh, S.g0, S.h0, fun a w e => ?_, S.add, S.len, S.top, fun M e => (S.sto M e).ch rfl (fun p n w q hw => hw) (fun _ _ _ z => z) (fun p n q z => by
    show upd B.3 d _ p = none
    rw [upd_ne (fun z => by rw [z, hg] at q; cases q; exact hd)]; exact z), S.val, fun i x e => ?_, S.dis⟩⟩
  · show upd B.3 d _ a = _
    by_cases z : a = d
    · subst z
      obtain ⟨x1, _⟩ := S.lk a w e
      rw [hh] at x1; cases x1
      exact upd_same
    · rw [upd_ne z]; exact e
  · have e' : upd B.3 d (.frz o u) a = some w := e
    by_cases z : a = d
    · subst z; rw [upd_same] at e'; cases e'; exact ⟨hh, True.intro, .inl ⟨o, u, rfl⟩⟩
    · rw [upd_ne z] at e'; exact S.lk a w e'
  · obtain ⟨p, a1, a2, a3, a4⟩ := S.own i x e
    have np : p ≠ d := fun z => by rw [z, hg] at a3; cases a3
    exact ⟨p, a1, ⟨a2.1, by show upd B.3 d _ p = none; rw [upd_ne np]; exact a2.2⟩, a3, a4⟩
/-- what a walked value gives -/
def zIt (K : PySem.W.Frag) (x : V) (H : Hp) (R : It → Hp → Prop) : Prop :=
  (∃ a xs, x = .ref a ∧ SqL K H a xs ∧ R (Itl K a) H) ∨ (∃ a xs, x = .ref a ∧ SqT K H a xs ∧ R (Itt K a) H) ∨
  (∃ d kvs, x = .ref d ∧ H d = some (.dT kvs) ∧ ∀ o, R (Itkt d o kvs) (upd H d (.frz o (.dT kvs)))) ∨ (∃ d kvs o, x = .ref d ∧ H d = some (.frz o (.dT kvs)) ∧ R (Itkt d o kvs) H) ∨
  (∃ d kvs, x = .ref d ∧ H d = some (.dK kvs) ∧ ∀ o, R (Itk d o kvs) (upd H d (.frz o (.dK kvs)))) ∨ (∃ d kvs o, x = .ref d ∧ H d = some (.frz o (.dK kvs)) ∧ R (Itk d o kvs) H)
theorem pi_seq {X : Cx} {tg e : Expr} {te : TE} (he : PE X e te) : PI X tg e (fun σ H R => te σ H fun x H1 => zIt X.K x H1 R) := by
  refine ⟨fun pins s σ H R I h => ?_⟩
  refine thn (he.run pins s σ H _ I h) fun v s1 ⟨x, H1, I1, r1, q1⟩ => ?_
  rcases q1 with ⟨a, xs, rfl, hq, q⟩ | ⟨a, xs, rfl, hq, q⟩ | ⟨d, kvs, rfl, hd, q⟩ | ⟨d, kvs, o, rfl, hd, q⟩ | ⟨d, kvs, rfl, hd, q⟩ | ⟨d, kvs, o, rfl, hd, q⟩
  · obtain rfl : v = Value.ref a := r1
    exact pie_list I1 hq q
  · obtain rfl : v = Value.ref a := r1
    exact pie_tup I1 hq q
  · obtain rfl : v = Value.ref d := r1
    obtain ⟨o, I2⟩ := I1.lock hd True.intro
    exact pie_keysT I2 upd_same (q o)
  · obtain rfl : v = Value.ref d := r1
    exact pie_keysT I1 hd q
  · obtain rfl : v = Value.ref d := r1
    obtain ⟨o, I2⟩ := I1.lock hd True.intro
    exact pie_keysK I2 upd_same (q o)
  · obtain rfl : v = Value.ref d := r1
    exact pie_keysK I1 hd q
theorem zIt_of {T : Stt} {B : Bse} {G H : Hp} {σ : St} {env : Ev} {v : V} {d : D} {ds : List D} {R : It → Hp → Prop} (S : StR T B G H σ env) (r : VRel T G v d) (hi : itemsD d = some ds)
    (k : ∀ J H2 B', BExt B B' → StR T B' G H2 σ env → DWalk T J G B'.3 ds → R J H2) : zIt T.K v H R := by
  cases r with
  | lst h rs =>
    cases hi
    exact .inl ⟨_, _, rfl, SqL.of (S.gh.nd h True.intro), k _ H B (BExt.refl B) S (dw_list h rs)⟩
  | tup h rs =>
    cases hi
    exact .inr (.inl ⟨_, _, rfl, h.sq S.gh, k _ H B (BExt.refl B) S (dw_tup h rs)⟩)
  | dcT h rs =>
    cases hi
    rcases S.gh _ _ h with y | ⟨hd, o, y⟩ | ⟨_, _, z, _⟩
    rotate_left 2
    · cases z
    · refine .inr (.inr (.inl ⟨_, _, rfl, y, fun o => ?_⟩))
      obtain ⟨b, S2⟩ := S.lock h True.intro y o
      exact k _ _ _ b S2 (dw_keysT upd_same)
    · refine .inr (.inr (.inr (.inl ⟨_, _, o, rfl, y, ?_⟩)))
      obtain ⟨b, S2⟩ := S.lock2 y h hd
      exact k _ _ _ b S2 (dw_keysT upd_same)
  | dcK h rs =>
    cases hi
    rcases S.gh _ _ h with y | ⟨hd, o, y⟩ | ⟨_, _, z, _⟩
    rotate_left 2
    · cases z
    · refine .inr (.inr (.inr (.inr (.inl ⟨_, _, rfl, y, fun o => ?_⟩))))
      obtain ⟨b, S2⟩ := S.lock h True.intro y o
      exact k _ _ _ b S2 (dw_keysK upd_same)
    · refine .inr (.inr (.inr (.inr (.inr ⟨_, _, o, rfl, y, ?_⟩))))
      obtain ⟨b, S2⟩ := S.lock2 y h hd
      exact k _ _ _ b S2 (dw_keysK upd_same)
  | _ => simp [itemsD] at hi
def I.seq (f : FE) : FI := fun env => (f env).bind fun a e1 => match frz e1 a with
  | some (d, e2) => match itemsD d with
    | some xs => .ok xs e2
    | none => .stk
  | none => .stk
section
variable {X : Cx} {tg : Expr} {pos p : Pos}
theorem di_seq {e : Expr} {f : FE} (he : DE X e f) : DI X tg e (I.seq f) := by
  refine ⟨fun B W tk => ⟨fun pins s σ H R Iv h => (pi_seq (he.run B W tk)).run pins s σ H R Iv ?_⟩⟩
  obtain ⟨G, env, S, h⟩ := h
  refine ⟨G, env, S, ?_⟩
  unfold I.seq at h
  cases q : f env with
  | stk => simp [q, oE] at h
  | exc x e' => simp only [q, Out.bind_exc] at h; exact h
  | ok a e1 =>
    simp only [q, Out.bind_ok] at h
    refine fun G1 H1 S1 l1 v1 r1 => ?_
    cases qf : frz e1 a with
    | none => simp [qf, oE] at h
    | some pr =>
      obtain ⟨d, e2⟩ := pr
      simp only [qf] at h
      obtain ⟨G2, S2, l2, rv⟩ := S1.frz r1 qf
      cases qi : itemsD d with
      | none => simp [qi, oE] at h
      | some xs =>
        simp only [qi] at h
        exact zIt_of S2 rv qi fun J H2 B' bx S3 w => h G2 H1 S2 (l1.trans l2) J H2 B' bx S3 w
/-! range -/
def rngD (lo : Int) (n : Nat) : List D := (List.range n).map fun k => .int (lo + (k : Nat))
theorem dw_rng {T : Stt} {G1 L : Hp} (lo : Int) (n : Nat) : DWalk T (Itr lo n) G1 L (rngD lo n) where
  goes := fun i H hi _ _ => by show i < n; simpa [rngD] using hi
  stops := fun H _ _ => by show n ≤ _; simp [rngD]
  yields := fun i H x H' hi _ _ y => by
    obtain ⟨e, y⟩ := y
    subst e y
    have hi' : i < n := by simpa [rngD] using hi
    exact ⟨.int (lo + (i : Nat)), by simp [rngD, hi'], fun G g gh => ⟨G, Same.refl G, gh, Same.refl _, fun a u e => .inl e, .int _⟩⟩
def I.rng1 (g : FA) : FI := fun env => (g env).bind fun ds e => match ds with
  | [.int j] => if -(2 ^ 62) ≤ j ∧ j < 2 ^ 62 then .ok (rngD 0 j.toNat) e else .stk
  | _ => .stk
def I.rng2 (g : FA) : FI := fun env => (g env).bind fun ds e => match ds with
  | [.int i, .int j] => if -(2 ^ 62) ≤ i ∧ i < 2 ^ 62 ∧ -(2 ^ 62) ≤ j ∧ j < 2 ^ 62 then .ok (rngD i (j - i).toNat) e else .stk
  | _ => .stk
theorem one_int {T : Stt} {G : Hp} {vs : List V} {i : Int} (r : VRels T G vs [.int i]) : vs = [.int i] := by
  cases r with
  | cons r1 r => cases r; cases r1; rfl
theorem di_rng1 {a : Expr} {g : FA} (hm : X.mg "range" = none) (ha : DA X [a] g) (hg : Gl X "range" := by rfl) (hs : starEach [a] X.env = [(false, eval a X.env)] := by rfl) : DI X tg (.Call (.Name "range" p) [a] [] pos) (I.rng1 g) := by
  refine ⟨fun B W tk => ⟨fun pins s σ H R Iv h => (pi_range1 hg hm (ha.run B W tk) hs).run pins s σ H R Iv ?_⟩⟩
  obtain ⟨G, env, S, h⟩ := h
  refine ⟨G, env, S, ?_⟩
  unfold I.rng1 at h
  cases q : g env with
  | stk => simp [q, oE] at h
  | exc x e' => simp only [q, Out.bind_exc] at h; exact h
  | ok ds e1 =>
    simp only [q, Out.bind_ok] at h
    refine fun G1 H1 S1 l1 vs r1 => ?_
    split at h
    · split at h
      · rename_i hb
        obtain rfl := one_int r1
        exact ⟨_, rfl, hb.1, hb.2, h G1 H1 S1 l1 _ H1 B (BExt.refl B) S1 (dw_rng 0 _)⟩
      · exact h.elim
    · exact h.elim
theorem di_rng2 {a b : Expr} {g : FA} (hm : X.mg "range" = none) (ha : DA X [a, b] g) (hg : Gl X "range" := by rfl) (hs : starEach [a, b] X.env = [(false, eval a X.env), (false, eval b X.env)] := by rfl) (hs2 : starEach [b] X.env = [(false, eval b X.env)] := by rfl) :
    DI X tg (.Call (.Name "range" p) [a, b] [] pos) (I.rng2 g) := by
  refine ⟨fun B W tk => ⟨fun pins s σ H R Iv h => (pi_range2 hg hm (ha.run B W tk) hs hs2).run pins s σ H R Iv ?_⟩⟩
  obtain ⟨G, env, S, h⟩ := h
  refine ⟨G, env, S, ?_⟩
  unfold I.rng2 at h
  cases q : g env with
  | stk => simp [q, oE] at h
  | exc x e' => simp only [q, Out.bind_exc] at h; exact h
  | ok ds e1 =>
    simp only [q, Out.bind_ok] at h
    refine fun G1 H1 S1 l1 vs r1 => ?_
    split at h
    · split at h
      · rename_i hb
        obtain rfl := two_ints r1
        exact ⟨_, _, rfl, hb, h G1 H1 S1 l1 _ H1 B (BExt.refl B) S1 (dw_rng _ _)⟩
      · exact h.elim
    · exact h.elim
end

/-! ### comprehensions -/
def wipeE (e : Ev) : List Nat → Ev
  | [] => e
  | v :: vs => put1 (wipeE e vs) v .no
theorem StR.no0 {T : Stt} {B : Bse} {G H : Hp} {σ : St} {env : Ev} (Sr : StR T B G H σ env) (i : Nat) (o : Option V) {s0 : Slot} (e0 : env[i]? = some s0) (n0 : ∀ M, s0 ≠ .sto M) : StR T B G H (σ.set i o) (env.set i .no) where
  gh := Sr.gh
  g0 := Sr.g0
  h0 := Sr.h0
  lk := Sr.lk
  add := Sr.add
  len := by rw [List.length_set, List.length_set]; exact Sr.len
  top := by
    rw [List.length_set]
    exact top_set Sr.top e0 ⟨fun ⟨M, z⟩ => (n0 M z).elim, fun ⟨M, z⟩ => nomatch z⟩
  sto := fun M e => Sr.sto M (by rw [← sto_set (s' := Slot.no) e0 n0 (fun _ z => nomatch z)]; exact e)
  val := fun j d' e => by
    by_cases z : i = j
    · subst z
      have hi : i < env.length := by
        have := (List.getElem?_eq_some_iff.mp e).1
        rwa [List.length_set] at this
      rw [List.getElem?_set_self hi] at e
      cases e
    · rw [List.getElem?_set_ne z] at e
      rw [List.getElem?_set_ne z]
      exact Sr.val j d' e
  own := fun j d' e => by
    by_cases z : i = j
    · subst z
      have hi : i < env.length := by
        have := (List.getElem?_eq_some_iff.mp e).1
        rwa [List.length_set] at this
      rw [List.getElem?_set_self hi] at e
      cases e
    · rw [List.getElem?_set_ne z] at e
      rw [List.getElem?_set_ne z]
      exact Sr.own j d' e
  dis := fun j k d1 d2 p e1 e2 h1 h2 => by
    have ne : ∀ {m : Nat} {x : D}, (env.set i .no)[m]? = some (.own x) → i ≠ m := fun {m x} e z => by
      subst z
      have hi : i < env.length := by
        have := (List.getElem?_eq_some_iff.mp e).1
        rwa [List.length_set] at this
      rw [List.getElem?_set_self hi] at e
      cases e
    have n1 := ne e1
    have n2 := ne e2
    rw [List.getElem?_set_ne n1] at e1 h1
    rw [List.getElem?_set_ne n2] at e2 h2
    exact Sr.dis j k d1 d2 p e1 e2 h1 h2
theorem StR.no {T : Stt} {B : Bse} {G H : Hp} {σ : St} {env : Ev} (Sr : StR T B G H σ env) (i : Nat) (o : Option V) : StR T B G H (σ.set i o) (DL.put1 env i .no) := Sr.put1 fun s e n => Sr.no0 i o e n
theorem StR.wipe {T : Stt} {B : Bse} {G H : Hp} {σ : St} {env : Ev} (Sr : StR T B G H σ env) : ∀ vs : List Nat, StR T B G H (L2.wipe σ vs) (wipeE env vs)
  | [] => Sr
  | v :: vs => by
    unfold L2.wipe wipeE
    exact (StR.wipe Sr vs).no v none
/-- the slots of the block forgotten, the others as they were -/
theorem StR.unwipe {T : Stt} {B : Bse} {G H : Hp} {σ σ2 : St} {env : Ev} {vs : List Nat} (Sr : StR T B G H σ2 env) (h : L2.wipe σ2 vs = L2.wipe σ vs) : StR T B G H σ (wipeE env vs) := by
  have S2 := Sr.wipe vs
  rw [h] at S2
  have hl : σ.length ≤ (wipeE env vs).length := by rw [← wipe_length σ vs]; exact S2.len
  have up : ∀ (i : Nat) v, (L2.wipe σ vs)[i]? = some (some v) → σ[i]? = some (some v) := fun i v e => (wipe_some e).1
  exact ⟨S2.gh, S2.g0, S2.h0, S2.lk, S2.add, hl, (by rw [← wipe_length σ vs]; exact S2.top), S2.sto, fun i d e => let ⟨v, a, b⟩ := S2.val i d e; ⟨v, up i v a, b⟩, fun i d e => let ⟨p, a, b⟩ := S2.own i d e; ⟨p, up i _ a, b⟩, fun i j d e p h1 h2 h3 h4 => by
    obtain ⟨p1, a1, _⟩ := S2.own i d h1
    obtain ⟨p2, a2, _⟩ := S2.own j e h2
    have q1 := up i _ a1
    have q2 := up j _ a2
    rw [h3] at q1; cases q1
    rw [h4] at q2; cases q2
    exact S2.dis i j d e p h1 h2 a1 a2⟩
def loopL (tg : Tgt) (vs : List Nat) (tt : FB) (elt : FE) : List D → List D → Ev → Out D
  | [], acc, e => .ok (.lst acc) (wipeE e vs)
  | d :: ds, acc, e => match bindT tg d e with
    | none => .stk
    | some e1 => match tt e1 with
      | .ok true e2 => match elt e2 with
        | .ok a e3 => match frz e3 a with
          | some (x, e4) => if acc.length < sizeLine then loopL tg vs tt elt ds (acc ++ [x]) (wipeE e4 vs) else .stk
          | none => .stk
        | _ => .stk
      | .ok false e2 => loopL tg vs tt elt ds acc (wipeE e2 vs)
      | _ => .stk
def E.lc (it : FI) (tg : Tgt) (vs : List Nat) (tt : FB) (elt : FE) : FD := fun env => (it env).bind fun ds e => loopL tg vs tt elt ds [] (wipeE e vs)
def Tt.yes : FB := fun env => .ok true env
structure DTs (X : Cx) (ifs : List Expr) (f : FB) : Prop where
  run : ∀ (B : Bse) (W : WX), Takes X W → PTs X ifs (tT ⟨X.K, X.mg⟩ B W f)
section
variable {X : Cx}
theorem dts_nil : DTs X [] Tt.yes := ⟨fun B W tk => ⟨fun pins s σ H Q I h => by
  obtain ⟨G, env, S, h⟩ := h
  exact pts_nil.run pins s σ H Q I (h G H S (Same.refl G))⟩⟩
theorem dts_one {c : Expr} {f : FB} (h : DT X c f) : DTs X [c] f := ⟨fun B W tk => pts_one (h.run B W tk)⟩
theorem pts_any {ι : Type} {e : List Expr} {t : ι → TT} (h : ∀ i, PTs X e (t i)) : PTs X e (fun σ H Q => ∃ i, t i σ H Q) := ⟨fun pins s σ H Q I q => let ⟨i, q⟩ := q; (h i).run pins s σ H Q I q⟩
end
/-- the pin of the list that is being made -/
theorem StR.pinO {T : Stt} {B : Bse} {G H : Hp} {σ : St} {env : Ev} {p : Addr} {u0 : HO} (pu : Pin u0) (S : StR T B G H σ env) (hb : B.3 p = none) (hg : G p = none) (hh : H p = some u0) (ho : ∀ (i : Nat) d, env[i]? = some (.own d) → σ[i]? ≠ some (some (.ref p))) :
    BExt B ⟨B.1, B.2, upd B.3 p u0, B.4⟩ ∧ StR T ⟨B.1, B.2, upd B.3 p u0, B.4⟩ G H σ env := by
  refine ⟨⟨rfl, rfl, fun a w e => ?_, rfl⟩, ⟨S.gh, S.g0, S.h0, fun a w e => ?_, S.add, S.len, S.top, fun M e => (S.sto M e).ch rfl (fun q n w h hw => hw) (fun _ _ _ z => z) (fun q n h z => by
    show upd B.3 p _ q = none
    rw [upd_ne (fun z => by rw [z, hg] at h; cases h)]; exact z), S.val, fun i x e => ?_, S.dis⟩⟩
  · show upd B.3 p _ a = _
    rw [upd_ne (fun z => by rw [z, hb] at e; cases e)]; exact e
  · have e' : upd B.3 p u0 a = some w := e
    by_cases z : a = p
    · subst z; rw [upd_same] at e'; cases e'; exact ⟨hh, True.intro, .inr ⟨hg, pu⟩⟩
    · rw [upd_ne z] at e'; exact S.lk a w e'
  · obtain ⟨q, a1, a2, a3, a4⟩ := S.own i x e
    have np : q ≠ p := fun z => ho i x e (by rw [← z]; exact a1)
    exact ⟨q, a1, ⟨a2.1, by show upd B.3 p _ q = none; rw [upd_ne np]; exact a2.2⟩, a3, a4⟩
theorem StR.pin {T : Stt} {B : Bse} {G H : Hp} {σ : St} {env : Ev} {p : Addr} {acc : List V} (S : StR T B G H σ env) (hb : B.3 p = none) (hg : G p = none) (hh : H p = some (.lst acc)) (ho : ∀ (i : Nat) d, env[i]? = some (.own d) → σ[i]? ≠ some (some (.ref p))) :
    BExt B ⟨B.1, B.2, upd B.3 p (.lst acc), B.4⟩ ∧ StR T ⟨B.1, B.2, upd B.3 p (.lst acc), B.4⟩ G H σ env := StR.pinO True.intro S hb hg hh ho
/-- the pinned list is grown -/
theorem StR.growO {T : Stt} {B : Bse} {G H : Hp} {σ : St} {env : Ev} {p : Addr} {u0 u1 : HO} (pu0 : Pin u0) (pu1 : Pin u1) (S : StR T ⟨B.1, B.2, upd B.3 p u0, B.4⟩ G H σ env) (hb : B.2 p = none) :
    StR T ⟨B.1, B.2, upd B.3 p u1, B.4⟩ G (upd H p u1) σ env := by
  obtain ⟨h1, _, h3⟩ := S.lk p u0 (show upd B.3 p _ p = _ from upd_same)
  have hg : G p = none := by
    rcases h3 with ⟨o, w, z⟩ | z
    · subst z; exact pu0.elim
    · exact z.1
  refine ⟨fun a u e => ?_, S.g0, fun a u e => ?_, fun a w e => ?_, S.add, S.len, S.top, fun M e => (S.sto M e).ch rfl (fun q n w h hw => by rw [upd_ne (fun z => by rw [z, hg] at h; cases h)]; exact hw) (fun _ _ _ z => z) (fun q n h z => by
    have z' : upd B.3 p u0 q = none := z
    rw [upd_ne (fun y => by rw [y, hg] at h; cases h)] at z'
    show upd B.3 p _ q = none
    rw [upd_ne (fun y => by rw [y, hg] at h; cases h)]; exact z'), S.val, fun i x e => ?_, S.dis⟩
  · rw [upd_ne (fun z => by rw [z, hg] at e; cases e)]; exact S.gh a u e
  · have hb' : B.2 a = some u := e
    rw [upd_ne (fun z => by rw [z, hb] at hb'; cases hb')]; exact S.h0 a u e
  · have e' : upd B.3 p u1 a = some w := e
    by_cases z : a = p
    · subst z; rw [upd_same] at e'; cases e'; exact ⟨upd_same, True.intro, .inr ⟨hg, pu1⟩⟩
    · rw [upd_ne z] at e'
      rw [upd_ne z]
      exact S.lk a w (by show upd B.3 p _ a = _; rw [upd_ne z]; exact e')
  · obtain ⟨q, a1, a2, a3, a4⟩ := S.own i x e
    have np : q ≠ p := fun z => by
      have y : upd B.3 p u0 q = none := a2.2
      rw [z, upd_same] at y
      cases y
    have y : upd B.3 p u0 q = none := a2.2
    rw [upd_ne np] at y
    exact ⟨q, a1, ⟨a2.1, by show upd B.3 p _ q = none; rw [upd_ne np]; exact y⟩, a3, a4.same (Same.refl G) fun w z => by rw [upd_ne np]; exact z⟩
theorem StR.grow {T : Stt} {B : Bse} {G H : Hp} {σ : St} {env : Ev} {p : Addr} {acc acc' : List V} (S : StR T ⟨B.1, B.2, upd B.3 p (.lst acc), B.4⟩ G H σ env) (hb : B.2 p = none) :
    StR T ⟨B.1, B.2, upd B.3 p (.lst acc'), B.4⟩ G (upd H p (.lst acc')) σ env := StR.growO (u0 := .lst acc) (u1 := .lst acc') True.intro True.intro S hb
theorem wipe_agr : ∀ {vs : List Nat} {σ σ' : St}, σ'.length = σ.length → (∀ j, j ∉ vs → σ'[j]? = σ[j]?) → L2.wipe σ' vs = L2.wipe σ vs := by
  intro vs σ σ' hl h
  have key : ∀ (vs : List Nat) (σ : St) (j : Nat), (L2.wipe σ vs)[j]? = if j ∈ vs ∧ j < σ.length then some none else σ[j]? := by
    intro vs σ j
    induction vs with
    | nil => simp [L2.wipe]
    | cons v vs ih =>
      unfold L2.wipe
      by_cases e : v = j
      · subst e
        by_cases hv : v < σ.length
        · rw [List.getElem?_set_self (by rw [wipe_length]; exact hv)]
          simp [hv]
        · have h1 : (L2.wipe σ vs).length ≤ v := by rw [wipe_length]; omega
          rw [List.getElem?_eq_none (by rw [List.length_set]; exact h1), List.getElem?_eq_none (by omega)]
          simp [hv]
      · rw [List.getElem?_set_ne e, ih]
        have : (j ∈ v :: vs) ↔ j ∈ vs := by
          constructor
          · intro h
            rcases List.mem_cons.mp h with z | z
            · exact absurd z.symm e
            · exact z
          · exact List.mem_cons_of_mem _
        simp [this]
  apply List.ext_getElem?
  intro j
  rw [key, key, hl]
  by_cases hj : j ∈ vs
  · by_cases hk : j < σ.length
    · simp [hj, hk]
    · simp only [hj, hk, and_false, if_false]
      rw [List.getElem?_eq_none (by omega), List.getElem?_eq_none (by omega)]
  · simp only [hj, false_and, if_false]
    exact h j hj
theorem wipe_wipe (σ : St) (vs : List Nat) : L2.wipe (L2.wipe σ vs) vs = L2.wipe σ vs := wipe_agr (wipe_length σ vs) fun j hj => by
  have : ∀ (ws : List Nat), (j ∉ ws) → (L2.wipe σ ws)[j]? = σ[j]? := by
    intro ws
    induction ws with
    | nil => intro _; rfl
    | cons w ws ih =>
      intro h
      unfold L2.wipe
      rw [List.getElem?_set_ne (fun z => h (by rw [z]; exact List.mem_cons_self)), ih (fun z => h (List.mem_cons_of_mem _ z))]
  exact this vs hj
section
variable {X : Cx} {elt tg iter : Expr} {ifs : List Expr} {scope : Scope} {own : List (Str × Nat)} {pos : Pos} {it : FI} {t : Tgt} {tt : FB} {f : FE}
theorem tF_lc {T : Stt} {B : Bse} {W W0 : WX} {vs : List Nat} (hv : ∀ j, j ∈ t.slots → j ∈ vs) {σ : St} {H : Hp} {Q : VK} (h : tF T B W (E.lc it t vs tt f) σ H Q) :
    tLc (tIt T B W it) (fun v σ H Q => ∃ B, gT T B t v σ H Q) (fun σ H Q => ∃ B, tT T B (fun _ _ _ _ => False) tt σ H Q) (fun σ H Q => ∃ B, tE T B (fun _ _ _ _ => False) f σ H Q) vs σ H Q := by
  obtain ⟨G, env, S, h⟩ := h
  refine ⟨G, env, S, ?_⟩
  unfold E.lc at h
  cases qi : it env with
  | stk => simp [qi, oE] at h
  | exc x e' => simp only [qi, Out.bind_exc] at h; exact h
  | ok ds e =>
    simp only [qi, Out.bind_ok] at h
    intro G1 H0 S0 l1 J H1 B' bx S1 w D hD
    obtain ⟨S2, n1, n2, n3⟩ := S1.fresh (o := .lst []) hD
    obtain ⟨b2, S3⟩ := S2.pin (acc := []) n1.2 n2 upd_same n3
    have S4 := S3.wipe vs
    have h0 := h.mono l1 fun a e' G' H' l (k : ∀ p, (B.2 p = none ∧ B.3 p = none) → G' p = none → (∀ (j : Nat) d', e'[j]? = some (.own d') → σ[j]? ≠ some (some (.ref p))) → CRel T G' H' p a → Q (.ref p) H') => k
    have bb : ∀ av : List V, BExt B ⟨B'.1, B'.2, upd B'.3 D (.lst av), B'.4⟩ := fun av => ⟨bx.g, bx.h, fun a u e => by
      have e2 := bx.lk a u e
      show upd B'.3 D _ a = _
      rw [upd_ne (fun z => by rw [z, n1.2] at e2; cases e2)]; exact e2, bx.pu⟩
    refine ⟨fun i m H => m = ds.length - i ∧ i ≤ ds.length ∧ ∃ G acc av e, StR T ⟨B'.1, B'.2, upd B'.3 D (.lst av), B'.4⟩ G H (L2.wipe σ vs) e ∧ Same G1 G ∧ VRels T G av acc ∧
      oE T B W σ G (loopL t vs tt f (ds.drop i) acc e) (fun a e' G' H' => ∀ p, (B.2 p = none ∧ B.3 p = none) → G' p = none → (∀ (j : Nat) d', e'[j]? = some (.own d') → σ[j]? ≠ some (some (.ref p))) → CRel T G' H' p a → Q (.ref p) H'),
      ⟨ds.length, by simp, Nat.zero_le _, G1, [], [], _, S4, Same.refl G1, .nil, h0⟩, ?_⟩
    rintro i m H ⟨rfl, hi, G, acc, av, e, S, g, ra, h⟩
    have l : Le G1 H := Le.of_same g S.gh
    have lk : Same B'.3 H := fun a u q => (S.lk a u (by
      show upd B'.3 D _ a = _
      rw [upd_ne (fun z => by rw [z, n1.2] at q; cases q)]; exact q)).1
    obtain ⟨hDl, _, hDg⟩ := S.lk D (.lst av) (show upd B'.3 D _ D = _ from upd_same)
    have gD : G D = none := by
      rcases hDg with ⟨o, w', z⟩ | z
      · cases z
      · exact z.1
    by_cases hlt : i < ds.length
    · refine .inr ⟨w.goes i H hlt l lk, fun H' => ∃ G acc av e, StR T ⟨B'.1, B'.2, upd B'.3 D (.lst av), B'.4⟩ G H' (L2.wipe σ vs) e ∧ Same G1 G ∧ VRels T G av acc ∧
        oE T B W σ G (loopL t vs tt f (ds.drop (i + 1)) acc e) (fun a e' G' H' => ∀ p, (B.2 p = none ∧ B.3 p = none) → G' p = none → (∀ (j : Nat) d', e'[j]? = some (.own d') → σ[j]? ≠ some (some (.ref p))) → CRel T G' H' p a → Q (.ref p) H'),
        fun H' z => ⟨ds.length - (i + 1), by omega, rfl, hlt, z⟩, fun x H' y => ?_⟩
      obtain ⟨d, hd, yy⟩ := w.yields i H x H' hlt l lk y
      obtain ⟨G', g', gh', hh', ad', rx⟩ := yy G g S.gh
      have S' := S.turn g' gh' hh' ad'
      have hdr : ds.drop i = d :: ds.drop (i + 1) := by
        obtain ⟨h1, h2⟩ := List.getElem?_eq_some_iff.mp hd
        rw [← h2]
        exact List.drop_eq_getElem_cons h1
      rw [hdr, loopL] at h
      cases qb : bindT t d e with
      | none => simp [qb, oE] at h
      | some e1 =>
        simp only [qb] at h
        refine ⟨_, G', e, d, e1, S', rx, qb, fun σ2 H2' S2 ag => ?_⟩
        have hw : L2.wipe σ2 vs = L2.wipe σ vs := by
          rw [← wipe_wipe σ vs]
          exact wipe_agr ag.1 fun j hj => ag.2 j fun z => hj (hv j z)
        refine ⟨hw, _, G', e1, S2, ?_⟩
        cases qt : tt e1 with
        | stk => simp [qt, oE] at h
        | exc x e' => simp [qt, oE] at h
        | ok b e2 =>
          refine fun G2 H2 S3 l3 => ?_
          cases b with
          | false =>
            simp only [qt] at h
            refine iteF ⟨G2, acc, av, _, ?_, (g.trans g').trans l3, (ra.same g').same l3, (h.mono (g'.trans l3) fun _ _ _ _ _ z => z)⟩
            rw [← hw]
            exact S3.wipe vs
          | true =>
            simp only [qt] at h
            refine iteT ⟨_, G2, e2, S3, ?_⟩
            cases qf : f e2 with
            | stk => simp [qf, oE] at h
            | exc x e' => simp [qf, oE] at h
            | ok a e3 =>
              simp only [qf] at h
              refine fun G3 H3 S5 l5 v rv => ?_
              cases qz : frz e3 a with
              | none => simp [qz, oE] at h
              | some pr =>
                obtain ⟨xd, e4⟩ := pr
                simp only [qz] at h
                obtain ⟨G4, S6, l6, rv6⟩ := S5.frz rv qz
                obtain ⟨hD3, _, _⟩ := S6.lk D (.lst av) (show upd B'.3 D _ D = _ from upd_same)
                split at h
                · rename_i hlen
                  have gg : Same G G4 := ((g'.trans l3).trans l5).trans l6
                  have ra4 := ra.same gg
                  refine ⟨av, hD3, by rw [ra.length]; exact hlen, G4, acc ++ [xd], av ++ [v], _, ?_, g.trans gg, ra4.append (.cons rv6 .nil), h.mono gg fun _ _ _ _ _ z => z⟩
                  rw [← hw]
                  exact (S6.grow (acc' := av ++ [v]) n1.1).wipe vs
                · exact h.elim
    · have e0 : i = ds.length := by omega
      subst e0
      rw [List.drop_length, loopL] at h
      refine .inl ⟨w.stops H l lk, ?_⟩
      have S7 := (S.unwipe (σ := σ) (wipe_wipe σ vs)).back (bb av)
      refine h G H S7 (Same.refl G) D ⟨bx.h ▸ n1.1, ?_⟩ gD (fun j d' z => ?_) ⟨av, hDl, ra⟩
      · cases q : B.3 D with
        | none => rfl
        | some u => rw [bx.lk D u q] at n1; cases n1.2
      · have S8 := S.unwipe (σ := σ) (wipe_wipe σ vs)
        obtain ⟨p, a1, a2, _⟩ := S8.own j d' z
        rw [a1]
        intro q
        cases q
        have y : upd B'.3 D (.lst av) D = none := a2.2
        rw [upd_same] at y
        cases y
theorem df_lc (hc : X.calm = true) (hN : X.N.Nodup) (hi : DI X tg iter it) (ok : BlkOk X.N X.env.scope scope own) (hv : ∀ j, j ∈ t.slots → j ∈ own.map (·.2))
    (hg : ∀ (s : Shared) (H : Hp) (C : Addr) (cl : List (Str × Addr)) (fp : List Addr), DG (X.blk s H scope (compEnvC scope cl C X.env) fp) tg t) (ht : ∀ (s : Shared) (H : Hp) (C : Addr) (cl : List (Str × Addr)) (fp : List Addr), DTs (X.blk s H scope (compEnvC scope cl C X.env) fp) ifs tt)
    (he : ∀ (s : Shared) (H : Hp) (C : Addr) (cl : List (Str × Addr)) (fp : List Addr), DE (X.blk s H scope (compEnvC scope cl C X.env) fp) elt f) (hs : ∀ x, foldedSetIterable iter X.env x = pure x := by intro _; rfl) :
    DF X (.ListComp elt [⟨tg, iter, ifs, 0⟩] scope pos) (E.lc it t (own.map (·.2)) tt f) :=
  ⟨fun B W tk => (pe_lc hc hN (hi.run B W tk) ok (fun s H C cl fp => pg_any fun B => (hg s H C cl fp).run B) (fun s H C cl fp => pts_any fun B => (ht s H C cl fp).run B (fun _ _ _ _ => False) takes0)
    (fun s H C cl fp => pe_any fun B => (he s H C cl fp).run B (fun _ _ _ _ => False) takes0) hs).imp fun σ H Q h => tF_lc (W0 := W) hv h⟩
end
end DL
-- DL7
set_option maxRecDepth 100000
set_option maxHeartbeats 4000000
/-! DL7: changes of own containers, raise, defs. -/
namespace DL
open PySem PySem.Spec PyProof.Rows L2

/-! ### changes -/
/-- the own container of slot i is changed -/
theorem StR.upd {T : Stt} {B : Bse} {G H : Hp} {σ : St} {env : Ev} (S : StR T B G H σ env) {i : Nat} {d d' : D} {p : Addr} {o : HO} (he : env[i]? = some (.own d)) (hs : σ[i]? = some (some (.ref p))) (hc : CRel T G (L2.upd H p o) p d') :
    StR T B G (L2.upd H p o) σ (env.set i (.own d')) := by
  obtain ⟨q, a1, a2, a3, a4⟩ := S.own i d he
  rw [hs] at a1
  cases a1
  have hi : i < env.length := (List.getElem?_eq_some_iff.mp he).1
  refine ⟨fun a u e => ?_, S.g0, fun a u e => ?_, fun a u e => ?_, S.add, by rw [List.length_set]; exact S.len, top_set S.top he ⟨fun ⟨_, z⟩ => (nomatch z), fun ⟨_, z⟩ => (nomatch z)⟩,
    fun M e => (S.sto M (by rw [← sto_set (s' := .own d') he (fun _ z => nomatch z) (fun _ z => nomatch z)]; exact e)).ch rfl (fun q n w h hw => by rw [upd_ne (fun z => by rw [z, a3] at h; cases h)]; exact hw) (fun _ _ _ z => z) (fun _ _ _ z => z), fun j x e => ?_, fun j x e => ?_, fun j k x y r h1 h2 h3 h4 => ?_⟩
  · rw [upd_ne (fun z => by rw [z, a3] at e; cases e)]; exact S.gh a u e
  · rw [upd_ne (fun z => by rw [z, a2.1] at e; cases e)]; exact S.h0 a u e
  · rw [upd_ne (fun z => by rw [z, a2.2] at e; cases e)]; exact S.lk a u e
  · by_cases z : i = j
    · subst z; rw [List.getElem?_set_self hi] at e; cases e
    · rw [List.getElem?_set_ne z] at e; exact S.val j x e
  · by_cases z : i = j
    · subst z
      rw [List.getElem?_set_self hi] at e
      cases e
      exact ⟨p, hs, a2, a3, hc⟩
    · rw [List.getElem?_set_ne z] at e
      obtain ⟨q, b1, b2, b3, b4⟩ := S.own j x e
      have np : q ≠ p := fun y => z (S.dis i j _ _ p he e hs (by rw [← y]; exact b1))
      exact ⟨q, b1, b2, b3, b4.same (Same.refl G) fun u y => by rw [upd_ne np]; exact y⟩
  · have back : ∀ {m : Nat} {w : D}, (env.set i (.own d'))[m]? = some (.own w) → ∃ w', env[m]? = some (.own w') := fun {m w} e => by
      by_cases z : i = m
      · subst z; exact ⟨d, he⟩
      · rw [List.getElem?_set_ne z] at e; exact ⟨w, e⟩
    obtain ⟨x', h1'⟩ := back h1
    obtain ⟨y', h2'⟩ := back h2
    exact S.dis j k x' y' r h1' h2' h3 h4
def ownL (e : Ev) (i : Nat) : Option (List D) := match e[i]? with
  | some (.own (.lst xs)) => some xs
  | _ => none
theorem ownL_some {e : Ev} {i : Nat} {xs : List D} (h : ownL e i = some xs) : e[i]? = some (.own (.lst xs)) := by
  unfold ownL at h
  split at h
  · rename_i h2; cases h; exact h2
  · cases h
def S.app (i : Nat) (f : FE) : FS := fun env => match ownL env i with
  | some _ => (f env).toS fun a e1 => match frz e1 a with
    | some (d, e2) => match ownL e2 i with
      | some xs => if xs.length < sizeLine then .nx (e2.set i (.own (.lst (xs ++ [d])))) else .stk
      | none => .stk
    | none => .stk
  | none => .stk
def S.ext (i : Nat) (f : FE) : FS := fun env => match ownL env i with
  | some _ => (f env).toS fun a e1 => match rd e1 a with
    | some (.lst ys) => match ownL e1 i with
      | some xs => if xs.length + ys.length ≤ sizeLine then .nx (e1.set i (.own (.lst (xs ++ ys)))) else .stk
      | none => .stk
    | _ => .stk
  | none => .stk
section
variable {X : Cx} {pos p p2 cpos : Pos} {x : Str} {e : Expr}
theorem ds_app (i : Nat) {f : FE} (hf : DE X e f) (hN : X.N[i]? = some x := by rfl) (hv : Vis X.env.scope x := by first | exact Or.inl rfl | exact Or.inr (Or.inl rfl) | exact Or.inr (Or.inr rfl)) (hd : (x == ("__debug__" : Str)) = false := by decide)
    (mk : ∀ {ta : TE}, PE X e ta → PE X (.Call (.Attribute (.Name x p) "append" p2) [e] [] cpos) (tBM X.K "list" rAppend (tVar i) (tCons ta tNil)) := by
      intro ta h; exact pe_bm PySem.F.plainAttrs_list PySem.F.slot_list_append PySem.F.type_list_append mt_append (pv _) (pa_cons h pa_nil))
    (hs : swapsWith (.Call (.Attribute (.Name x p) "append" p2) [e] [] cpos) none pos.line X.env = pure false := by rfl) :
    DS X (.Expr (.Call (.Attribute (.Name x p) "append" p2) [e] [] cpos) pos) (S.app i f) := by
  refine ⟨fun B W tk ps => (ps_expr (mk (hf.run B W tk)) hs).imp fun De σ H q => ?_⟩
  obtain ⟨G, env, Sr, q⟩ := q
  unfold S.app at q
  cases q0 : ownL env i with
  | none => simp [q0, oS] at q
  | some xs0 =>
    simp only [q0] at q
    obtain ⟨p0, a1, _, _, vs0, hp0, _⟩ := Sr.own i _ (ownL_some q0)
    refine ⟨_, a1, Or.inl ⟨rfl, _, SqL.of hp0⟩, G, env, Sr, oS_toS q fun a e1 G1 H1 S1 l1 k v r => ?_⟩
    cases qf : frz e1 a with
    | none => simp [qf, oS] at k
    | some pr =>
      obtain ⟨d, e2⟩ := pr
      simp only [qf] at k
      obtain ⟨G2, S2, l2, rv⟩ := S1.frz r qf
      cases q1 : ownL e2 i with
      | none => simp [q1, oS] at k
      | some xs =>
        simp only [q1] at k
        split at k
        · rename_i hl
          obtain ⟨p1, b1, _, _, vs, hp1, rvs⟩ := S2.own i _ (ownL_some q1)
          rw [a1] at b1
          cases b1
          refine ⟨p0, vs, v, rfl, rfl, hp1, by rw [rvs.length]; exact hl, ?_⟩
          exact k σ G2 _ (S2.upd (d' := .lst (xs ++ [d])) (ownL_some q1) a1 ⟨vs ++ [v], upd_same, rvs.append (.cons rv .nil)⟩) l2
        · exact k.elim
theorem ds_ext (i : Nat) {f : FE} (hf : DE X e f) (hN : X.N[i]? = some x := by rfl) (hv : Vis X.env.scope x := by first | exact Or.inl rfl | exact Or.inr (Or.inl rfl) | exact Or.inr (Or.inr rfl)) (hd : (x == ("__debug__" : Str)) = false := by decide)
    (mk : ∀ {ta : TE}, PE X e ta → PE X (.Call (.Attribute (.Name x p) "extend" p2) [e] [] cpos) (tBM X.K "list" rExtend (tVar i) (tCons ta tNil)) := by
      intro ta h; exact pe_bm PySem.F.plainAttrs_list PySem.F.slot_list_extend PySem.F.type_list_extend mt_extend (pv _) (pa_cons h pa_nil))
    (hs : swapsWith (.Call (.Attribute (.Name x p) "extend" p2) [e] [] cpos) none pos.line X.env = pure false := by rfl) :
    DS X (.Expr (.Call (.Attribute (.Name x p) "extend" p2) [e] [] cpos) pos) (S.ext i f) := by
  refine ⟨fun B W tk ps => (ps_expr (mk (hf.run B W tk)) hs).imp fun De σ H q => ?_⟩
  obtain ⟨G, env, Sr, q⟩ := q
  unfold S.ext at q
  cases q0 : ownL env i with
  | none => simp [q0, oS] at q
  | some xs0 =>
    simp only [q0] at q
    obtain ⟨p0, a1, _, _, vs0, hp0, _⟩ := Sr.own i _ (ownL_some q0)
    refine ⟨_, a1, Or.inl ⟨rfl, _, SqL.of hp0⟩, G, env, Sr, oS_toS q fun a e1 G1 H1 S1 l1 k v r => ?_⟩
    cases qf : rd e1 a with
    | none => simp [qf, oS] at k
    | some d =>
      cases d with
      | lst ys =>
        simp only [qf] at k
        cases q1 : ownL e1 i with
        | none => simp [q1, oS] at k
        | some xs =>
          simp only [q1] at k
          split at k
          · rename_i hl
            obtain ⟨p1, b1, _, _, vs, hp1, rvs⟩ := S1.own i _ (ownL_some q1)
            rw [a1] at b1
            cases b1
            obtain ⟨b, ws, rfl, hb, rws⟩ := (S1.orel r qf).lst S1.gh
            refine ⟨p0, b, vs, ws, rfl, rfl, hp1, hb, by rw [rvs.length, rws.length]; exact hl, ?_⟩
            exact k σ G1 _ (S1.upd (d' := .lst (xs ++ ys)) (ownL_some q1) a1 ⟨vs ++ ws, upd_same, rvs.append rws⟩) (Same.refl G1)
          · exact k.elim
      | _ => simp [qf, oS] at k
/-- x.pop(), x own -/
def E.pop (i : Nat) : FE := fun env => match ownL env i with
  | some xs => match xs.getLast? with
    | some d => .ok (.dv d) (env.set i (.own (.lst xs.dropLast)))
    | none => .stk
  | none => .stk
theorem VRels.dropLast {T : Stt} {G : Hp} {vs : List V} {ds : List D} (r : VRels T G vs ds) : VRels T G vs.dropLast ds.dropLast := by
  rw [List.dropLast_eq_take, List.dropLast_eq_take, r.length]
  exact r.take _
theorem de_pop (i : Nat) (hN : X.N[i]? = some x := by rfl) (hv : Vis X.env.scope x := by first | exact Or.inl rfl | exact Or.inr (Or.inl rfl) | exact Or.inr (Or.inr rfl)) (hd : (x == ("__debug__" : Str)) = false := by decide)
    (mk : PE X (.Call (.Attribute (.Name x p) "pop" p2) [] [] cpos) (tBM0 X.K "list" rPop (tVar i)) := by
      exact pe_bm0 PySem.F.plainAttrs_list PySem.F.slot_list_pop PySem.F.type_list_pop mt_pop (pv _)) : DE X (.Call (.Attribute (.Name x p) "pop" p2) [] [] cpos) (E.pop i) := by
  refine ⟨fun B W tk => mk.imp fun σ H Q q => ?_⟩
  obtain ⟨G, env, Sr, q⟩ := q
  unfold E.pop at q
  cases q0 : ownL env i with
  | none => simp [q0, oE] at q
  | some xs =>
    simp only [q0] at q
    obtain ⟨p0, a1, _, _, vs, hp, rvs⟩ := Sr.own i _ (ownL_some q0)
    cases ql : xs.getLast? with
    | none => simp [ql, oE] at q
    | some d =>
      simp only [ql] at q
      rw [List.getLast?_eq_getElem?] at ql
      obtain ⟨v, hv2, rv⟩ := rvs.get' ql
      refine ⟨_, a1, Or.inl ⟨rfl, _, SqL.of hp⟩, p0, vs, v, rfl, rfl, hp, by rw [rvs.length]; exact hv2, ?_⟩
      exact q G _ (Sr.upd (d' := .lst xs.dropLast) (ownL_some q0) a1 ⟨vs.dropLast, upd_same, rvs.dropLast⟩) (Same.refl G) v rv
end
/-! dicts -/
def putVs {κ : Type} [DecidableEq κ] : List κ → List D → κ → D → List D
  | k0 :: ks, d0 :: ds, k, d => (if k0 = k then d else d0) :: putVs ks ds k d
  | _, _, _, _ => []
def putD {κ : Type} [DecidableEq κ] (ks : List κ) (ds : List D) (k : κ) (d : D) : List κ × List D := if k ∈ ks then (ks, putVs ks ds k d) else (ks ++ [k], ds ++ [d])
theorem putK_put {κ : Type} [DecidableEq κ] {T : Stt} {G : Hp} {kvs : List (κ × V)} {ds : List D} {k : κ} {v : V} {d : D} (r : VRels T G (kvs.map (·.2)) ds) (rv : VRel T G v d) :
    (putK kvs k v).map (·.1) = (putD (kvs.map (·.1)) ds k d).1 ∧ VRels T G ((putK kvs k v).map (·.2)) (putD (kvs.map (·.1)) ds k d).2 := by
  have hm : (kvs.any fun kv => decide (kv.1 = k)) = true ↔ k ∈ kvs.map (·.1) := by
    rw [List.any_eq_true]
    constructor
    · rintro ⟨a, h1, h2⟩
      exact List.mem_map.mpr ⟨a, h1, of_decide_eq_true h2⟩
    · intro h
      obtain ⟨a, h1, h2⟩ := List.mem_map.mp h
      exact ⟨a, h1, decide_eq_true h2⟩
  unfold putK putD
  by_cases h : k ∈ kvs.map (·.1)
  · rw [if_pos (hm.mpr h), if_pos h]
    have key : ∀ {kvs : List (κ × V)} {ds : List D}, VRels T G (kvs.map (·.2)) ds → VRels T G ((kvs.map fun kv => if kv.1 = k then (kv.1, v) else kv).map (·.2)) (putVs (kvs.map (·.1)) ds k d) := by
      intro kvs
      induction kvs with
      | nil => intro ds r; cases r; exact .nil
      | cons a kvs ih =>
        intro ds r
        cases r with
        | cons r1 rs =>
          simp only [List.map_cons, putVs]
          refine .cons ?_ (ih rs)
          by_cases e : a.1 = k
          · rw [if_pos e, if_pos e]; exact rv
          · rw [if_neg e, if_neg e]; exact r1
    refine ⟨?_, key r⟩
    rw [List.map_map]
    apply List.map_congr_left
    intro a _
    show (if a.1 = k then (a.1, v) else a).1 = a.1
    by_cases e : a.1 = k
    · rw [if_pos e]
    · rw [if_neg e]
  · rw [if_neg (fun z => h (hm.mp z)), if_neg h]
    refine ⟨by simp, ?_⟩
    rw [List.map_append]
    exact r.append (.cons rv .nil)
/-- x[k] = v, x an own dict -/
def S.put (i : Nat) (fk fv : FE) : FS := fun env => (fv env).toS fun a e1 => match frz e1 a with
  | some (d, e2) => match e2[i]? with
    | some (.own _) => (fk e2).toS fun b e3 => match rd e3 b with
      | some kd => match e3[i]? with
        | some (.own (.dcK ks ds)) => match keyOf kd with
          | some k => if ks.length < sizeLine then .nx (e3.set i (.own (.dcK (putD ks ds k d).1 (putD ks ds k d).2))) else .stk
          | none => .stk
        | some (.own (.dcT ks ds)) => match keyT kd with
          | some k => if ks.length < sizeLine then .nx (e3.set i (.own (.dcT (putD ks ds k d).1 (putD ks ds k d).2))) else .stk
          | none => .stk
        | _ => .stk
      | none => .stk
    | _ => .stk
  | none => .stk
section
variable {X : Cx} {pos p p2 : Pos} {x : Str} {value key : Expr}
theorem ds_put (i : Nat) {fk fv : FE} (hu : X.A.units + 1 < cLine) (hk : DE X key fk) (hv : DE X value fv) (hN : X.N[i]? = some x := by rfl) (hvs : Vis X.env.scope x := by first | exact Or.inl rfl | exact Or.inr (Or.inl rfl) | exact Or.inr (Or.inr rfl)) (hd : (x == ("__debug__" : Str)) = false := by decide)
    (hcd : (x == ("__classdict__" : Str)) = false := by decide) (hs : swapsWith value (some (.Subscript (.Name x p) key p2)) pos.line X.env = pure false := by rfl) : DS X (.Assign [.Subscript (.Name x p) key p2] value pos) (S.put i fk fv) := by
  refine ⟨fun B W tk ps => (ps_dput hu (pe_var hN hvs hd hcd) (hk.run B W tk) (hv.run B W tk) hs).imp fun De σ H q => ?_⟩
  obtain ⟨G, env, Sr, q⟩ := q
  refine ⟨G, env, Sr, oS_toS q fun a e1 G1 H1 S1 l1 k v r => ?_⟩
  cases qf : frz e1 a with
  | none => simp [qf, oS] at k
  | some pr =>
    obtain ⟨d, e2⟩ := pr
    simp only [qf] at k
    obtain ⟨G2, S2, l2, rv⟩ := S1.frz r qf
    split at k
    · rename_i x0 hx0
      obtain ⟨p0, a1, _⟩ := S2.own i _ hx0
      refine ⟨_, a1, G2, e2, S2, oS_toS (k.mono l2) fun b e3 G3 H3 S3 l3 kk w rw' => ?_⟩
      cases qk : rd e3 b with
      | none => simp [qk, oS] at kk
      | some kd =>
        simp only [qk] at kk
        have ok := S3.orel rw' qk
        split at kk
        · rename_i ks ds he3
          cases q2 : keyOf kd with
          | none => simp [q2, oS] at kk
          | some kx =>
            simp only [q2] at kk
            split at kk
            · rename_i hl
              obtain rfl := keyOf_v ok q2
              obtain ⟨p1, b1, _, _, kvs, hp1, hks, rvs⟩ := S3.own i _ he3
              rw [a1] at b1
              cases b1
              obtain ⟨g1, g2⟩ := putK_put (k := kx) rvs (rv.same l3)
              rw [hks] at g1 g2
              refine ⟨p0, _, rfl, .inl ⟨kvs, kx, hp1, rfl, by rw [← hks] at hl; simpa using hl, rfl⟩, ?_⟩
              exact kk σ G3 _ (S3.upd he3 a1 ⟨putK kvs kx v, upd_same, g1, g2⟩) (Same.refl G3)
            · exact kk.elim
        · rename_i ks ds he3
          cases q2 : keyT kd with
          | none => simp [q2, oS] at kk
          | some kx =>
            simp only [q2] at kk
            split at kk
            · rename_i hl
              obtain ⟨bb, rfl, hbb⟩ := keyT_v S3.gh ok q2
              obtain ⟨p1, b1, _, _, kvs, hp1, hks, rvs⟩ := S3.own i _ he3
              rw [a1] at b1
              cases b1
              obtain ⟨g1, g2⟩ := putK_put (k := kx) rvs (rv.same l3)
              rw [hks] at g1 g2
              refine ⟨p0, _, rfl, .inr ⟨kvs, kx, bb, hp1, rfl, hbb, by rw [← hks] at hl; simpa using hl, rfl⟩, ?_⟩
              exact kk σ G3 _ (S3.upd he3 a1 ⟨putK kvs kx v, upd_same, g1, g2⟩) (Same.refl G3)
            · exact kk.elim
        · exact kk.elim
    · exact k.elim
end

/-! ### raise -/
/-- C's __init__(self, f): self.f = f -/
def spInit (C : Addr) (f : Str) : Sp := fun vs H Q _ => ∃ (a : Addr) (v : V), vs = [.ref a, v] ∧ H a = some (exo a C none) ∧ ∀ dx, H dx = none → dx ≠ a → Q .non (L2.upd (L2.upd H dx (exd dx [(f, v)])) a (exo a C (some dx)))
/-- an exception class of the program with such an __init__ -/
structure ExcT (P : Program) (w : World) (K : PySem.W.Frag) (mg : Str → Option Value) (base : Heap) (c f : Str) : Prop where
  ex : ∃ C fI fd, mg c = some (.ref C) ∧ OexC K C ∧ PySem.W.findIn K (.ref C) "__init__" = some (some (.ref fI)) ∧ PySem.W.typeIn K (.ref fI) = some (.type "function") ∧ FnOk P w K mg base CX0 1 fI fd ["self", f] (spInit C f) ∧ Binds K fd ["self", f] []
theorem ok_init {dvs : List V} {kws : List (Str × V)} {P : Program} {w : World} {K : PySem.W.Frag} {mg : Str → Option Value} {base : Heap} {qual f : Str} {st : Stmt} {fI C : Addr} {fd : FuncData} (F : FunD K "__init__" qual (defArgs st) (defBody st) (defScope st) dvs kws fI fd) (T : OexC K C) (no : PySem.W.findIn K (.ref C) f = some none) (S : FnScope ["self", f] ["self", f] (defScope st))
    (hb : ∀ (cdv : Value) (A : Around) (outer : List Env) (s : Shared) (H : Hp) (E : XK), PSs (cxOf CX0 P w K mg base ["self", f] qual (defScope st) fI cdv A outer s H E).nox (defBody st) (tOst K f (tVar 0) (tVar 1))) : FnOk P w K mg base CX0 1 fI fd ["self", f] (spInit C f) := by
  refine F.ok (CX := CX0) S (fun vs H Q E h => ?_) (fun cdv A outer s H vs Q E hr h => ⟨_, PSs.nox (hb cdv A outer s H E), ?_⟩)
  · obtain ⟨a, v, rfl, _⟩ := h
    rfl
  · obtain ⟨a, v, rfl, ha, k⟩ := h
    exact ⟨_, rfl, _, rfl, a, C, rfl, T, no, .inl ⟨ha, fun dx n ne => k dx n ne⟩⟩
def S.raise1 (c f : Str) (g : FE) : FS := fun env => (g env).toS fun a e => match frz e a with
  | some (d, e2) => .exc (.x1 c f d) e2
  | none => .stk
section
variable {X : Cx} {pos p p2 : Pos} {c f : Str} {e : Expr}
theorem upd_exc {H : Hp} {a dx : Addr} {o1 o2 o3 : HO} {u : HO} (ha : H a = none) (hd : dx ≠ a) : L2.upd (L2.del (L2.upd (L2.upd (L2.upd H a o1) dx o2) a o3) a) dx u = L2.upd H dx u := by
  funext b
  by_cases h1 : b = dx
  · subst h1; rw [upd_same, upd_same]
  · rw [upd_ne h1, upd_ne h1]
    by_cases h2 : b = a
    · subst h2; rw [del_same, ha]
    · rw [del_ne h2, upd_ne h2, upd_ne h1, upd_ne h2]
theorem ds_raise1 {g : FE} (hc : X.calm = true) (T : ExcT X.prog X.w X.K X.mg X.base c f) (hr : Room 2 X.A) (he : DE X e g) (hg : Gl X c := by rfl) (hdb : (c == ("__debug__" : Str)) = false := by decide)
    (hs : starEach (e :: []) X.env = (false, eval e X.env) :: starEach [] X.env := by rfl) (hpl : (backTo p2 (starEach [] X.env)).any (·.1) = false := by rfl) : DS X (.Raise (some (.Call (.Name c p) [e] [] p2)) none pos) (S.raise1 c f g) := by
  obtain ⟨C, fI, fd, hm, TC, iC, tI, F1, hb⟩ := T.ex
  refine ⟨fun B W tk ps => (ps_raise hc tk (pmk_oex TC iC tI F1 hr hb .nil pass0 hg hm (pa_cons (he.run B W tk) pa_nil hs) hdb hs hpl)).imp fun De σ H q => ?_⟩
  obtain ⟨G, env, Sr, q⟩ := q
  refine ⟨G, env, Sr, oS_toS q fun a e1 G1 H1 S1 l1 k v r => ?_⟩
  cases qf : frz e1 a with
  | none => simp [qf, oS] at k
  | some pr =>
    obtain ⟨d, e2⟩ := pr
    simp only [qf] at k
    obtain ⟨G2, S2, l2, rv⟩ := S1.frz r qf
    refine ⟨by show 1 ≤ 1000; decide, fun x hx => ⟨x, v, rfl, upd_same, fun dx n ne => ⟨rfl, dx, [(f, v)], upd_same, by rw [upd_ne ne]; exact upd_same, by rw [upd_ne ne] at n; exact n, ?_⟩⟩⟩
    rw [upd_exc hx ne]
    have n1 : H1 dx = none := by rw [upd_ne ne] at n; exact n
    obtain ⟨S3, l3⟩ := S2.new (o := .xd [(f, v)]) n1
    exact k _ _ σ _ _ S3 (l2.trans l3) ⟨C, dx, v, hm, rfl, rfl, upd_same, rv.same l3⟩
end

/-! ### a def's end: what was locked is as it was -/
def unl (H0 H : Hp) : Hp := fun a => match H0 a with
  | some u => some u
  | none => H a
theorem unl_old {H0 H : Hp} {a : Addr} {u : HO} (h : H0 a = some u) : unl H0 H a = some u := by unfold unl; rw [h]
theorem unl_new {H0 H : Hp} {a : Addr} (h : H0 a = none) : unl H0 H a = H a := by unfold unl; rw [h]
theorem unl_same (H0 H : Hp) : Same H0 (unl H0 H) := fun a u h => unl_old h
theorem Inv_unl {X : Cx} {pins : List (Addr × Obj)} {σ : St} {H H0 : Hp} {s : Shared} (Iv : Inv X pins σ H s) (sub : ∀ a u, H0 a = some u → X.H_0 a = some u) (l : Lr H0 H) : Inv X pins σ (unl H0 H) s := by
  have non : ∀ b, H b = none → unl H0 H b = none := fun b n => by
    cases q : H0 b with
    | none => rw [unl_new q]; exact n
    | some u => rcases l b u q with y | ⟨_, ob, y⟩ <;> rw [n] at y <;> cases y
  have keep : ∀ b o, H b = some o → (∀ o' u', o ≠ .frz o' u') → unl H0 H b = some o := fun b o e nf => by
    cases q : H0 b with
    | none => rw [unl_new q]; exact e
    | some u =>
      rw [unl_old q]
      rcases l b u q with y | ⟨_, ob, y⟩
      · rw [e] at y; exact y.symm
      · rw [e] at y; cases y; exact (nf _ _ rfl).elim
  have zero : ∀ b o, X.H_0 b = some o → (H b = some o) → unl H0 H b = some o := fun b o e h => by
    cases q : H0 b with
    | none => rw [unl_new q]; exact h
    | some u =>
      rw [unl_old q]
      have := sub b u q
      rw [e] at this
      exact this.symm
  refine ⟨Iv.ok, Iv.os, Iv.bare, ⟨Iv.base.keep, Iv.base.slot, fun b o e n hx => ?_, Iv.base.there, fun b xs e => zero b _ e (Iv.base.tups b xs e), fun b o x e => zero b _ e (Iv.base.frzs b o x e), fun b ps e => ?_⟩, Iv.loc, Iv.cell, non _ Iv.free, fun x c e => non _ (Iv.freeC x c e), fun p hp => ?_, fun b o e => ?_, Iv.len⟩
  · rw [unl_new (by
      cases q : H0 b with
      | none => rfl
      | some u => have := sub b u q; rw [n] at this; cases this)]
    exact Iv.base.free b o e n hx
  · obtain ⟨more, hm⟩ := Iv.base.tbls b ps e
    cases q : H0 b with
    | none => exact ⟨more, by rw [unl_new q]; exact hm⟩
    | some u =>
      have := sub b u q
      rw [e] at this
      cases this
      exact ⟨#[], by rw [unl_old q]; simp⟩
  · obtain ⟨e, n, r⟩ := Iv.pin p hp
    exact ⟨e, non _ n, r⟩
  · have st : ∀ {o : HO}, ObjOk X.prog X.w H s.heap b o → ObjOk X.prog X.w (unl H0 H) s.heap b o := fun {o} x => x.stay (fun c v _ q => q) (fun c q => keep c _ q (fun _ _ z => nomatch z)) fun c xs q => keep c _ q (fun _ _ z => nomatch z)
    cases q : H0 b with
    | none =>
      rw [unl_new q] at e
      exact st (Iv.hok b o e)
    | some u =>
      rw [unl_old q] at e
      cases e
      rcases l b o q with y | ⟨_, ob, y⟩
      · exact st (Iv.hok b o y)
      · obtain ⟨_, x⟩ := Iv.hok b _ y
        exact st x
def tUnl (H0 : Hp) (t : TS) : TS := fun De σ H => t ⟨fun σ' H' => Lr H0 H' ∧ De.nx σ' (unl H0 H'), fun v H' => Lr H0 H' ∧ De.rt v (unl H0 H'), fun σ' H' => Lr H0 H' ∧ De.bk σ' (unl H0 H'), fun σ' H' => Lr H0 H' ∧ De.ct σ' (unl H0 H')⟩ σ H
theorem pss_unl {X : Cx} {sts : List Stmt} {t : TS} {H0 : Hp} (sub : ∀ a u, H0 a = some u → X.H_0 a = some u) (h : PSs X sts t) : PSs X sts (tUnl H0 t) := by
  refine ⟨fun pins s σ H De Iv hw => ?_⟩
  refine thn (h.run pins s σ H _ Iv hw) fun f s1 q => ?_
  cases f with
  | next => obtain ⟨σ', H', I2, l, q⟩ := q; exact ⟨σ', _, Inv_unl I2 sub l, q⟩
  | brk => obtain ⟨σ', H', I2, l, q⟩ := q; exact ⟨σ', _, Inv_unl I2 sub l, q⟩
  | cont => obtain ⟨σ', H', I2, l, q⟩ := q; exact ⟨σ', _, Inv_unl I2 sub l, q⟩
  | ret v => obtain ⟨x, σ', H', I2, r, l, q⟩ := q; exact ⟨x, σ', _, Inv_unl I2 sub l, r, q⟩
theorem takes_unl {X : Cx} {W : WX} {H0 : Hp} (sub : ∀ a u, H0 a = some u → X.H_0 a = some u) (tk : Takes X W) : Takes X (fun cls d σ H => Lr H0 H ∧ W cls d σ (unl H0 H)) := fun u s' ⟨a, B, sI, pins, σ, H, cls, d, e, Iv, nb, up, sky, na, os, ag, l, w⟩ =>
  tk u s' ⟨a, B, sI, pins, σ, _, cls, d, e, Inv_unl Iv sub l, nb, up, sky, (by
    cases q : H0 a with
    | none => rw [unl_new q]; exact na
    | some u => rcases l a u q with y | ⟨_, ob, y⟩ <;> rw [na] at y <;> cases y), os, ag, w⟩
/-- a heap without the store's things -/
def hid (G H : Hp) : Hp := fun a => match G a with
  | some (.own _) => none
  | _ => H a
theorem hid_sub {G H : Hp} {a : Addr} {u : HO} (h : hid G H a = some u) : H a = some u := by
  unfold hid at h
  split at h
  · cases h
  · exact h
theorem hid_mark {G H : Hp} {a : Addr} {n : Nat} (h : G a = some (.own n)) : hid G H a = none := by unfold hid; rw [h]
theorem hid_no {G H : Hp} {a : Addr} (h : ∀ n, G a ≠ some (.own n)) : hid G H a = H a := by
  unfold hid
  split
  · rename_i n q; exact (h n q).elim
  · rfl
/-- what G' has more than G, where a store is -/
abbrev AddM (G H G' : Hp) : Prop := ∀ a u, G' a = some u → G a = some u ∨ H a = none ∨ ∃ xs, u = .tup xs
abbrev Bz : Bse := ⟨fun _ => none, fun _ => none, fun _ => none, false⟩
def envOf (ds : List D) (n : Nat) (tl : Ev) : Ev := ds.map .val ++ (List.replicate n .no ++ tl)
theorem start_rel {T : Stt} {B : Bse} {G H : Hp} {N : List Str} {vs : List V} {ds : List D} {tl : Ev} (l : Le G H) (h1 : B.1 = G) (h2 : Lr B.2 H) (h3 : B.3 = fun _ => none) (r : VRels T G vs ds) (hn : vs.length ≤ N.length)
    (ht : tl = [] ∨ ∃ M, tl = [.sto M] ∧ StoR T B G H M) : StR T B G H (start N vs) (envOf ds (N.length - ds.length) tl) := by
  have hlen : (start N vs).length = N.length := by
    unfold L2.start
    rw [List.length_append, List.length_map, List.length_replicate]
    omega
  have hl0 : (ds.map Slot.val ++ List.replicate (N.length - ds.length) Slot.no).length = N.length := by
    rw [List.length_append, List.length_map, List.length_replicate, ← r.length]
    omega
  have lo : ∀ (i : Nat) s, (envOf ds (N.length - ds.length) tl)[i]? = some s → (∀ M, s ≠ .sto M) → ∃ d, s = .val d ∧ ds[i]? = some d ∨ s = .no := fun i s e n => by
    unfold envOf at e
    rw [List.getElem?_append] at e
    split at e
    · rw [List.getElem?_map] at e
      cases q : ds[i]? with
      | none => rw [q] at e; cases e
      | some x => rw [q] at e; cases e; exact ⟨x, .inl ⟨rfl, rfl⟩⟩
    · rw [List.getElem?_append] at e
      split at e
      · have := List.mem_of_getElem? e
        rw [List.mem_replicate] at this
        exact ⟨.non, .inr this.2⟩
      · have m := List.mem_of_getElem? e
        rcases ht with ht | ⟨M, ht, _⟩
        · rw [ht] at m; cases m
        · rw [ht, List.mem_singleton] at m; exact (n M m).elim
  have nown : ∀ (i : Nat) d, (envOf ds (N.length - ds.length) tl)[i]? ≠ some (.own d) := fun i d e => by
    obtain ⟨x, z | z⟩ := lo i _ e (fun _ z => nomatch z)
    · cases z.1
    · cases z
  have hsto : ∀ (i : Nat) M, (envOf ds (N.length - ds.length) tl)[i]? = some (.sto M) → N.length ≤ i ∧ tl = [.sto M] := fun i M e => by
    unfold envOf at e
    rw [← List.append_assoc, List.getElem?_append] at e
    split at e
    · have m := List.mem_of_getElem? e
      rw [List.mem_append] at m
      rcases m with m | m
      · obtain ⟨x, _, z⟩ := List.mem_map.mp m
        cases z
      · rw [List.mem_replicate] at m; cases m.2
    · rename_i hi
      rw [hl0] at hi
      have m := List.mem_of_getElem? e
      refine ⟨by omega, ?_⟩
      rcases ht with ht | ⟨M', ht, _⟩
      · rw [ht] at m; cases m
      · rw [ht, List.mem_singleton] at m; cases m; exact ht
  refine ⟨l, h1 ▸ Same.refl _, h2, (fun a u e => by rw [h3] at e; cases e), (fun a u e => .inl (h1 ▸ e)), ?_, fun i s e => ?_, fun M e => ?_, fun i d e => ?_, fun i d e => (nown i d e).elim, fun i j d e p h => (nown i d h).elim⟩
  · rw [hlen]
    unfold envOf
    rw [← List.append_assoc, List.length_append, hl0]
    omega
  · rw [hlen]
    constructor
    · intro hi
      cases s with
      | sto M => exact ⟨M, rfl⟩
      | _ =>
        have hlt := (List.getElem?_eq_some_iff.mp e).1
        unfold envOf at e hlt
        rw [← List.append_assoc] at e hlt
        rw [List.getElem?_append_right (by rw [hl0]; exact hi)] at e
        have m := List.mem_of_getElem? e
        rcases ht with ht | ⟨M', ht, _⟩
        · rw [ht] at m; cases m
        · rw [ht, List.mem_singleton] at m; cases m
    · rintro ⟨M, rfl⟩
      exact (hsto i M e).1
  · unfold stoOf at e
    rw [List.getLast?_eq_getElem?] at e
    split at e
    · rename_i M' q
      cases e
      have := (hsto _ _ q).2
      rcases ht with ht | ⟨M', ht, hs⟩
      · rw [ht] at this; cases this
      · rw [ht] at this; cases this; exact hs
    · cases e
  · obtain ⟨x, z | z⟩ := lo i _ e (fun _ z => nomatch z)
    · obtain ⟨z1, z2⟩ := z
      cases z1
      obtain ⟨v, w1, w2⟩ := r.get' z2
      refine ⟨v, ?_, w2⟩
      unfold L2.start
      have hi := (List.getElem?_eq_some_iff.mp w1).1
      rw [List.getElem?_append_left (by rw [List.length_map]; exact hi), List.getElem?_map, w1]
      rfl
    · cases z
theorem le_unl {G H H0 G' H' : Hp} (S0 : Le G H) (sub : ∀ a u, H0 a = some u → H a = some u) (g : Le G' H') (h : Lr H0 H') (ad : ∀ a u, G' a = some u → G a = some u ∨ H0 a = none ∨ ∃ xs, u = .tup xs) : Le G' (unl H0 H') := fun a u e => by
  cases q : H0 a with
  | none =>
    rw [unl_new q]
    exact g a u e
  | some w =>
    rw [unl_old q]
    rcases g a u e with y | ⟨dy, ob, y⟩ | ⟨n, w', m, y, nt⟩
    · rcases h a w q with z | ⟨dz, ob, z⟩
      · rw [y] at z; cases z; exact .inl rfl
      · rw [y] at z
        cases z
        rcases ad a _ e with x | x | ⟨xs, x⟩
        · have x2 := S0.nd x True.intro
          rw [sub a w q] at x2
          cases x2
        · rw [q] at x; cases x
        · cases x
    · rcases h a w q with z | ⟨dz, ob2, z⟩
      · rw [y] at z; cases z; exact .inr (.inl ⟨dy, ob, rfl⟩)
      · rw [y] at z; cases z; exact .inl rfl
    · rcases h a w q with z | ⟨dz, ob2, z⟩
      · rw [y] at z; cases z; exact .inr (.inr ⟨n, _, m, rfl, nt⟩)
      · refine .inr (.inr ⟨n, w, m, rfl, fun xs z => ?_⟩)
        subst z
        exact dz
/-- a pure def by its body -/
def runF (n : Nat) (body : FS) (ds : List D) : FO := match body (envOf ds (n - ds.length) []) with
  | .nx _ => .ok .non
  | .rt d _ => .ok d
  | .exc x _ => .exc x
  | _ => .stk
def mkF (n np : Nat) (body : FS) : List D → FO := fun ds => if ds.length = np then runF n body ds else .stk
section
variable {P : Program} {w : World} {K : PySem.W.Frag} {mg : Str → Option Value} {base : Heap}
theorem xrel_unl {T : Stt} {G' H0 H' : Hp} {x : Xn} {cls : Value} {d : Option Addr} (h0 : Lr H0 H') (rx : XRel T G' H' x cls d) : XRel T G' (unl H0 H') x cls d := by
  cases x <;> exact rx
theorem def_fn {dvs : List V} {kws : List (Str × V)} {x qual : Str} {st : Stmt} {f : Addr} {fd : FuncData} {N ps : List Str} {k : Nat} {body : FS} (F : FunD K x qual (defArgs st) (defBody st) (defScope st) dvs kws f fd) (S : FnScope N ps (defScope st)) (hp : ps.length ≤ N.length)
    (hbody : ∀ (cdv : Value) (A : Around) (outer : List Env) (s : Shared) (H : Hp) (E : XK), Room k (A.deeper (envOfC qual (defScope st) s.heap.objs.size f cdv)) → DSs (cxOf (L2.CX P w) P w K mg base N qual (defScope st) f cdv A outer s H E) (defBody st) body) :
    FnOk P w K mg base (L2.CX P w) (k + 1) f fd ps (spD ⟨K, mg⟩ (mkF N.length ps.length body)) := by
  refine F.ok (CX := L2.CX P w) S (fun vs H Q E h => ?_) (fun cdv A outer s H vs Q E hr h => ?_)
  · obtain ⟨G, ds, l, r, h⟩ := h
    unfold mkF at h
    split at h
    · rename_i e; exact r.length.trans e
    · exact h.elim
  · obtain ⟨G, ds, l, r, h⟩ := h
    have tk : Takes (cxOf (L2.CX P w) P w K mg base N qual (defScope st) f cdv A outer s H E) (fun cls d _ H => E cls d H) := takes_of rfl rfl rfl rfl
    have ps' : Psn (cxOf (L2.CX P w) P w K mg base N qual (defScope st) f cdv A outer s H E) := PassesOwn.leaving
    have sub : ∀ a u, H a = some u → (cxOf (L2.CX P w) P w K mg base N qual (defScope st) f cdv A outer s H E).H_0 a = some u := fun _ _ z => z
    refine ⟨_, pss_unl sub ((hbody cdv A outer s H E hr).run ⟨G, H, fun _ => none, true⟩ _ (takes_unl sub tk) ps'), ?_⟩
    unfold mkF at h
    split at h
    · rename_i hl
      have st0 := start_rel (B := ⟨G, H, fun _ => none, true⟩) (N := N) l rfl (Lr.refl H) rfl r (by rw [r.length, hl]; exact hp) (.inl rfl)
      have adF : ∀ {G' : Hp}, (∀ a u, G' a = some u → G a = some u ∨ (H a = none ∧ (true = true → NM u)) ∨ ∃ xs, u = .tup xs) → Adds G H G' := fun z a u e => (z a u e).imp id fun y => y.imp (fun w => ⟨w.1, w.2 rfl⟩) id
      have ad2 : ∀ {G' : Hp}, Adds G H G' → ∀ a u, G' a = some u → G a = some u ∨ H a = none ∨ ∃ xs, u = .tup xs := fun z a u e => (z a u e).imp id fun y => y.imp (fun w => w.1) id
      refine ⟨G, _, st0, ?_⟩
      unfold runF at h
      split at h
      · rename_i e0 q
        rw [q]
        exact fun σ' G' H' S' g => ⟨S'.h0, h .non G' _ g (le_unl l (fun _ _ z => z) S'.gh S'.h0 (ad2 (adF S'.add))) (unl_same _ _) (adF S'.add) .non⟩
      · rename_i d e0 q
        rw [q]
        exact fun v σ' G' H' S' g rv => ⟨S'.h0, h v G' _ g (le_unl l (fun _ _ z => z) S'.gh S'.h0 (ad2 (adF S'.add))) (unl_same _ _) (adF S'.add) rv⟩
      · rename_i x e0 q
        rw [q]
        exact fun cls d σ' G' H' S' g rx => ⟨S'.h0, h cls d G' _ g (le_unl l (fun _ _ z => z) S'.gh S'.h0 (ad2 (adF S'.add))) (unl_same _ _) (adF S'.add) (xrel_unl S'.h0 rx)⟩
      · exact h.elim
    · exact h.elim

/-! ### defs with a store -/
inductive MO where
  | ok (d : D) (M : List D) | exc (x : Xn) (M : List D) | stk
end
structure PostM (T : Stt) (G H G' H' : Hp) (M' : List D) : Prop where
  g : Same G G'
  gh : Le G' H'
  hh : Same (hid G H) H'
  ad : AddM G H G'
  sto : StoR T Bz G' H' M'
def oM (T : Stt) (G H : Hp) (o : MO) (Q : VK) (E : XK) : Prop := match o with
  | .ok z M' => ∀ v G' H', PostM T G H G' H' M' → VRel T G' v z → Q v H'
  | .exc x M' => ∀ cls d G' H', PostM T G H G' H' M' → XRel T G' H' x cls d → E cls d H'
  | .stk => False
abbrev FM := List D → List D → MO
/-- what a def with a store promises -/
def spM (T : Stt) (F : FM) : Sp := fun vs H Q E => ∃ G ds M, Le G H ∧ StoR T Bz G H M ∧ VRels T G vs ds ∧ oM T G H (F M ds) Q E
def runM (n : Nat) (body : FS) (M ds : List D) : MO := match body (envOf ds (n - ds.length) [.sto M]) with
  | .nx e => match stoOf e with
    | some M' => .ok .non M'
    | none => .stk
  | .rt d e => match stoOf e with
    | some M' => .ok d M'
    | none => .stk
  | .exc x e => match stoOf e with
    | some M' => .exc x M'
    | none => .stk
  | _ => .stk
def mkM (n np : Nat) (body : FS) : FM := fun M ds => if ds.length = np then runM n body M ds else .stk
section
variable {P : Program} {w : World} {K : PySem.W.Frag} {mg : Str → Option Value} {base : Heap}
theorem StoR.bz {T : Stt} {B : Bse} {G H H0 : Hp} {M : List D} (S : StoR T B G H M) (h : B.2 = H0) : StoR T Bz G (unl H0 H) M := by
  obtain ⟨s1, s2, s3, s4⟩ := S
  refine ⟨rfl, fun n d e => ?_, s3, s4⟩
  obtain ⟨p, a1, a2, a3, a4⟩ := s2 n d e
  exact ⟨p, a1, rfl, rfl, a4.same (Same.refl G) fun u q => by rw [unl_new (h ▸ a2)]; exact q⟩
theorem postM_of {T : Stt} {G H G' H' : Hp} {M : List D} {σ' : St} {e : Ev} (l : Le G H) (S' : StR T ⟨G, hid G H, fun _ => none, false⟩ G' H' σ' e) (g : Same G G') (hM : stoOf e = some M) : PostM T G H G' (unl (hid G H) H') M := by
  have ad : AddM G H G' := fun a u e => by
    rcases S'.add a u e with z | ⟨z, _⟩ | z
    · exact .inl z
    · have z' : hid G H a = none := z
      by_cases hm : ∃ n, G a = some (.own n)
      · obtain ⟨n, hm⟩ := hm
        have := g a _ hm
        rw [e] at this
        cases this
        exact .inl hm
      · rw [hid_no fun n z => hm ⟨n, z⟩] at z'
        exact .inr (.inl z')
    · exact .inr (.inr z)
  exact ⟨g, le_unl l (fun _ _ z => hid_sub z) S'.gh S'.h0 (fun a u e => (S'.add a u e).imp id fun y => y.imp (fun w => w.1) id), unl_same _ _, ad, (S'.sto M hM).bz rfl⟩
theorem core_M {qual : Str} {st : Stmt} {f : Addr} {N ps : List Str} {body : FS} {cdv : Value} {A : Around} {outer : List Env} {s : Shared} {H : Hp} {vs : List V} {Q : VK} {E : XK} (hp : ps.length ≤ N.length)
    (hbody : DSs (cxOf (L2.CX P w) P w K mg base N qual (defScope st) f cdv A outer s H E) (defBody st) body) (h : spM ⟨K, mg⟩ (mkM N.length ps.length body) vs H Q E) :
    ∃ t, PSs (cxOf (L2.CX P w) P w K mg base N qual (defScope st) f cdv A outer s H E) (defBody st) t ∧ t { nx := fun _ H' => Q .non H', rt := Q } (start N vs) H := by
  obtain ⟨G, ds, M, l, st1, r, h⟩ := h
  have tk : Takes (cxOf (L2.CX P w) P w K mg base N qual (defScope st) f cdv A outer s H E) (fun cls d _ H => E cls d H) := takes_of rfl rfl rfl rfl
  have ps' : Psn (cxOf (L2.CX P w) P w K mg base N qual (defScope st) f cdv A outer s H E) := PassesOwn.leaving
  have sub : ∀ a u, hid G H a = some u → (cxOf (L2.CX P w) P w K mg base N qual (defScope st) f cdv A outer s H E).H_0 a = some u := fun _ _ z => hid_sub z
  refine ⟨_, pss_unl sub (hbody.run ⟨G, hid G H, fun _ => none, false⟩ _ (takes_unl sub tk) ps'), ?_⟩
  unfold mkM at h
  split at h
  · rename_i hl
    have stB : StoR ⟨K, mg⟩ ⟨G, hid G H, fun _ => none, false⟩ G H M := by
      obtain ⟨s1, s2, s3, s4⟩ := st1
      refine ⟨rfl, fun n d e => ?_, s3, s4⟩
      obtain ⟨p, a1, a2, a3, a4⟩ := s2 n d e
      exact ⟨p, a1, hid_mark a1, rfl, a4⟩
    have st0 := start_rel (B := ⟨G, hid G H, fun _ => none, false⟩) (N := N) l rfl (Lr.of fun _ _ z => hid_sub z) rfl r (by rw [r.length, hl]; exact hp) (.inr ⟨M, rfl, stB⟩)
    refine ⟨G, _, st0, ?_⟩
    unfold runM at h
    split at h
    · rename_i e0 q
      rw [q]
      split at h
      · rename_i M' hM
        exact fun σ' G' H' S' g => ⟨S'.h0, h .non G' _ (postM_of l S' g hM) .non⟩
      · exact h.elim
    · rename_i d e0 q
      rw [q]
      split at h
      · rename_i M' hM
        exact fun v σ' G' H' S' g rv => ⟨S'.h0, h v G' _ (postM_of l S' g hM) rv⟩
      · exact h.elim
    · rename_i x e0 q
      rw [q]
      split at h
      · rename_i M' hM
        exact fun cls d σ' G' H' S' g rx => ⟨S'.h0, h cls d G' _ (postM_of l S' g hM) (xrel_unl S'.h0 rx)⟩
      · exact h.elim
    · exact h.elim
  · exact h.elim
theorem len_M {T : Stt} {n np : Nat} {body : FS} {vs : List V} {H : Hp} {Q : VK} {E : XK} (h : spM T (mkM n np body) vs H Q E) : vs.length = np := by
  obtain ⟨G, ds, M, l, st, r, h⟩ := h
  unfold mkM at h
  split at h
  · rename_i e; exact r.length.trans e
  · exact h.elim
theorem def_fnM {dvs : List V} {kws : List (Str × V)} {x qual : Str} {st : Stmt} {f : Addr} {fd : FuncData} {N ps : List Str} {k : Nat} {body : FS} (F : FunD K x qual (defArgs st) (defBody st) (defScope st) dvs kws f fd) (S : FnScope N ps (defScope st)) (hp : ps.length ≤ N.length)
    (hbody : ∀ (cdv : Value) (A : Around) (outer : List Env) (s : Shared) (H : Hp) (E : XK), Room k (A.deeper (envOfC qual (defScope st) s.heap.objs.size f cdv)) → DSs (cxOf (L2.CX P w) P w K mg base N qual (defScope st) f cdv A outer s H E) (defBody st) body) :
    FnOk P w K mg base (L2.CX P w) (k + 1) f fd ps (spM ⟨K, mg⟩ (mkM N.length ps.length body)) :=
  F.ok (CX := L2.CX P w) S (fun vs H Q E h => len_M h) fun cdv A outer s H vs Q E hr h => core_M hp (hbody cdv A outer s H E hr) h
end
end DL
-- DL8
set_option maxRecDepth 100000
set_option maxHeartbeats 4000000
/-! DL8: calls of defs with a store; defs that want no guards around; the end of a law for those. -/
namespace DL
open PySem PySem.Spec PyProof.Rows L2

/-! ### behind a call with a store -/
theorem stoOf_last {env : Ev} {M : List D} (h : stoOf env = some M) : env[env.length - 1]? = some (.sto M) := by
  unfold stoOf at h
  split at h
  · rename_i q; cases h; rw [List.getLast?_eq_getElem?] at q; exact q
  · cases h
theorem stoOf_setSto {env : Ev} {M M' : List D} (h : stoOf env = some M) : stoOf (setSto env M') = some M' := by
  have hi := (List.getElem?_eq_some_iff.mp (stoOf_last h)).1
  unfold stoOf setSto
  rw [List.getLast?_eq_getElem?, List.length_set, List.getElem?_set_self hi]
theorem setSto_other {env : Ev} {M M' : List D} (h : stoOf env = some M) {j : Nat} {s : Slot} (e : (setSto env M')[j]? = some s) (n : ∀ M, s ≠ .sto M) : env[j]? = some s := by
  have hi := (List.getElem?_eq_some_iff.mp (stoOf_last h)).1
  unfold setSto at e
  by_cases z : env.length - 1 = j
  · subst z; rw [List.getElem?_set_self hi] at e; cases e; exact (n _ rfl).elim
  · rw [List.getElem?_set_ne z] at e; exact e
theorem StR.bz {T : Stt} {B : Bse} {G H : Hp} {σ : St} {env : Ev} {M : List D} (S : StR T B G H σ env) (hM : stoOf env = some M) : StoR T Bz G H M := by
  obtain ⟨s1, s2, s3, s4⟩ := S.sto M hM
  refine ⟨rfl, fun n d e => ?_, s3, s4⟩
  obtain ⟨p, a1, a2, a3, a4⟩ := s2 n d e
  exact ⟨p, a1, rfl, rfl, a4⟩
/-- a call with the store has been -/
theorem StR.afterM {T : Stt} {B : Bse} {G H G' H' : Hp} {σ : St} {env : Ev} {M M' : List D} (S : StR T B G H σ env) (hM : stoOf env = some M) (P : PostM T G H G' H' M') : StR T B G' H' σ (setSto env M') := by
  obtain ⟨g, gh, hh, ad, st⟩ := P
  obtain ⟨s1, s2, s3, s4⟩ := S.sto M hM
  have mk0 : ∀ a n, G a = some (.own n) → B.2 a = none ∧ B.3 a = none := fun a n e => by
    obtain ⟨p, b1, b2, b3, _⟩ := s2 n (M[n]'(s3 a n e)) (List.getElem?_eq_getElem (s3 a n e))
    obtain rfl := s4 _ _ n e b1
    exact ⟨b2, b3⟩
  have nm : ∀ a w, B.2 a = some w → ∀ n, G a ≠ some (.own n) := fun a w e n z => by rw [(mk0 a n z).1] at e; cases e
  have nl : ∀ a w, B.3 a = some w → ∀ n, G a ≠ some (.own n) := fun a w e n z => by rw [(mk0 a n z).2] at e; cases e
  have gone : ∀ p u, G p = none → H p = some u → (∀ xs, u ≠ .tup xs) → G' p = none := fun p u e1 e2 nt => by
    cases q : G' p with
    | none => rfl
    | some w =>
      rcases ad p w q with z | z | ⟨xs, z⟩
      · rw [e1] at z; cases z
      · rw [e2] at z; cases z
      · subst z
        have y := gh.nd q True.intro
        have y2 := hh p u (by rw [hid_no (fun n z => by rw [e1] at z; cases z)]; exact e2)
        rw [y2] at y
        cases y
        exact (nt _ rfl).elim
  refine ⟨gh, S.g0.trans g, fun a u e => ?_, fun a u e => ?_, fun a u e => ?_, by unfold setSto; rw [List.length_set]; exact S.len, top_set S.top (stoOf_last hM) ⟨fun ⟨_, _⟩ => ⟨_, rfl⟩, fun ⟨_, _⟩ => ⟨_, rfl⟩⟩, fun M2 e => ?_, fun i d e => ?_, fun i d e => ?_,
    fun i j x y q h1 h2 => S.dis i j x y q (setSto_other hM h1 fun _ z => nomatch z) (setSto_other hM h2 fun _ z => nomatch z)⟩
  · rcases S.h0 a u e with y | ⟨d, ob, y⟩
    · exact .inl (hh a _ (by rw [hid_no (nm a u e)]; exact y))
    · exact .inr ⟨d, ob, hh a _ (by rw [hid_no (nm a u e)]; exact y)⟩
  · obtain ⟨x1, x2, x3⟩ := S.lk a u e
    refine ⟨hh a _ (by rw [hid_no (nl a u e)]; exact x1), x2, x3.imp id fun x => ⟨gone a u x.1 x1 fun xs z => ?_, x.2⟩⟩
    subst z
    exact x.2
  · rcases ad a u e with z | z | z
    · exact S.add a u z
    · exact .inr (.inl ⟨S.nb z, fun y => by have y' : B.pu = true := y; rw [s1] at y'; cases y'⟩)
    · exact .inr (.inr z)
  · rw [stoOf_setSto hM] at e
    cases e
    obtain ⟨t1, t2, t3, t4⟩ := st
    refine ⟨s1, fun n d e => ?_, t3, t4⟩
    obtain ⟨p, a1, a2, a3, a4⟩ := t2 n d e
    refine ⟨p, a1, ?_, ?_, a4⟩
    · rcases ad p _ a1 with z | z | ⟨xs, z⟩
      · exact (mk0 p n z).1
      · exact S.nb z
      · cases z
    · rcases ad p _ a1 with z | z | ⟨xs, z⟩
      · exact (mk0 p n z).2
      · exact S.nl z
      · cases z
  · obtain ⟨v, a1, a2⟩ := S.val i d (setSto_other hM e fun _ z => nomatch z)
    exact ⟨v, a1, a2.same g⟩
  · obtain ⟨p, a1, a2, a3, a4⟩ := S.own i d (setSto_other hM e fun _ z => nomatch z)
    obtain ⟨u, hu, mu⟩ := a4.some
    have no : ∀ n, G p ≠ some (.own n) := fun n z => by rw [a3] at z; cases z
    exact ⟨p, a1, a2, gone p u a3 hu (fun xs z => by subst z; exact mu), a4.same g fun w q => hh p w (by rw [hid_no no]; exact q)⟩
def E.callM (F : FM) (g : FA) : FE := fun env => (g env).bind fun ds e => match stoOf e with
  | some M => match F M ds with
    | .ok z M' => .ok (.dv z) (setSto e M')
    | .exc x M' => .exc x (setSto e M')
    | .stk => .stk
  | none => .stk
theorem tE_callM {T : Stt} {B : Bse} {W : WX} {F : FM} {g : FA} {σ : St} {H : Hp} {Q : VK} (h : tE T B W (E.callM F g) σ H Q) : tAr T B W g σ H fun vs H1 => spM T F vs H1 Q (WE W σ) := by
  obtain ⟨G, env, S, h⟩ := h
  refine ⟨G, env, S, ?_⟩
  unfold E.callM at h
  cases q : g env with
  | stk => simp [q, oE] at h
  | exc x e' => simp only [q, Out.bind_exc] at h; exact h
  | ok ds e1 =>
    simp only [q, Out.bind_ok] at h
    cases hM : stoOf e1 with
    | none => simp [hM, oE] at h
    | some M =>
      simp only [hM] at h
      refine fun G1 H1 S1 l1 vs r1 => ⟨G1, ds, M, S1.gh, S1.bz hM, r1, ?_⟩
      cases qz : F M ds with
      | stk => simp [qz, oE] at h
      | ok z M' =>
        simp only [qz] at h
        exact fun v G' H' P rv => h G' H' (S1.afterM hM P) (l1.trans P.g) v rv
      | exc x M' =>
        simp only [qz] at h
        exact fun cls d G' H' P rx => h cls d G' H' (S1.afterM hM P) (l1.trans P.g) rx
structure DefOkM (P : Program) (w : World) (K : PySem.W.Frag) (mg : Str → Option Value) (base : Heap) (x : Str) (k : Nat) (F : FM) : Prop where
  ex : ∃ f fd ps, mg x = some (.ref f) ∧ PySem.W.keepIn K (.ref f) = true ∧ Binds K fd ps [] ∧ FnOk P w K mg base (L2.CX P w) k f fd ps (spM ⟨K, mg⟩ F)
section
variable {X : Cx} {x : Str} {p pos : Pos} {e : Expr} {es : List Expr} {k : Nat}
theorem de_callM {F : FM} {g : FA} (D : DefOkM X.prog X.w X.K X.mg X.base x k F) (hr : Room k X.A) (ha : DA X (e :: es) g) (hg : Gl X x := by rfl) (hdb : (x == ("__debug__" : Str)) = false := by decide)
    (he : starEach (e :: es) X.env = (false, eval e X.env) :: starEach es X.env := by rfl) (hpl : (backTo pos (starEach es X.env)).any (·.1) = false := by rfl) : DE X (.Call (.Name x p) (e :: es) [] pos) (E.callM F g) := by
  obtain ⟨f, fd, ps, hm, hk, hb, Fk⟩ := D.ex
  exact ⟨fun B W tk => (pe_callS Fk hr hg hm hk hb (fun σ => passAt tk σ) (ha.run B W tk) hdb he hpl).imp fun σ H Q h => tE_callM h⟩
end

/-! ### defs that run where no guard is around -/
structure FnG (P : Program) (w : World) (K : PySem.W.Frag) (mg : Str → Option Value) (base : Heap) (C : CXT) (k : Nat) (f : Addr) (fd : FuncData) (ps : List Str) (sp : Sp) : Prop where
  len : ∀ vs H Q E, sp vs H Q E → vs.length = ps.length
  run : ∀ (A : Around) (up : List Env) (s : Shared) (H : Hp) (gs : Args) (us : List Value) (vs : List V) (Q : VK) (E : XK), A.guards = some [] → Room k A → Env0 P w K mg base A up s H → BindsTo s fd gs (ps.zip us) → Vals vs us →
    sp vs H Q E → codeAny (model P w) A (.call (.ref f) gs) (CR C up P w H s Q E) s
theorem _root_.L2.FnOk.g {P : Program} {w : World} {K : PySem.W.Frag} {mg : Str → Option Value} {base : Heap} {C : CXT} {k : Nat} {f : Addr} {fd : FuncData} {ps : List Str} {sp : Sp} (F : FnOk P w K mg base C k f fd ps sp) : FnG P w K mg base C k f fd ps sp :=
  ⟨F.len, fun A up s H gs us vs Q E _ hr e0 hb r h => F.run A up s H gs us vs Q E hr e0 hb r h⟩
theorem FnG.mono {P : Program} {w : World} {K : PySem.W.Frag} {mg : Str → Option Value} {base : Heap} {C : CXT} {j k : Nat} {f : Addr} {fd : FuncData} {ps : List Str} {sp : Sp} (F : FnG P w K mg base C j f fd ps sp) (h : j ≤ k) : FnG P w K mg base C k f fd ps sp :=
  ⟨F.len, fun A up s H gs us vs Q E g hr e0 hb r z => F.run A up s H gs us vs Q E g (hr.mono h) e0 hb r z⟩
section
variable {P : Program} {w : World} {K : PySem.W.Frag} {mg : Str → Option Value} {base : Heap}
theorem okG {dvs : List V} {kws : List (Str × V)} {x qual : Str} {st : Stmt} {f : Addr} {fd : FuncData} {N ps : List Str} {k : Nat} {sp : Sp} (F : FunD K x qual (defArgs st) (defBody st) (defScope st) dvs kws f fd) (S : FnScope N ps (defScope st)) (len : ∀ vs H Q E, sp vs H Q E → vs.length = ps.length)
    (hbody : ∀ (cdv : Value) (A : Around) (up : List Env) (s : Shared) (H : Hp) (vs : List V) (Q : VK) (E : XK), A.guards = some [] → Room k (A.deeper (envOfC qual (defScope st) s.heap.objs.size f cdv)) → sp vs H Q E →
      ∃ t, PSs (cxOf (L2.CX P w) P w K mg base N qual (defScope st) f cdv A up s H E) (defBody st) t ∧ t { nx := fun _ H' => Q .non H', rt := Q } (start N vs) H) : FnG P w K mg base (L2.CX P w) (k + 1) f fd ps sp := by
  obtain ⟨oc, od, dV, kV, doc, pm, an, cdv, ct, osl, rfl, lk, hcd, _, _⟩ := F.ex
  constructor
  · exact len
  intro A up s H gs us vs Q E g0 hr e0 hb r hsp
  have inK : K.In s.heap := e0.mod.kin.keeps fun b o q => (e0.bs b o q).1
  have noL : s.heap.NoLimit := e0.mod.nolimit.keeps fun b o q => (e0.bs b o q).1
  have kinds : ∀ y ∈ ps.zip us, (defScope st).names.lookup y.1 = some .local ∨ ((defScope st).names.lookup y.1 = some .cell ∧ ((cellsFrom (s.heap.objs.size + 1) (defScope st).names []).lookup y.1).isSome = true) := by
    intro ⟨n, v⟩ hy
    rcases S.par n (List.of_mem_zip hy).1 with q | q
    · exact .inl q
    · exact .inr ⟨q, PySem.W.cellsFrom_some _ _ _ (.inl q)⟩
  have rec0 := PySem.W.codeRec_of inK hcd
  refine codeAny_call_function (by exact hr.depth) (inK _ _ lk) rfl S.co S.gen rfl rec0 (hb _ _ _ _ ?_)
  refine wpAny_newFunctionEnv_cells S.kind kinds ?_
  intro env he s1 z
  subst he
  refine ⟨noL.keeps z.toInCall.keep, codeAny_func ?_⟩
  obtain ⟨t, ht, hq⟩ := hbody cdv A up s H vs Q E g0 (hr.deeper _) hsp
  have I0 := inv_start (CX := L2.CX P w) (E := E) (base := base) S hr.hd e0 (len _ _ _ _ hsp) r z
  refine wpAny_mono (ht.run [] s1 (start N vs) H _ I0 hq) ?_ fun _ _ q => q
  intro fl s' hs
  cases fl with
  | ret u => obtain ⟨v, σ', H', J, rv, q⟩ := hs; exact ⟨v, H', J.os, J.bare, J.base, J.hok, rv, q⟩
  | next => obtain ⟨σ', H', J, q⟩ := hs; exact ⟨.non, H', J.os, J.bare, J.base, J.hok, rfl, q⟩
  | brk => exact hs.elim fun _ z => z.elim fun _ z => z.2.elim
  | cont => exact hs.elim fun _ z => z.elim fun _ z => z.2.elim
end
section
variable {X : Cx} {k : Nat} {f : Addr} {fd : FuncData} {ps : List Str} {sp : Sp} {E : St → XK} {x : Str} {p pos : Pos} {e : Expr} {es : List Expr} {t : TA}
theorem pe_callG (F : FnG X.prog X.w X.K X.mg X.base (L2.CX X.prog X.w) k f fd ps sp) (g0 : X.A.guards = some []) (hr : Room k X.A) (hg : Gl X x) (hm : X.mg x = some (.ref f)) (hk : PySem.W.keepIn X.K (.ref f) = true) (hb : Binds X.K fd ps []) (hx : ∀ σ, PassesAt (L2.CX X.prog X.w) X σ (E σ)) (ha : PA X (e :: es) t)
    (hdb : (x == ("__debug__" : Str)) = false := by decide) (he : starEach (e :: es) X.env = (false, eval e X.env) :: starEach es X.env := by rfl) (hpl : (backTo pos (starEach es X.env)).any (·.1) = false := by rfl) :
    PE X (.Call (.Name x p) (e :: es) [] pos) (tCallS sp E t) := by
  constructor
  intro pins s σ H Q I h
  refine wpAny_Call_Name_kw (ld_glob I hg hm ?_ hdb)
  refine PySem.W.callWith_K (h₀ := X.base) I.ok.mod.kin hk (thn (ha.run pos pins s σ H _ I h) ?_) he hpl
  rintro us s1 ⟨vs, H1, I1, r, q⟩
  refine ⟨I1.kIn, ?_⟩
  have q' : sp (vs ++ []) H1 Q (E σ) := by rw [List.append_nil]; exact q
  have r2 : Vals (vs ++ []) (us ++ []) := r.append .nil
  have hl : (us ++ []).length = ps.length := r2.length.symm.trans (F.len _ _ _ _ q')
  refine wpAny_call (codeAny_mono (F.run X.A X.stack s1 H1 ⟨us, []⟩ _ _ Q (E σ) g0 hr I1.env0 (hb s1 us I1.kIn hl) r2 q') ?_)
  intro rs s' hq
  cases rs with
  | error er => exact hx σ pins H1 s1 er s' I1 hq
  | ok fl =>
    cases fl with
    | ret u => exact I1.after hq
    | next => exact hq.elim
    | brk => exact hq.elim
    | cont => exact hq.elim
end

section
variable {P : Program} {w : World} {K : PySem.W.Frag} {mg : Str → Option Value} {base : Heap}
theorem def_fnMG {dvs : List V} {kws : List (Str × V)} {x qual : Str} {st : Stmt} {f : Addr} {fd : FuncData} {N ps : List Str} {k : Nat} {body : FS} (F : FunD K x qual (defArgs st) (defBody st) (defScope st) dvs kws f fd) (S : FnScope N ps (defScope st)) (hp : ps.length ≤ N.length)
    (hbody : ∀ (cdv : Value) (A : Around) (outer : List Env) (s : Shared) (H : Hp) (E : XK), A.guards = some [] → Room k (A.deeper (envOfC qual (defScope st) s.heap.objs.size f cdv)) → DSs (cxOf (L2.CX P w) P w K mg base N qual (defScope st) f cdv A outer s H E) (defBody st) body) :
    FnG P w K mg base (L2.CX P w) (k + 1) f fd ps (spM ⟨K, mg⟩ (mkM N.length ps.length body)) :=
  okG F S (fun vs H Q E h => len_M h) fun cdv A outer s H vs Q E g0 hr h => core_M hp (hbody cdv A outer s H E g0 hr) h
end
structure DefOkMG (P : Program) (w : World) (K : PySem.W.Frag) (mg : Str → Option Value) (base : Heap) (x : Str) (k : Nat) (F : FM) : Prop where
  ex : ∃ f fd ps, mg x = some (.ref f) ∧ PySem.W.keepIn K (.ref f) = true ∧ Binds K fd ps [] ∧ FnG P w K mg base (L2.CX P w) k f fd ps (spM ⟨K, mg⟩ F)
section
variable {X : Cx} {x : Str} {p pos : Pos} {e : Expr} {es : List Expr} {k : Nat}
theorem de_callMG {F : FM} {g : FA} (D : DefOkMG X.prog X.w X.K X.mg X.base x k F) (g0 : X.A.guards = some []) (hr : Room k X.A) (ha : DA X (e :: es) g) (hg : Gl X x := by rfl) (hdb : (x == ("__debug__" : Str)) = false := by decide)
    (he : starEach (e :: es) X.env = (false, eval e X.env) :: starEach es X.env := by rfl) (hpl : (backTo pos (starEach es X.env)).any (·.1) = false := by rfl) : DE X (.Call (.Name x p) (e :: es) [] pos) (E.callM F g) := by
  obtain ⟨f, fd, ps, hm, hk, hb, Fk⟩ := D.ex
  exact ⟨fun B W tk => (pe_callG Fk g0 hr hg hm hk hb (fun σ => passAt tk σ) (ha.run B W tk) hdb he hpl).imp fun σ H Q h => tE_callM h⟩
end

/-! ### the end of a law whose def wants no guards -/
theorem lawG {P : Program} {w : World} {K : PySem.W.Frag} {mg mb : Str → Option Value} {C : CXT} {k : Nat} {fa a : Addr} {fd : FuncData} {x : Str} {sp : Sp} {s1 : Shared} {vs : List Value} {ns : List Int}
    (inK : K.In s1.heap) (hm : s1.heap.Ns mainGlobals mg) (hb : s1.heap.Ns builtinsNs mb) (hbb : ∀ x : Str, x ≠ "__name__" → mb x = bootBuiltins x) (noL : s1.heap.NoLimit) (g0 : s1.gens = #[])
    (ha : s1.heap.get? a = some { cls := .type "list", data := .seq vs.toArray }) (hi : IntsAre vs ns) (hl : ns.length ≤ sizeLine) (hr : Room k callerA)
    (F : ∀ base : Heap, K.In base → base.Ns mainGlobals mg → FnG P w K mg base C k fa fd [x] sp) (bnd : ∀ (s : Shared) (u : Value), BindsTo s fd ⟨[u], []⟩ [(x, u)])
    (hsp : ∀ H : Hp, Only H → SqL K H a (ns.map V.int) → sp [.ref a] H (fun v _ => v = .bl true) fun _ _ _ => False)
    (hC : ∀ H e s', C [] H s1 (fun _ _ _ => False) e s' → False) :
    codeAny (model P w) callerA (.call (.ref fa) ⟨[.ref a], []⟩) (fun r s' => r = .ok (.ret (.bool true)) ∧ OldK s1.heap s'.heap ∧ s'.os = s1.os ∧ AllBare s'.gens) s1 := by
  suffices go : ∀ H : Hp, Only H → SqL K H a (ns.map V.int) → HOk P w H s1.heap → (∀ b, H b ≠ none → b = a ∧ K.lookup a = none) →
      codeAny (model P w) callerA (.call (.ref fa) ⟨[.ref a], []⟩) (fun r s' => r = .ok (.ret (.bool true)) ∧ OldK s1.heap s'.heap ∧ s'.os = s1.os ∧ AllBare s'.gens) s1 by
    cases hk : K.lookup a with
    | some o =>
      have e := inK a o hk
      rw [ha] at e
      cases e
      refine go (fun _ => none) (fun _ => .inl rfl) (.inr ⟨_, vs.toArray, _, hk, rfl, rfl, rfl, ?_, ?_⟩) (fun b u z => nomatch z) (fun b z => absurd rfl z)
      · rw [List.size_toArray, hi.length]; exact hl
      · simpa using vals_ints hi
    | none =>
      let o0 : Obj := { cls := .type "list", data := .seq vs.toArray }
      refine go (fun b => if b = a then some (.frz o0 (.lst (ns.map V.int))) else none) (fun b => ?_) (.inl (.inr ⟨o0, if_pos rfl⟩)) (fun b u z => ?_) (fun b z => ?_)
      · rcases Classical.em (b = a) with h | h
        · exact .inr ⟨o0, _, if_pos h⟩
        · exact .inl (if_neg h)
      · dsimp only at z
        split at z
        · rename_i h
          cases z
          subst h
          exact ⟨ha, by rw [List.length_map]; exact hl, vs, _, vals_ints hi, ha⟩
        · cases z
      · rcases Classical.em (b = a) with h | h
        · exact ⟨h, hk⟩
        · exact (z (if_neg h)).elim
  intro H hO hS hok hA
  have keep : ∀ {b : Addr} {o : Obj}, s1.heap.get? b = some o → H b = none → (hidT s1.heap H).get? b = some o := fun e n => hidT_get e n
  have offA : ∀ {b : Addr}, b ≠ a → H b = none := fun {b} ne => by
    cases q : H b with
    | none => rfl
    | some u => exact (ne (hA b (by rw [q]; exact nofun)).1).elim
  have noD : ∀ {b : Addr} {o : Obj} {es : Array DictEntry} {ep : Nat}, s1.heap.get? b = some o → o.data = .dict es ep → H b = none := fun {b o es ep} e d => by
    refine offA fun z => ?_
    rw [z, ha] at e
    cases e
    cases (show Data.seq vs.toArray _ = Data.dict es ep from d)
  have nsB : ∀ {b : Addr} {m : Str → Option Value}, s1.heap.Ns b m → (hidT s1.heap H).Ns b m := fun {b m} z => by
    obtain ⟨o, es, ep, e, d, r⟩ := z
    exact ⟨o, es, ep, keep e (noD e d), d, r⟩
  have inB : K.In (hidT s1.heap H) := fun b o e => keep (inK b o e) <| by
    cases q : H b with
    | none => rfl
    | some u =>
      obtain ⟨z1, z2⟩ := hA b (by rw [q]; exact nofun)
      rw [z1, z2] at e
      cases e
  have md : Mod K mg (hidT s1.heap H) := ⟨inB, nsB hm, ⟨mb, nsB hb, hbb⟩, noL.elim fun mc z => ⟨mc, nsB z.1, z.2⟩⟩
  have e0 : Env0 P w K mg (hidT s1.heap H) callerA [] s1 H := ⟨rfl, md, fun b o e => of_hidT e, Nat.le_of_eq (hidT_size _ _), trivial, (fun b z => by cases z), hok, .of_eq g0⟩
  have rn := (F _ inB (nsB hm)).run callerA [] s1 H ⟨[.ref a], []⟩ [.ref a] [.ref a] _ _ rfl hr e0 (bnd s1 (.ref a)) (.cons rfl .nil) (hsp H hO hS)
  refine codeAny_mono rn ?_
  intro r s' h
  cases r with
  | error e => exact (hC H e s' h).elim
  | ok fl =>
    cases fl with
    | next => exact h.elim
    | brk => exact h.elim
    | cont => exact h.elim
    | ret u =>
      obtain ⟨v, H', os, bare, un, hok', rv, q⟩ := h
      obtain rfl : v = .bl true := q
      obtain rfl : u = Value.bool true := rv
      refine ⟨rfl, OldK.of_keep ?_, os, bare⟩
      intro b o e
      rcases hO b with z | ⟨ob, xs, z⟩
      · exact un.keep b o e z (fun z => nomatch z) (fun z => nomatch z)
      · have z2 := un.frzs b ob _ z
        have h1 := (hok b _ z).1
        have h2 := (hok' b _ z2).1
        rw [e] at h1
        cases h1
        exact h2
theorem walkG {l : PySem.W.OpenLaw} {n k : Nat} {q : Program} {loose : List Str} {XP : (Str → Option Value) → Heap → Prop} {YP : World → Heap → Prop} {d : DefRec} {x : Str}
    (hn : l.most = some n) (hn2 : n ≤ sizeLine) (hdf : d.params.defaults = []) (hr : Room k callerA)
    (F : ∀ (w : World) (mg : Str → Option Value) (fa : Addr) (h : Heap), YP w h → h.Ns mainGlobals mg → mg d.name = some (.ref fa) → ∃ (K : PySem.W.Frag) (fd : FuncData) (sp : Sp), K.In h ∧ (∀ (s : Shared) (u : Value), BindsTo s fd ⟨[u], []⟩ [(x, u)]) ∧
      (∀ (H : Hp) (a : Addr) (ns : List Int), ns.length ≤ n → Only H → SqL K H a (ns.map V.int) → sp [.ref a] H (fun v _ => v = .bl true) fun _ _ _ => False) ∧ ∀ base : Heap, K.In base → base.Ns mainGlobals mg → FnG l.prog w K mg base (L2.CX l.prog w) k fa fd [x] sp)
    (hC : ∀ (w : World) (H : Hp) (s : Shared) (e : Value) (s' : Shared), L2.CX l.prog w [] H s (fun _ _ _ => False) e s' → False) : PySem.W.WalkO q loose XP YP l.row.toRowW d [] (fun f vs => PySem.call f vs) := by
  refine Att.attach_call hn hdf ?_
  intro w s0 s1 mg mb fa o pm cd doc a vs ns G Y ho hd hcd hmg hobj hints hlen hg
  obtain ⟨K, fd, sp, inK, hb, hsp, hF⟩ := F w mg fa _ Y G.T.g hmg
  exact lawG inK G.T.g G.T.b G.T.builtins G.T.nolimit hg hobj hints (Nat.le_trans hlen hn2) hr hF hb (fun H hO hS => hsp H a ns hlen hO hS) fun H e s' => hC w H s1 e s'
end DL
-- DL9
set_option maxRecDepth 100000
set_option maxHeartbeats 4000000
/-! DL9: repr, powers, products, divmod, pairs of names. -/
namespace DL
open PySem PySem.Spec PyProof.Rows L2

/-! ### repr -/
mutual
theorem toPy_noDict : ∀ {d : D} {p : PyData}, toPy d = some p → p.hasDict = false
  | .non, _, e => by rw [toPy] at e; cases e; rfl
  | .bl _, _, e => by rw [toPy] at e; cases e; rfl
  | .int _, _, e => by rw [toPy] at e; cases e; rfl
  | .str _, _, e => by rw [toPy] at e; cases e; rfl
  | .tup ds, _, e => by
    rw [toPy] at e
    cases q : toPys ds with
    | none => rw [q] at e; cases e
    | some ps => rw [q] at e; cases e; simpa [PyData.hasDict] using toPys_noDict q
  | .lst ds, _, e => by
    rw [toPy] at e
    cases q : toPys ds with
    | none => rw [q] at e; cases e
    | some ps => rw [q] at e; cases e; simpa [PyData.hasDict] using toPys_noDict q
  | .dcK _ _, _, e => by rw [toPy] at e; cases e
  | .dcT _ _, _, e => by rw [toPy] at e; cases e
  | .web _ _ _, _, e => by rw [toPy] at e; cases e
  | .exc0 _, _, e => by rw [toPy] at e; cases e
  | .exc1 _ _ _, _, e => by rw [toPy] at e; cases e
  | .ptr _, _, e => by rw [toPy] at e; cases e
  | .obj _ _ _, _, e => by rw [toPy] at e; cases e
  | .scr _, _, e => by rw [toPy] at e; cases e
theorem toPys_noDict : ∀ {d : List D} {p : List PyData}, toPys d = some p → PyData.hasDictAll p = false
  | [], _, e => by rw [toPys] at e; cases e; rfl
  | x :: xs, _, e => by
    rw [toPys] at e
    cases q : toPy x with
    | none => simp [q] at e
    | some p1 =>
      cases q2 : toPys xs with
      | none => simp [q, q2] at e
      | some p2 =>
        simp only [q, q2, Option.some.injEq] at e
        subst e
        simp [PyData.hasDictAll, toPy_noDict q, toPys_noDict q2]
end
def keyPy : Key → PyData
  | .inl i => .int i
  | .inr x => .str x
/-- as toPy; a dict of ints, besides -/
def pyR : D → Option PyData
  | .dcK ks ds => match intsOf ds with
    | some is => if ks.length = is.length then some (.dict ((ks.map keyPy).zip (is.map .int))) else none
    | none => none
  | d => toPy d
def rpD (d : D) : Option D := match pyR d with
  | some p => if (p.showable && decide (p.shown.length ≤ sizeLine) && decide (p.depth ≤ 64)) = true then some (.str p.shown) else none
  | none => none
section
variable {X : Cx} {pins : List (Addr × Obj)} {σ : St} {H : Hp} {s : Shared}
theorem reads_keys {h : Heap} {P : Program} {w : World} : ∀ {es : List DictEntry} {kvs : List (Key × Value)}, Pairs (mixKind P w) es kvs → ReadsAll h (es.map (·.key)) ((kvs.map (·.1)).map keyPy) []
  | _, _, .nil => .nil
  | _, _, .cons (e := e) (kv := kv) h1 _ t => by
    have r := reads_keys (h := h) t
    obtain ⟨k, v⟩ := kv
    rcases keyIs_shape (show keyIs k e.key = true from h1) with ⟨i, tk, rfl, e2⟩ | ⟨x, tk, rfl, e2⟩
    · show ReadsAll h (e.key :: _) (.int i :: _) []
      rw [e2]; exact .cons (as := []) (bs := []) (.int i tk) r
    · show ReadsAll h (e.key :: _) (.str x :: _) []
      rw [e2]; exact .cons (as := []) (bs := []) (.str x tk) r
theorem reads_vals {h : Heap} {P : Program} {w : World} : ∀ {es : List DictEntry} {kvs : List (Key × Value)} {kvs0 : List (Key × V)} {is : List Int}, Pairs (mixKind P w) es kvs → KV kvs0 kvs → kvs0.map (·.2) = is.map V.int → ReadsAll h (es.map (·.val)) (is.map .int) []
  | _, _, _, [], .nil, .nil, _ => .nil
  | _, _, _, i :: is, .cons (e := e) (kv := kv) h1 h2 t, .cons q qs, e3 => by
    simp only [List.map_cons, List.cons.injEq] at e3
    have r := reads_vals (h := h) t qs e3.2
    show ReadsAll h (e.val :: _) (.int i :: _) []
    have q2 := q.2
    rw [e3.1] at q2
    obtain ⟨tk, q2⟩ := q2
    rw [h2, q2]
    exact .cons (as := []) (bs := []) (.int i tk) r
  | _, _, _, _ :: _, .nil, .nil, e3 => by simp at e3
  | _, _, _, [], .cons _ _ _, .cons _ _, e3 => by simp at e3
theorem kv_keys : ∀ {kvs0 : List (Key × V)} {kvs : List (Key × Value)}, KV kvs0 kvs → kvs0.map (·.1) = kvs.map (·.1)
  | _, _, .nil => rfl
  | _, _, .cons q qs => by
    rw [List.map_cons, List.map_cons, kv_keys qs, q.1]
theorem reads_of {G : Hp} {v : V} {u : Value} {d : D} {p : PyData} (I : Inv X pins σ H s) (l : Le G H) (o : ORel ⟨X.K, X.mg⟩ G H v d) (rv : RelV v u) (e : pyR d = some p) : ∃ as, Reads s.heap u p as ∧ (p.hasDict = true → sysModules ∉ as) := by
  have easy : toPy d = some p → ∃ as, Reads s.heap u p as ∧ (p.hasDict = true → sysModules ∉ as) := fun e => by
    obtain ⟨as, r⟩ := Dp.reads I p v u (o.dp l e) rv
    exact ⟨as, r, fun h => by rw [toPy_noDict e] at h; cases h⟩
  cases d with
  | dcK ks ds =>
    unfold pyR at e
    dsimp only at e
    cases q : intsOf ds with
    | none => rw [q] at e; cases e
    | some is =>
      rw [q] at e
      dsimp only at e
      split at e
      · rename_i hlen
        cases e
        obtain ⟨a, kvs, rfl, hr, hk, rr⟩ := o.dcK l
        rw [intsOf_eq q] at rr
        have ev := rr.ints
        obtain ⟨z, y, vs, kv, ob, es, ep, hg, hx, hd, hks, hp, hn⟩ := hr.ok I.hok
        cases (show u = Value.ref a from rv)
        have r1 := reads_keys (h := s.heap) hp
        have r2 := reads_vals (h := s.heap) hp kv ev
        rw [← kv_keys kv, hk] at r1
        have l1 : (ks.map keyPy).length = (is.map PyData.int).length := by rw [List.length_map, List.length_map]; exact hlen
        refine ⟨[a], ?_, fun _ m => ?_⟩
        · have := Reads.dict (h := s.heap) (a := a) (kvs := (ks.map keyPy).zip (is.map .int)) (as := []) (bs := []) hg hx.1 hd (by rw [List.map_fst_zip (Nat.le_of_eq l1)]; exact r1) (by rw [List.map_snd_zip (Nat.le_of_eq l1.symm)]; exact r2)
          exact this
        · rw [List.mem_singleton] at m
          rw [← m] at y
          simp at y
      · cases e
  | _ => exact easy e
end
section
variable {X : Cx}
theorem c_repr (g0 : X.A.guards = some []) (hu : X.A.units + 100 < cLine) : Call1 X (.builtin "repr") rpD := by
  intro pins s σ H xs us Q I r ⟨v, e, G, d, z, l, o, hz, k⟩
  subst e
  cases r with
  | @cons _ u _ _ rv rr =>
    cases rr
    unfold rpD at hz
    cases hp : pyR d with
    | none => rw [hp] at hz; cases hz
    | some p =>
      rw [hp] at hz
      dsimp only at hz
      split at hz
      · rename_i hc
        cases hz
        rw [Bool.and_eq_true, Bool.and_eq_true] at hc
        obtain ⟨⟨c1, c2⟩, c3⟩ := hc
        have c2 := of_decide_eq_true c2
        have c3 := of_decide_eq_true c3
        obtain ⟨as, rd, hs⟩ := reads_of I l o rv hp
        have fin : ∀ (tk : Nat) (t' : Tok), EP X pins σ Q (.str p.shown tk) { s with toks := t' } := fun tk t' => ⟨.str p.shown, H, I.kept (t' := t') fun _ _ z => z, ⟨tk, rfl⟩, Kont.same k l (.str _)⟩
        cases rd with
        | none => exact PySem.P.repr_of_none (fin _ _)
        | bool b =>
          refine PySem.P.repr_of_bool ?_
          have := fin s.toks (s.toks + 1)
          simpa only [PyData.shown] using this
        | int i t => exact PySem.P.repr_of_int (by simpa [PyData.showable] using c1) (fin _ _)
        | str x t => exact PySem.P.repr_of_str (fin _ _) c2
        | list h1 h2 h3 h4 => exact repr_of_reads' (.list h1 h2 h3 h4) c1 hs g0 (by omega) (fun _ _ z => z) (fun h' tu tk hk => ⟨.str _, H, I.kept (t' := tk) hk, ⟨tu, rfl⟩, Kont.same k l (.str _)⟩) c2
        | tuple h1 h2 h3 h4 => exact repr_of_reads' (.tuple h1 h2 h3 h4) c1 hs g0 (by omega) (fun _ _ z => z) (fun h' tu tk hk => ⟨.str _, H, I.kept (t' := tk) hk, ⟨tu, rfl⟩, Kont.same k l (.str _)⟩) c2
        | dict h1 h2 h3 h4 h5 => exact repr_of_reads' (.dict h1 h2 h3 h4 h5) c1 hs g0 (by omega) (fun _ _ z => z) (fun h' tu tk hk => ⟨.str _, H, I.kept (t' := tk) hk, ⟨tu, rfl⟩, Kont.same k l (.str _)⟩) c2
      · cases hz
end

/-! ### powers, products -/
def powD : D → D → Option D := iiD (fun i j => decide (0 ≤ j ∧ j ≤ 1000000 ∧ i.natAbs < 2 ^ 64)) fun i j => i ^ j.toNat
/-- products of wide ints; lists by a number -/
def mulW : D → D → Option D
  | .int i, .int j => if i.natAbs.log2 + j.natAbs.log2 < 1000000 then some (.int (i * j)) else none
  | .lst xs, .int j => if -(2 ^ 63) ≤ j ∧ j < 2 ^ 63 ∧ xs.length * j.toNat ≤ sizeLine then some (.lst (List.replicate j.toNat xs).flatten) else none
  | _, _ => none
theorem VRels.rep {T : Stt} {G : Hp} {vs : List V} {ds : List D} (r : VRels T G vs ds) : ∀ n : Nat, VRels T G (List.replicate n vs).flatten (List.replicate n ds).flatten
  | 0 => .nil
  | n + 1 => by
    rw [List.replicate_succ, List.replicate_succ, List.flatten_cons, List.flatten_cons]
    exact r.append (VRels.rep r n)
section
variable {X : Cx}
theorem op_powD : OpD X (binaryOp .Pow) powD := op_iiD op_pow fun i j h => of_decide_eq_true (p := 0 ≤ j ∧ j ≤ 1000000 ∧ i.natAbs < 2 ^ 64) h
theorem op_mulWD : OpD X (binaryOp .Mult) mulW := by
  intro pins s σ H x y v u Q I rx ry h
  obtain ⟨G, d, e, z, l, ox, oy, hz, k⟩ := h
  unfold mulW at hz
  split at hz
  · split at hz
    · rename_i q
      cases hz
      obtain rfl := ox.int
      obtain rfl := oy.int
      exact op_mulW pins s σ H _ _ v u Q I rx ry ⟨_, _, rfl, rfl, q, Kont.same k l (.int _)⟩
    · cases hz
  · split at hz
    · rename_i xs j q
      cases hz
      obtain ⟨a, vs, rfl, h1, r1⟩ := ox.lst l
      obtain rfl := oy.int
      exact op_rep pins s σ H _ _ v u Q I rx ry ⟨a, j, vs, rfl, rfl, h1, q.1, q.2.1, by rw [r1.length]; exact q.2.2, fun p hp => Kont.lst k l hp (r1.rep _)⟩
    · cases hz
  · cases hz
/-! divmod -/
def dvmD : List D → Option D
  | [.int i, .int j] => if 0 < j ∧ j.natAbs.log2 < 9000 then some (.tup [.int (i / j), .int (i % j)]) else none
  | _ => none
theorem c_divmod : CallD X (.builtin "divmod") dvmD := by
  intro pins s σ H xs us Q I r ⟨G, ds, z, l, rs, hz, k⟩
  unfold dvmD at hz
  split at hz
  · split at hz
    · rename_i i j q
      cases hz
      obtain rfl := two_ints rs
      exact call_divmodW pins s σ H _ us Q I r ⟨i, j, rfl, ⟨q.1, PyProof.noPylong_of_log2 q.2⟩, fun p hp => Kont.tup k l hp (.cons (.int _) (.cons (.int _) .nil))⟩
    · cases hz
  · cases hz
end

/-! ### a, b = x, y of plain names -/
def S.par (is : List Nat) (g : FA) : FS := fun env => (g env).toS fun ds e => match bindTs (is.map .nm) ds e with
  | some e2 => .nx e2
  | none => .stk
section
variable {X : Cx} {pos : Pos}
theorem ds_par (i j : Nat) {x y : Str} {a b : Expr} {g : FA} {px py pt : Pos} {kt k2 pt2} (hc : X.calm = true) (hN : X.N.Nodup) (ha : DA X [a, b] g) (hi : X.N[i]? = some x := by rfl) (hj : X.N[j]? = some y := by rfl) (hij : i ≠ j := by decide)
    (hx : X.env.scope.names.lookup x = some .local := by rfl) (hy : X.env.scope.names.lookup y = some .local := by rfl)
    (hw : swappedStores [.Tuple [.Name x px, .Name y py] kt pt] (.Tuple [a, b] k2 pt2) X.env = pure (some [x, y]) := by rfl)
    (hs : swapsWithSole [.Tuple [.Name x px, .Name y py] kt pt] (.Tuple [a, b] k2 pt2) pos.line X.env = pure false := by rfl) :
    DS X (.Assign [.Tuple [.Name x px, .Name y py] kt pt] (.Tuple [a, b] k2 pt2) pos) (S.par [i, j] g) := by
  refine ⟨fun B W tk ps => (ps_par hc hN hi hj hij hx hy (ha.run B W tk) hw hs).imp fun De σ H q => ?_⟩
  obtain ⟨G, env, Sr, q⟩ := q
  refine ⟨G, env, Sr, oS_toS q fun ds e' G' H' S' l k vs r => ?_⟩
  cases r with
  | nil => simp [bindTs, oS] at k
  | cons r1 r =>
    cases r with
    | nil => simp [bindTs, bindT, oS] at k
    | cons r2 r =>
      cases r with
      | cons r3 r =>
        simp only [List.map_cons, List.map_nil, bindTs, bindT, Option.bind_some] at k
        exact k.elim
      | nil =>
        simp only [List.map_cons, List.map_nil, bindTs, bindT, Option.bind_some] at k
        exact ⟨_, _, rfl, k _ G' H' ((S'.set r1 i).set r2 j) (Same.refl G')⟩
end

/-! ### {"k": v, ..} -/
def dspL : List (Str × FE) → Ev → Out (List D)
  | [], e => .ok [] e
  | (_, f) :: r, e => (f e).bind fun a e1 => match frz e1 a with
    | some (d, e2) => (dspL r e2).bind fun ds e3 => .ok (d :: ds) e3
    | none => .stk
def E.dsp (kfs : List (Str × FE)) : FD := fun env => (dspL kfs env).bind fun ds e => if kfs.length ≤ 15 ∧ (kfs.map (·.1)).Nodup then .ok (.dcK (kfs.map fun q => .inr q.1) ds) e else .stk
def trD (T : Stt) (W : WX) (kfs : List (Str × FE)) : List (TE × TE) := kfs.map fun q => (tC (.str q.1), fun σ H Q => ∃ B, tE T B W q.2 σ H Q)
structure DPs (X : Cx) (pos : Pos) (keys : List (Option Expr)) (vals : List Expr) (kfs : List (Str × FE)) : Prop where
  run : ∀ (W : WX), Takes X W → PPs X pos keys vals (trD ⟨X.K, X.mg⟩ W kfs)
theorem pairs_D {T : Stt} {W : WX} {σ : St} {B : Bse} : ∀ {kfs : List (Str × FE)} {H : Hp} {Q : List (V × V) → Hp → Prop} {G : Hp} {env : Ev}, StR T B G H σ env →
    oE T B W σ G (dspL kfs env) (fun ds e' G' H' => ∀ vs, VRels T G' vs ds → Q ((kfs.map (·.1)).zipWith (fun k v => (V.str k, v)) vs) H') → tPairs (trD T W kfs) σ H Q
  | [], H, Q, G, env, S, h => h G H S (Same.refl G) [] .nil
  | (k, f) :: r, H, Q, G, env, S, h => by
    refine ⟨B, G, env, S, ?_⟩
    show oE T B W σ G (f env) _
    rw [dspL] at h
    cases q : f env with
    | stk => simp [q, oE] at h
    | exc x e' => simp only [q, Out.bind_exc] at h; exact h
    | ok a e1 =>
      simp only [q, Out.bind_ok] at h
      refine fun G1 H1 S1 l1 v1 r1 => ?_
      cases qf : frz e1 a with
      | none => simp [qf, oE] at h
      | some p =>
        obtain ⟨d, e2⟩ := p
        simp only [qf] at h
        obtain ⟨G2, S2, l2, rv⟩ := S1.frz r1 qf
        refine pairs_D S2 ?_
        cases q2 : dspL r e2 with
        | stk => simp [q2, oE] at h
        | exc x e' =>
          simp only [q2, Out.bind_exc] at h
          exact fun cls d G' H' S' l' => h cls d G' H' S' ((l1.trans l2).trans l')
        | ok ds e3 =>
          simp only [q2, Out.bind_ok] at h
          exact fun G3 H3 S3 l3 vs rvs => h G3 H3 S3 ((l1.trans l2).trans l3) (v1 :: vs) (.cons (rv.same l3) rvs)
theorem merge_new : ∀ {kvs acc : List (Key × V)}, (acc.map (·.1) ++ kvs.map (·.1)).Nodup → mergeK acc kvs = acc ++ kvs
  | [], acc, _ => by simp [mergeK]
  | (k, v) :: r, acc, h => by
    have h2 : valV acc k = none := by
      cases q : valV acc k with
      | none => rfl
      | some w =>
        have : k ∈ acc.map (·.1) := by
          unfold valV at q
          cases q3 : acc.find? fun kv => decide (kv.1 = k) with
          | none => rw [q3] at q; cases q
          | some z =>
            have z1 := List.find?_some q3
            have z2 := List.mem_of_find?_eq_some q3
            exact List.mem_map.mpr ⟨z, z2, of_decide_eq_true z1⟩
        have := (List.nodup_append.mp h).2.2 k this k (by simp)
        exact (this rfl).elim
    show mergeK (putK acc k v) r = _
    rw [putK_new v h2, merge_new (by simpa using h)]
    simp
theorem zip_keys : ∀ {ks : List Str} {vs : List V}, ks.length = vs.length → (ks.zipWith (fun k v => ((Sum.inr k : Key), v)) vs).map (·.1) = ks.map Sum.inr ∧ (ks.zipWith (fun k v => ((Sum.inr k : Key), v)) vs).map (·.2) = vs ∧
    ks.zipWith (fun k v => (V.str k, v)) vs = (ks.zipWith (fun k v => ((Sum.inr k : Key), v)) vs).map (fun kv => (kV kv.1, kv.2))
  | [], [], _ => ⟨rfl, rfl, rfl⟩
  | k :: ks, v :: vs, h => by
    obtain ⟨a, b, c⟩ := zip_keys (ks := ks) (vs := vs) (by simpa using h)
    refine ⟨?_, ?_, ?_⟩
    · rw [List.zipWith_cons_cons, List.map_cons, List.map_cons, a]
    · rw [List.zipWith_cons_cons, List.map_cons, b]
    · rw [List.zipWith_cons_cons, List.zipWith_cons_cons, List.map_cons, c]; rfl
  | [], _ :: _, h => by simp at h
  | _ :: _, [], h => by simp at h
theorem dspL_len : ∀ {kfs : List (Str × FE)} {e e' : Ev} {ds : List D}, dspL kfs e = .ok ds e' → ds.length = kfs.length
  | [], e, e', ds, h => by rw [dspL] at h; cases h; rfl
  | (k, f) :: r, e, e', ds, h => by
    rw [dspL] at h
    cases q : f e with
    | stk => simp [q] at h
    | exc x e2 => simp [q] at h
    | ok a e1 =>
      simp only [q, Out.bind_ok] at h
      cases qf : frz e1 a with
      | none => simp [qf] at h
      | some p =>
        obtain ⟨d, e2⟩ := p
        simp only [qf] at h
        cases q2 : dspL r e2 with
        | stk => simp [q2] at h
        | exc x e3 => simp [q2] at h
        | ok ds2 e3 =>
          simp only [q2, Out.bind_ok, Out.ok.injEq] at h
          obtain ⟨rfl, _⟩ := h
          simp [dspL_len q2]
section
variable {X : Cx} {pos : Pos}
theorem dps_nil : DPs X pos [] [] [] := ⟨fun W tk => pps_nil⟩
theorem dps_cons {k : Str} {j : Nat} {kp : Pos} {v : Expr} {ks : List (Option Expr)} {vs : List Expr} {f : FE} {kfs : List (Str × FE)} (hv : DE X v f) (hr : DPs X pos ks vs kfs) : DPs X pos (some (.Constant (.str k) j kp) :: ks) (v :: vs) ((k, f) :: kfs) :=
  ⟨fun W tk => pps_cons pe_str (pe_any fun B => hv.run B W tk) (hr.run W tk)⟩
theorem df_dsp {keys : List (Option Expr)} {vals : List Expr} {kfs : List (Str × FE)} (h : DPs X pos keys vals kfs) (hall : keys.all (·.isSome) = true := by rfl) (hl : keys.length = vals.length := by rfl) (h0 : keys ≠ [] := by decide) (h15 : keys.length ≤ 15 := by decide) : DF X (.Dict keys vals pos) (E.dsp kfs) := by
  refine ⟨fun B W tk => (pe_disp (h.run W tk) hall hl h0 h15).imp fun σ H Q q => ?_⟩
  obtain ⟨G, env, S, q⟩ := q
  intro p hp
  obtain ⟨S1, n1, n2, n3⟩ := S.fresh (o := .dK []) hp
  obtain ⟨b2, S2⟩ := S1.pinO (u0 := .dK []) True.intro n1.2 n2 upd_same n3
  refine pairs_D S2 ?_
  unfold E.dsp at q
  cases qd : dspL kfs env with
  | stk => simp [qd, oE] at q
  | exc x e' =>
    simp only [qd, Out.bind_exc] at q
    exact fun cls d G' H' S' l' => q cls d G' H' (S'.back b2) l'
  | ok ds e1 =>
    simp only [qd, Out.bind_ok] at q
    refine fun G1 H1 S3 l1 vs r1 => ?_
    split at q
    · rename_i hc
      obtain ⟨hp1, _, hp2⟩ := S3.lk p (.dK []) (show upd B.3 p _ p = _ from upd_same)
      have g1 : G1 p = none := by
        rcases hp2 with ⟨o, w, z⟩ | z
        · cases z
        · exact z.1
      have hlen : (kfs.map (·.1)).length = vs.length := by rw [List.length_map, r1.length, dspL_len qd]
      obtain ⟨z1, z2, z3⟩ := zip_keys hlen
      refine ⟨hp1, _, z3, ?_, ?_⟩
      · rw [List.length_zipWith]; exact Nat.le_trans (Nat.min_le_left _ _) (by rw [List.length_map]; exact hc.1)
      · have nd : ((([] : List (Key × V)).map (·.1)) ++ ((kfs.map (·.1)).zipWith (fun k v => ((Sum.inr k : Key), v)) vs).map (·.1)).Nodup := by
          rw [z1]
          simp only [List.map_nil, List.nil_append]
          exact List.Pairwise.map _ (fun a b h z => h (Sum.inr.inj z)) hc.2
        rw [merge_new nd, List.nil_append]
        have S4 := (StR.growO (u0 := .dK []) (u1 := .dK ((kfs.map (·.1)).zipWith (fun k v => ((Sum.inr k : Key), v)) vs)) True.intro True.intro S3 n1.1)
        have b4 : BExt B ⟨B.1, B.2, upd B.3 p (.dK ((kfs.map (·.1)).zipWith (fun k v => ((Sum.inr k : Key), v)) vs)), B.4⟩ := ⟨rfl, rfl, fun a w e => by
          show upd B.3 p _ a = _
          rw [upd_ne (fun z => by rw [z, n1.2] at e; cases e)]; exact e, rfl⟩
        refine q G1 _ (S4.back b4) l1 p n1 g1 (fun j d' e z => ?_) ⟨_, upd_same, by rw [z1, List.map_map]; rfl, by rw [z2]; exact r1⟩
        obtain ⟨p2, a1, a2, a3, a4⟩ := S3.own j d' e
        rw [a1] at z
        cases z
        have y : upd B.3 p (.dK []) p = none := a2.2
        rw [upd_same] at y
        cases y
    · exact q.elim
end
end DL
-- DL10
set_option maxRecDepth 100000
set_option maxHeartbeats 4000000
/-! DL10: exceptions as values: made by place, by name; their class asked, their field read. -/
namespace PySem
namespace DLX
open PySem.W PySem.Calls PyProof.Rows PySem.HandSPX
section
variable {M : Model} {prog : Program} {w : World} {A : Around} {E : Value → Shared → Prop} {R : Result → Shared → Prop} {h : Heap} {g : Array GenState} {d : Drawn} {t : Nat} {os : OsState}
variable {nm q : Str} {C N : Addr} {bs bm bmB : List Value} {hd : Bool} {sn sub : List Value} {sns : List Str} {ab : Bool} {col : Option Bool} {dd : Option Addr} {k0 k1 k2 k3 k5 : Option Value} {B nw ini : String} {f : Str} {v : Value}
theorem in_own (FB : ExcBaseFacts B nw ini bmB) (sm : ∀ X : String, bm.contains (.type X) = bmB.contains (.type X)) : (Value.ref C :: bm).contains (.type B) = true := by
  rw [List.contains_cons, sm B, FB.hasB, Bool.or_true]
theorem check_kw (FB : ExcBaseFacts B nw ini bmB) (sm : ∀ X : String, bm.contains (.type X) = bmB.contains (.type X)) {Q : Unit → Shared → Prop}
    (at_ : h.get? C = some (excClassObj nm q C N bs bm hd sns sub ab col dd k0 k1 k2 k3 k5 nw)) (z : Q () ⟨h, g, d, t, os⟩) : wpAny M A (checkBuiltinCall nw ⟨[.ref C], [(f, v)]⟩) Q E ⟨h, g, d, t, os⟩ := by
  have isB := in_own (C := C) FB sm
  have st := FB.noStar
  simp only [checkBuiltinCall, FB.newKind, FB.newSplit, FB.newRow]
  repeat (first | refine wpAny_loadPart_at at_ ?_ | (refine wpAny_isSubtype_exc at_ ?_; rw [isB]) | refine wpAny_staticBase_exc at_ ?_ | refine wpAny_madeBy_exc at_ ?_ | simp only [bne_self_eq_false, Bool.false_eq_true, if_false] | wp_step)
  exact z
theorem new_kw (FB : ExcBaseFacts B nw ini bmB) (sm : ∀ X : String, bm.contains (.type X) = bmB.contains (.type X)) (at_ : h.get? C = some (excClassObj nm q C N bs bm hd sns sub ab col dd k0 k1 k2 k3 k5 nw))
    (z : R (.ok (.ret (.ref (h.objs.size + 1)))) ⟨(h.push (W.kdv_tup [])).push (excO C h.objs.size), g, d, t, os⟩) : codeAny (model prog w) A (.builtin nw ⟨[.ref C], [(f, v)]⟩) R ⟨h, g, d, t, os⟩ := by
  have en := FB.ends
  have isB := in_own (C := C) FB sm
  have isA : (Value.ref C :: bm).contains (.type "AttributeError") = false := by
    rw [List.contains_cons, sm, FB.noAttr]; rfl
  have isN : (Value.ref C :: bm).contains (.type "NameError") = false := by
    rw [List.contains_cons, sm, FB.noName]; rfl
  refine codeAny_builtinAt FB.entry ?_
  unfold Builtin.«BaseException.__new__»
  refine wpAt_bind (show wpAt _ _ _ (stack >>= _) _ _ _ from wpAt_bind (wpAt_stack fun p below => wpAt_of_wpAny ?_))
  wp_walk
  apply wpAt_of_wpAny
  rw [FB.owner]
  repeat (first | with_reducible refine wpAny_madeHere_exc FB.canon at_ ?_ | with_reducible refine wpAny_loadPart_at at_ ?_ | (with_reducible refine wpAny_isSubtype_exc at_ ?_; first | rw [isB] | rw [isA] | rw [isN]) | wp_step)
  show R _ _
  rw [Heap.size_push]
  exact z
theorem type_call_kw (FB : ExcBaseFacts B nw ini bmB) (sm : ∀ X : String, bm.contains (.type X) = bmB.contains (.type X)) {fI : Addr} {Q : Fin → Shared → Prop} (at_ : h.get? C = some (excClassObj nm q C N bs bm hd sns sub ab col dd k0 k1 k2 k3 k5 nw))
    (li : W.Looks (model prog w) h (typeLookup (.ref C) "__init__") (some (.ref fI))) (lb : ∀ self, W.Looks (model prog w) h (bindSpecial (.ref fI) self) (.ref fI, [self]))
    (z : codeAny (model prog w) A (.call (.ref fI) ⟨[.ref (h.objs.size + 1)], [(f, v)]⟩) (fun r s' => match r with | .ok (.ret v) => v = .none ∧ Q (.done (.ret (.ref (h.objs.size + 1)))) s' | .ok _ => False | .error e => E e s') ⟨(h.push (W.kdv_tup [])).push (excO C h.objs.size), g, d, t, os⟩) :
    wpAny (model prog w) A (Builtin.«type.__call__» ⟨[.ref C], [(f, v)]⟩) Q E ⟨h, g, d, t, os⟩ := by
  repeat (first | with_reducible refine wpAny_loadPart_at at_ ?_ | with_reducible refine wpAny_madeBy_exc at_ ?_ | wp_step)
  refine codeAny_call_builtin_code (Code.quiet_builtin _ FB.quiet) (check_kw FB sm at_ (new_kw FB sm at_ ?_))
  show wpAny _ _ _ _ _ _
  have old : ∀ b o, h.get? b = some o → ((h.push (W.kdv_tup [])).push (excO C h.objs.size)).get? b = some o := fun b o e => Heap.get?_push_of_some _ (Heap.get?_push_of_some _ e)
  have at2 := old _ _ at_
  have new2 : ((h.push (W.kdv_tup [])).push (excO C h.objs.size)).get? (h.objs.size + 1) = some (excO C h.objs.size) := by heap_get
  have isC : (Value.ref C :: bm).contains (.ref C) = true := by simp
  have li2 := li.keeps old
  have lb2 := (lb (.ref (h.objs.size + 1))).keeps old
  unfold isInstance
  repeat (first | with_reducible refine wpAny_loadPart_at new2 ?_ | (with_reducible refine wpAny_isSubtype_exc at2 ?_; rw [isC]) | wp_step)
  show wpAny _ _ (typeLookup (.ref C) _) _ _ _
  refine li2.at (wpAny_holding (wpAny_bind (lb2.at (wpAny_bind (wpAny_call (codeAny_mono z ?_))))))
  intro r s' y
  rcases r with e | (v | _ | _ | _) <;> first | exact y | exact y.elim | skip
  obtain ⟨rfl, y⟩ := y
  first
    | exact wpAny_pure (wpAny_pure y)
    | (wp_walk; exact y)
theorem call_kw (FB : ExcBaseFacts B nw ini bmB) (sm : ∀ X : String, bm.contains (.type X) = bmB.contains (.type X)) {fI : Addr} (at_ : h.get? C = some (excClassObj nm q C N bs bm hd sns sub ab col dd k0 k1 k2 k3 k5 nw))
    (li : W.Looks (model prog w) h (typeLookup (.ref C) "__init__") (some (.ref fI))) (lb : ∀ self, W.Looks (model prog w) h (bindSpecial (.ref fI) self) (.ref fI, [self]))
    (z : codeAny (model prog w) (A.under (.builtin "type.__call__" ⟨[.ref C], [(f, v)]⟩)) (.call (.ref fI) ⟨[.ref (h.objs.size + 1)], [(f, v)]⟩) (W.InitBack (h.objs.size + 1) R) ⟨(h.push (W.kdv_tup [])).push (excO C h.objs.size), g, d, t, os⟩) :
    codeAny (model prog w) A (.call (.ref C) ⟨[], [(f, v)]⟩) R ⟨h, g, d, t, os⟩ := by
  have l1 := tc_lookup
  have l2 := tc_bind (.ref C)
  have ty : (⟨h, g, d, t, os⟩ : Shared).TypeIs (.ref C) "type" := ⟨_, at_, rfl⟩
  refine codeAny_of_tree (show wpAny _ _ (callAny (.ref C) _) _ _ _ from ?_)
  repeat (any_goals (first | assumption | with_reducible refine wpAny_loadPart_at at_ ?_ | wp_step))
  refine ⟨rfl, ?_⟩
  refine codeAny_call_builtin_at (Code.quiet_builtin _ (by decide +kernel)) entry_typeCall (wpAny_check_type_call_sub at_ (type_call_kw FB sm at_ li lb (codeAny_mono z ?_)))
  intro r s' y
  rcases r with e | (v | _ | _ | _) <;> exact y
end
end DLX
end PySem

namespace DL
open PySem PySem.Spec PyProof.Rows L2
theorem upd_over {H : Hp} {a dx : Addr} {o1 o2 o : HO} : L2.upd (L2.upd (L2.upd H a o1) dx o) a o2 = L2.upd (L2.upd H dx o) a o2 := by
  funext b
  by_cases h1 : b = a
  · subst h1; rw [upd_same, upd_same]
  · rw [upd_ne h1, upd_ne h1]
    by_cases h2 : b = dx
    · subst h2; rw [upd_same, upd_same]
    · rw [upd_ne h2, upd_ne h2, upd_ne h1]
/-- C(v), a new exception with its field -/
def qMk (C : Addr) (f : Str) (v : V) (H : Hp) (Q : VK) : Prop := ∀ a dx, H a = none → H dx = none → dx ≠ a → Q (.ref a) (L2.upd (L2.upd H dx (exd dx [(f, v)])) a (exo a C (some dx)))
section
variable {X : Cx} {C fI : Addr} {fd : FuncData} {f x : Str} {e : Expr} {te : TE} {p pos kpos : Pos}
theorem run_exv {pins : List (Addr × Obj)} {σ : St} {H : Hp} {s : Shared} {Q : VK} {v : V} {u : Value} {us : List Value} {kw : List (Str × Value)} (T : OexC X.K C) (iC : PySem.W.findIn X.K (.ref C) "__init__" = some (some (.ref fI))) (tI : PySem.W.typeIn X.K (.ref fI) = some (.type "function"))
    (Fi : FnOk X.prog X.w X.K X.mg X.base CX0 1 fI fd ["self", f] (spInit C f)) (hr : Room 2 X.A) (hb : ∀ s a, X.K.In s.heap → BindsTo s fd ⟨.ref a :: us, kw⟩ ([("self" : Str), f].zip [.ref a, u])) (how : us = [u] ∧ kw = [] ∨ us = [] ∧ ∃ g, kw = [(g, u)])
    (I : Inv X pins σ H s) (r : RelV v u) (h : qMk C f v H Q) : wpAny (model X.prog X.w) X.A (call (.ref C) us kw) (EP X pins σ Q) X.xe s := by
  obtain ⟨nm, q, N, bs, bm, sn, sub, ab, col, dd, k0, k1, k2, k3, k5, hC, hbm⟩ := T.cls
  obtain ⟨hp, g, dr, tk, os⟩ := s
  have hle : hp.objs.size ≤ hp.objs.size + 1 := Nat.le_succ _
  have hn : H (hp.objs.size + 1) = none := I.hok.fresh hle
  have hlen : us.length ≤ sizeLine := by
    rcases how with ⟨e, _⟩ | ⟨e, _⟩ <;> rw [e, sizeLine_eq] <;> simp
  have old : ∀ b o, hp.get? b = some o → ((hp.push (PySem.W.kdv_tup us)).push (PySem.HandSPX.excO C hp.objs.size)).get? b = some o := fun b o z => Heap.get?_push_of_some _ (Heap.get?_push_of_some _ z)
  have new2 : ((hp.push (PySem.W.kdv_tup us)).push (PySem.HandSPX.excO C hp.objs.size)).get? (hp.objs.size + 1) = some (PySem.HandSPX.excO C hp.objs.size) := by heap_get
  have I2 := I.laid (t' := tk) (a := hp.objs.size + 1) (o := exo (hp.objs.size + 1) C none) (h' := (hp.push (PySem.W.kdv_tup us)).push (PySem.HandSPX.excO C hp.objs.size)) old hle (exo_ok new2)
  have hq : spInit C f [.ref (hp.objs.size + 1), v] (L2.upd H (hp.objs.size + 1) (exo (hp.objs.size + 1) C none)) (fun w H2 => w = .non ∧ Q (.ref (hp.objs.size + 1)) H2) (fun _ _ _ => False) := by
    refine ⟨_, v, rfl, upd_same, fun dx n ne => ⟨rfl, ?_⟩⟩
    rw [upd_ne ne] at n
    rw [upd_over]
    exact h _ dx hn n ne
  have inner : ∀ A2 : Around, Room 1 A2 → Env0 X.prog X.w X.K X.mg X.base A2 X.stack ⟨(hp.push (PySem.W.kdv_tup us)).push (PySem.HandSPX.excO C hp.objs.size), g, dr, tk, os⟩ (L2.upd H (hp.objs.size + 1) (exo (hp.objs.size + 1) C none)) →
      codeAny (model X.prog X.w) A2 (.call (.ref fI) ⟨.ref (hp.objs.size + 1) :: us, kw⟩) (PySem.W.InitBack (hp.objs.size + 1) fun r s' => match r with
        | .ok (.ret y) => EP X pins σ Q y s'
        | .ok _ => False
        | .error er => X.xe er s') ⟨(hp.push (PySem.W.kdv_tup us)).push (PySem.HandSPX.excO C hp.objs.size), g, dr, tk, os⟩ := fun A2 r2 e2 => by
    refine codeAny_mono (Fi.run A2 X.stack _ _ ⟨.ref (hp.objs.size + 1) :: us, kw⟩ [.ref (hp.objs.size + 1), u] [.ref (hp.objs.size + 1), v] _ _ r2 e2 (hb _ _ I2.kIn) (.cons rfl (.cons r .nil)) hq) ?_
    intro rs s' z
    cases rs with
    | error er => exact (pass0 (X := X) pins σ _ _ er s' I2 z)
    | ok fl =>
      cases fl with
      | ret y =>
        obtain ⟨w, H', J, rw', ew, q3⟩ := I2.after z
        subst ew
        exact ⟨rw', .ref (hp.objs.size + 1), H', J, rfl, q3⟩
      | next => exact z.elim
      | brk => exact z.elim
      | cont => exact z.elim
  have lk := PySem.W.looks_findIn (M := model X.prog X.w) I.kIn iC
  have lb : ∀ self, PySem.W.Looks (model X.prog X.w) hp (bindSpecial (.ref fI) self) (.ref fI, [self]) := fun self => PySem.W.bind_fn I.kIn self tI
  have same : ∀ Y : String, bm.contains (.type Y) = _ := fun Y => PySem.HandSPX.refsVE_contains Y bm hbm
  rcases how with ⟨rfl, rfl⟩ | ⟨rfl, g2, rfl⟩
  · exact wpAny_call (PySem.HandSPX.call_own F.excBase_ValueError same (I.kIn _ _ hC) lk lb hlen (inner _ (hr.make C _ _) (I2.env0.make C _ _)))
  · exact wpAny_call (PySem.DLX.call_kw F.excBase_ValueError same (I.kIn _ _ hC) lk lb (inner _ (hr.make C _ _) (I2.env0.make C _ _)))
end

/-! ### the error classes of a program: CampError under ValueError, all others under it -/
/-- c stands under b -/
def subE (c b : Str) : Bool := decide (c = b) || decide (b = "CampError")
structure XC (K : PySem.W.Frag) (C : Addr) : Prop where
  cl : (PySem.W.clsIn K C).isSome = true
  ga : PySem.W.findIn K (.ref C) "__getattribute__" = some (some (.builtin "BaseException.__getattribute__"))
  gt : PySem.W.findIn K (.ref C) "__getattr__" = some none
  sb : PySem.W.subIn K (.ref C) (.type "BaseException") = some true
  ca : PySem.W.findIn K (.ref C) "__class__" = some (some (.builtin "object.__class__"))
  cg : PySem.W.specialIn K (.builtin "object.__class__") "__get__" = some (some (.builtin "getset_descriptor.__get__"))
  ct : PySem.W.takesIn K (.builtin "object.__class__") = some true
  mr : PySem.W.mroIn K C (.type "object") = some true
  hd : PySem.W.hasDictIn K C = true
  kp : PySem.W.keepIn K (.ref C) = true
  ve : PySem.W.kitOne K (.ref C) (.type "ValueError") = some true
def xcB (K : PySem.W.Frag) (C : Addr) : Bool := (PySem.W.clsIn K C).isSome && decide (PySem.W.findIn K (.ref C) "__getattribute__" = some (some (.builtin "BaseException.__getattribute__"))) && decide (PySem.W.findIn K (.ref C) "__getattr__" = some none) && decide (PySem.W.subIn K (.ref C) (.type "BaseException") = some true) &&
  decide (PySem.W.findIn K (.ref C) "__class__" = some (some (.builtin "object.__class__"))) && decide (PySem.W.specialIn K (.builtin "object.__class__") "__get__" = some (some (.builtin "getset_descriptor.__get__"))) && decide (PySem.W.takesIn K (.builtin "object.__class__") = some true) && decide (PySem.W.mroIn K C (.type "object") = some true) &&
  PySem.W.hasDictIn K C && PySem.W.keepIn K (.ref C) && decide (PySem.W.kitOne K (.ref C) (.type "ValueError") = some true)
theorem xcB_ok {K : PySem.W.Frag} {C : Addr} (h : xcB K C = true) : XC K C := by
  unfold xcB at h
  simp only [Bool.and_eq_true, decide_eq_true_eq] at h
  obtain ⟨⟨⟨⟨⟨⟨⟨⟨⟨⟨h1, h2⟩, h3⟩, h4⟩, h5⟩, h6⟩, h7⟩, h8⟩, h9⟩, h10⟩, h11⟩ := h
  exact ⟨h1, h2, h3, h4, h5, h6, h7, h8, h9, h10, h11⟩
/-- an error class with an __init__ that keeps one thing, given by place or by name -/
structure ExcI (P : Program) (w : World) (K : PySem.W.Frag) (mg : Str → Option Value) (base : Heap) (c f : Str) : Prop where
  ex : ∃ C fI fd, mg c = some (.ref C) ∧ OexC K C ∧ PySem.W.findIn K (.ref C) f = some none ∧ PySem.W.findIn K (.ref C) "__init__" = some (some (.ref fI)) ∧ PySem.W.typeIn K (.ref fI) = some (.type "function") ∧ FnOk P w K mg base CX0 1 fI fd ["self", f] (spInit C f) ∧ Binds K fd ["self", f] [] ∧
    ∀ (s : Shared) (a : Addr) (u : Value), K.In s.heap → BindsTo s fd ⟨[.ref a], [(f, u)]⟩ [("self", .ref a), (f, u)]
/-- an error class without -/
structure ExcN (K : PySem.W.Frag) (mg : Str → Option Value) (c : Str) : Prop where
  ex : ∃ C, mg c = some (.ref C) ∧ PySem.W.keepIn K (.ref C) = true ∧ PySem.W.excIn K C He.veBase "ValueError.__new__" = true
/-- what isinstance answers of the error classes cs -/
structure ErrT (K : PySem.W.Frag) (mg : Str → Option Value) (cs : List Str) : Prop where
  xc : ∀ c ∈ cs, ∀ C, mg c = some (.ref C) → XC K C
  is : ∀ c ∈ cs, ∀ b ∈ cs, ∀ C D, mg c = some (.ref C) → mg b = some (.ref D) → PySem.W.kitOne K (.ref C) (.ref D) = some (subE c b)
def E.xv (c f : Str) (g : FE) : FE := fun env => (g env).bind fun a e => match frz e a with
  | some (d, e2) => .ok (.dv (.exc1 c f d)) e2
  | none => .stk
theorem tE_xv {T : Stt} {B : Bse} {W : WX} {c f : Str} {C : Addr} {g : FE} {σ : St} {H : Hp} {Q : VK} (hm : T.mg c = some (.ref C)) (h : tE T B W (E.xv c f g) σ H Q) : tE T B W g σ H fun v H1 => qMk C f v H1 Q := by
  obtain ⟨G, env, S, h⟩ := h
  refine ⟨G, env, S, ?_⟩
  unfold E.xv at h
  cases q : g env with
  | stk => simp [q, oE] at h
  | exc x e' => simp only [q, Out.bind_exc] at h; exact h
  | ok a e1 =>
    simp only [q, Out.bind_ok] at h
    refine fun G1 H1 S1 l1 v r1 => ?_
    cases qf : frz e1 a with
    | none => simp [qf, oE] at h
    | some pr =>
      obtain ⟨d, e2⟩ := pr
      simp only [qf] at h
      obtain ⟨G2, S2, l2, rv⟩ := S1.frz r1 qf
      intro a dx ha hdx ne
      obtain ⟨S3, l3⟩ := S2.new (o := exd dx [(f, v)]) hdx (fun _ => exd_own)
      obtain ⟨S4, l4⟩ := S3.new (p := a) (o := exo a C (some dx)) (by rw [upd_ne (Ne.symm ne)]; exact ha) (fun _ => exo_own)
      refine h _ _ S4 (((l1.trans l2).trans l3).trans l4) _ (.exc1 hm (.inl upd_same) (.inl ?_) (((rv.same l3).same l4)))
      rw [upd_ne ne, upd_same]
section
variable {X : Cx} {c f : Str} {e : Expr} {g : FE} {p pos kpos : Pos}
theorem de_xv (T : ExcI X.prog X.w X.K X.mg X.base c f) (hr : Room 2 X.A) (he : DE X e g) (hg : Gl X c := by rfl) (hdb : (c == ("__debug__" : Str)) = false := by decide)
    (hs : starEach (e :: []) X.env = (false, eval e X.env) :: starEach [] X.env := by rfl) (hpl : (backTo pos (starEach [] X.env)).any (·.1) = false := by rfl) : DE X (.Call (.Name c p) [e] [] pos) (E.xv c f g) := by
  obtain ⟨C, fI, fd, hm, TC, hno, iC, tI, F1, hb, hk⟩ := T.ex
  refine ⟨fun B W tk => ⟨fun pins s σ H Q I h => ?_⟩⟩
  have h2 := tE_xv (T := ⟨X.K, X.mg⟩) hm h
  refine wpAny_Call_Name_kw (ld_glob I hg hm ?_ hdb)
  refine PySem.W.callWith_K (h₀ := X.base) I.ok.mod.kin TC.kC (thn ((pa_cons (he.run B W tk) pa_nil hs).run pos pins s σ H (fun vs H1 => ∃ v, vs = [v] ∧ qMk C f v H1 Q) I ?_) ?_) hs hpl
  · refine (show tE _ B W g σ H _ from ?_)
    obtain ⟨G, env, S, h3⟩ := h2
    exact ⟨G, env, S, h3.mono (Same.refl G) fun a e' G' H' l k v r => ⟨v, rfl, k v r⟩⟩
  · rintro us s1 ⟨vs, H1, I1, r, v, rfl, q⟩
    cases r with
    | @cons _ u _ _ rv rr =>
      cases rr
      exact ⟨I1.kIn, run_exv TC iC tI F1 hr (fun s a inK => hb s [.ref a, u] inK rfl) (.inl ⟨rfl, rfl⟩) I1 rv q⟩
theorem de_xk (T : ExcI X.prog X.w X.K X.mg X.base c f) (hr : Room 2 X.A) (he : DE X e g) (hg : Gl X c := by rfl) (hdb : (c == ("__debug__" : Str)) = false := by decide)
    (hall : (backToKw pos (keywordEach [⟨some f, e, kpos⟩] X.env)).all (·.1.isSome) = true := by rfl) (hks : (backToKw pos (keywordEach [⟨some f, e, kpos⟩] X.env)).filterMap (·.1) = [f] := by rfl)
    (hpl : ((backTo pos (starEach [] X.env)).any (·.1) || (backToKw pos (keywordEach [⟨some f, e, kpos⟩] X.env)).any (·.1.isNone)) = false := by rfl) : DE X (.Call (.Name c p) [] [⟨some f, e, kpos⟩] pos) (E.xv c f g) := by
  obtain ⟨C, fI, fd, hm, TC, hno, iC, tI, F1, hb, hk⟩ := T.ex
  refine ⟨fun B W tk => ⟨fun pins s σ H Q I h => ?_⟩⟩
  have h2 := tE_xv (T := ⟨X.K, X.mg⟩) hm h
  refine wpAny_Call_Name_kw (ld_glob I hg hm ?_ hdb)
  refine PySem.W.callWith_KW0 (h₀ := X.base) I.ok.mod.kin TC.kC hall ?_ hpl
  refine thn ((pk_cons (he.run B W tk) pk_nil).run pos pins s σ H (fun vs H1 => ∃ v, vs = [v] ∧ qMk C f v H1 Q) I ?_) ?_
  · refine (show tE _ B W g σ H _ from ?_)
    obtain ⟨G, env, S, h3⟩ := h2
    exact ⟨G, env, S, h3.mono (Same.refl G) fun a e' G' H' l k v r => ⟨v, rfl, k v r⟩⟩
  · rintro us s1 ⟨vs, H1, I1, r, v, rfl, q⟩
    rw [hks]
    cases r with
    | @cons _ u _ _ rv rr =>
      cases rr
      exact ⟨I1.kIn, run_exv (us := []) (kw := [(f, u)]) TC iC tI F1 hr (fun s a inK => hk s a u inK) (.inr ⟨rfl, f, rfl⟩) I1 rv q⟩
def E.x0 (c : Str) : FE := fun env => .ok (.dv (.exc0 c)) env
theorem de_x0 (T : ExcN X.K X.mg c) (hg : Gl X c := by rfl) (hdb : (c == ("__debug__" : Str)) = false := by decide) : DE X (.Call (.Name c p) [] [] pos) (E.x0 c) := by
  obtain ⟨C, hm, kp, ec⟩ := T.ex
  refine ⟨fun B W tk => ⟨fun pins s σ H Q I h => ?_⟩⟩
  obtain ⟨G, env, S, h⟩ := h
  refine wpAny_Call_Name_kw (ld_glob I hg hm ?_ hdb)
  refine PySem.W.callWith_K0 I.kIn kp ?_
  show wpAny _ _ (call (.ref C) []) _ _ _
  obtain ⟨bm, N, nm, qn, bs, hdct, sn, sub, ab, col, dd, k0, k1, k2, k3, k5, mN, hC, hN, hni, T⟩ := exc_obj I.kIn ec
  refine wpAny_call_exc_subT F.excBase_ValueError T hC hN hni (fun h' a hm2 => ?_) (by rw [sizeLine_eq]; simp)
  have hn : H a = none := I.hok.gone hm2.new
  obtain ⟨t, ht, _, _⟩ := hm2.there
  have nm0 : NM (ExO (.ref C) a) := fun n z => by
    have z' : HO.ext _ = HO.own n := z
    cases z'
  obtain ⟨S2, l2⟩ := S.new (o := ExO (.ref C) a) hn nm0
  exact ⟨.ref a, _, I.laidN hm2.keeps hm2.new hn (L2.exO_ok ht ⟨rfl, rfl⟩ rfl rfl rfl (show 4 < 6 by decide)), rfl, h _ _ S2 l2 _ (.exc0 hm (.inl upd_same))⟩
end
end DL
-- DL11
set_option maxRecDepth 100000
set_option maxHeartbeats 4000000
/-! DL11: isinstance of exceptions that are values, their fields. -/
namespace DL
open PySem PySem.Spec PyProof.Rows L2
def isE (cs : List Str) (b : Str) : D → Option D
  | .exc0 c => if c ∈ cs then some (.bl (subE c b)) else none
  | .exc1 c _ _ => if c ∈ cs then some (.bl (subE c b)) else none
  | _ => none
def isV (cs : List Str) : D → Option D
  | .exc0 c => if c ∈ cs then some (.bl true) else none
  | .exc1 c _ _ => if c ∈ cs then some (.bl true) else none
  | _ => none
def fldX (cs : List Str) (f : Str) : D → Option D
  | .exc1 c g v => if c ∈ cs ∧ g = f then some v else none
  | _ => none
section
variable {X : Cx} {pins : List (Addr × Obj)} {σ : St} {H : Hp} {s : Shared}
theorem instW {a C : Addr} {d : Option Addr} {od : Option Obj} (I : Inv X pins σ H s) (h : H a = some (exw a C d)) (hd : match d, od with
    | some d, some o => s.heap.get? d = some o
    | none, none => True
    | _, _ => False) : ∃ ox, PySem.W.InstAt s.heap a ox C od := by
  have y : ObjOk X.prog X.w H s.heap a (.ext fun h => ∃ (oe : Obj) (vs : Array Value), h.get? a = some oe ∧ Zc (.ref C) d oe ∧ oe.data = .fields vs) := I.hok a _ h
  obtain ⟨⟨oe, vs, e, z, dd⟩, _⟩ := y
  refine ⟨oe, e, z.1, ?_, ?_⟩
  · unfold PySem.W.notCls; rw [dd] <;> rfl
  · rw [z.2]
    cases d <;> cases od <;> first | exact hd.elim | exact hd
theorem inst0 {a C : Addr} (I : Inv X pins σ H s) (h : Ex0 H a C) : ∃ ox, PySem.W.InstAt s.heap a ox C none := by
  rcases h with h | h
  · have y : ObjOk X.prog X.w H s.heap a (.ext fun h => ∃ (oe : Obj) (vs : Array Value), h.get? a = some oe ∧ Zc (.ref C) none oe ∧ oe.data = .fields vs ∧ vs[1]? = some .none ∧ vs[2]? = some .none ∧ 4 < vs.size) := I.hok a _ h
    obtain ⟨⟨oe, vs, e, z, d, _⟩, _⟩ := y
    refine ⟨oe, e, z.1, ?_, ?_⟩
    · unfold PySem.W.notCls; rw [d] <;> rfl
    · rw [z.2]; exact True.intro
  · exact instW I h True.intro
theorem inst1 {a C dx : Addr} {f : Str} {v : V} (I : Inv X pins σ H s) (h : Ex1 H a C dx) (h2 : Xd1 H dx [(f, v)]) : ∃ (ox od : Obj) (mA : Str → Option Value), PySem.W.InstAt s.heap a ox C (some od) ∧ (∀ g, PySem.W.lookIn g od = some (mA g)) ∧ ∀ g, RelO (([(f, v)] : List (Str × V)).lookup g) (mA g) := by
  have hd : ∃ mA, s.heap.Ns1 dx mA ∧ ∀ g, RelO (([(f, v)] : List (Str × V)).lookup g) (mA g) := by
    rcases h2 with h2 | h2
    · exact exd_at I.hok h2
    · have y : ObjOk X.prog X.w H s.heap dx (.xd [(f, v)]) := I.hok dx _ h2
      exact y
  obtain ⟨mA, hns, rel⟩ := hd
  obtain ⟨od, ho, hl⟩ := lookIn_ns hns
  rcases h with h | h
  · obtain ⟨t1, e⟩ := exo_at I.hok h
    exact ⟨_, od, mA, ⟨e, rfl, rfl, ho⟩, hl, rel⟩
  · obtain ⟨ox, J⟩ := instW (od := some od) I h ho
    exact ⟨ox, od, mA, J, hl, rel⟩
theorem XC.kit {C a : Addr} {ox : Obj} {od : Option Obj} (x : XC X.K C) : PySem.W.KitX X.K (.ref a) (.ref C) (fun h => PySem.W.InstAt h a ox C od) := PySem.W.kitx_exc x.cl x.ga x.gt x.sb x.ca x.cg x.ct x.mr
/-- isinstance of such a thing, by the table -/
theorem isi_exc {cs : List Str} {d : D} {G : Hp} {v : V} {u : Value} {c2 : Value} {ans : Str → Bool} {z : Bool} {Q : Value → Shared → Prop} {E : Value → Shared → Prop} (I : Inv X pins σ H s) (T : ErrT X.K X.mg cs) (l : Le G H) (o : ORel ⟨X.K, X.mg⟩ G H v d) (rv : RelV v u)
    (hc : ∀ c ∈ cs, ∀ C, X.mg c = some (.ref C) → PySem.W.kitOne X.K (.ref C) c2 = some (ans c)) (hd : ∃ c, (d = .exc0 c ∨ ∃ f x, d = .exc1 c f x) ∧ c ∈ cs ∧ ans c = z) (q : ∀ tk, Q (.bool z) { s with toks := tk }) :
    wpAny (model X.prog X.w) X.A (call (.builtin "isinstance") [u, c2]) Q E s := by
  obtain ⟨c, hd, hm, hz⟩ := hd
  rcases hd with rfl | ⟨f, x, rfl⟩
  · rcases o with o | ⟨p, _, y⟩
    · cases o with
      | exc0 hc0 h =>
        cases (show u = Value.ref _ from rv)
        obtain ⟨ox, J⟩ := inst0 I (h.le l)
        exact PySem.W.kia_one (T.xc c hm _ hc0).kit I.kIn J (by rw [hc c hm _ hc0, hz]) (fun z => nomatch z) q
    · exact y.elim
  · rcases o with o | ⟨p, _, y⟩
    · cases o with
      | exc1 hc0 h h2 r =>
        cases (show u = Value.ref _ from rv)
        obtain ⟨ox, od, mA, J, _⟩ := inst1 I (h.le l) (h2.le l)
        exact PySem.W.kia_one (T.xc c hm _ hc0).kit I.kIn J (by rw [hc c hm _ hc0, hz]) (fun z => nomatch z) q
    · exact y.elim
end
theorem lookup_one {f : Str} {v : V} : ([(f, v)] : List (Str × V)).lookup f = some v := by simp [List.lookup]
section
variable {X : Cx} {b f : Str} {e : Expr} {g : FE} {p p2 pos : Pos} {cs : List Str}
theorem c_isE (T : ErrT X.K X.mg cs) (hb : b ∈ cs) {D0 : Addr} (hm : X.mg b = some (.ref D0)) : CallR X (.builtin "isinstance") (fun vs H Q => ∃ v, vs = [v, .ref D0] ∧ r1D ⟨X.K, X.mg⟩ (isE cs b) v H Q) := by
  intro pins s σ H xs us Q I r ⟨v, e, G, d, z, l, o, hz, k⟩
  subst e
  cases r with
  | @cons _ u _ _ rv rr =>
    cases rr with
    | @cons _ u2 _ _ rv2 rr =>
      cases rr
      cases (show u2 = Value.ref D0 from rv2)
      have key : ∀ c, (d = .exc0 c ∨ ∃ f x, d = .exc1 c f x) → c ∈ cs → z = .bl (subE c b) → wpAny (model X.prog X.w) X.A (call (.builtin "isinstance") [u, .ref D0]) (EP X pins σ Q) X.xe s := fun c h1 h2 h3 => by
        subst h3
        exact isi_exc (ans := fun c => subE c b) I T l o rv (fun c hc C hC => T.is c hc b hb C D0 hC hm) ⟨c, h1, h2, rfl⟩ fun tk => ⟨.bl _, H, I.tok tk, rfl, Kont.same k l (.bl _)⟩
      unfold isE at hz
      split at hz
      · split at hz
        · rename_i c hc; cases hz; exact key c (.inl rfl) hc rfl
        · cases hz
      · split at hz
        · rename_i c _ _ hc; cases hz; exact key c (.inr ⟨_, _, rfl⟩) hc rfl
        · cases hz
      · cases hz
theorem c_isV (T : ErrT X.K X.mg cs) : CallR X (.builtin "isinstance") (fun vs H Q => ∃ v, vs = [v, .ty "ValueError"] ∧ r1D ⟨X.K, X.mg⟩ (isV cs) v H Q) := by
  intro pins s σ H xs us Q I r ⟨v, e, G, d, z, l, o, hz, k⟩
  subst e
  cases r with
  | @cons _ u _ _ rv rr =>
    cases rr with
    | @cons _ u2 _ _ rv2 rr =>
      cases rr
      cases (show u2 = Value.type "ValueError" from rv2)
      have key : ∀ c, (d = .exc0 c ∨ ∃ f x, d = .exc1 c f x) → c ∈ cs → z = .bl true → wpAny (model X.prog X.w) X.A (call (.builtin "isinstance") [u, .type "ValueError"]) (EP X pins σ Q) X.xe s := fun c h1 h2 h3 => by
        subst h3
        exact isi_exc (ans := fun _ => true) I T l o rv (fun c hc C hC => (T.xc c hc C hC).ve) ⟨c, h1, h2, rfl⟩ fun tk => ⟨.bl _, H, I.tok tk, rfl, Kont.same k l (.bl _)⟩
      unfold isV at hz
      split at hz
      · split at hz
        · rename_i c hc; cases hz; exact key c (.inl rfl) hc rfl
        · cases hz
      · split at hz
        · rename_i c _ _ hc; cases hz; exact key c (.inr ⟨_, _, rfl⟩) hc rfl
        · cases hz
      · cases hz
theorem de_isE (T : ErrT X.K X.mg cs) (hb : b ∈ cs) (hmb : ∃ D0, X.mg b = some (.ref D0)) (hm : X.mg "isinstance" = none) (he : DE X e g) (hgb : Gl X b := by rfl) (hg : Gl X "isinstance" := by rfl) (hdb : (b == ("__debug__" : Str)) = false := by decide)
    (hs : starEach [e, .Name b p2] X.env = (false, eval e X.env) :: starEach [.Name b p2] X.env := by rfl) (hs2 : starEach [.Name b p2] X.env = (false, eval (.Name b p2) X.env) :: starEach [] X.env := by rfl) (hpl : (backTo pos (starEach [.Name b p2] X.env)).any (·.1) = false := by rfl) :
    DE X (.Call (.Name "isinstance" p) [e, .Name b p2] [] pos) (E.c1 (isE cs b) g) := by
  obtain ⟨D0, hmb⟩ := hmb
  refine ⟨fun B W tk => (pe_callB (c_isE T hb hmb) hg hm (by decide +kernel) (pa_cons (he.run B W tk) (pa_cons (pe_glob (v := .ref D0) hgb hmb rfl hdb) pa_nil hs2) hs) (by decide) (by decide) hs hpl).imp fun σ H Q h => ?_⟩
  obtain ⟨G, env, S, h2⟩ := tE_u1 h
  exact ⟨G, env, S, h2.mono (Same.refl G) fun a e' G' H' l k v r => ⟨v, rfl, k v r⟩⟩
theorem de_isV (T : ErrT X.K X.mg cs) (hmb : X.mg "ValueError" = none) (hm : X.mg "isinstance" = none) (he : DE X e g) (hgb : Gl X "ValueError" := by rfl) (hg : Gl X "isinstance" := by rfl)
    (hs : starEach [e, .Name "ValueError" p2] X.env = (false, eval e X.env) :: starEach [.Name "ValueError" p2] X.env := by rfl) (hs2 : starEach [.Name "ValueError" p2] X.env = (false, eval (.Name "ValueError" p2) X.env) :: starEach [] X.env := by rfl) (hpl : (backTo pos (starEach [.Name "ValueError" p2] X.env)).any (·.1) = false := by rfl) :
    DE X (.Call (.Name "isinstance" p) [e, .Name "ValueError" p2] [] pos) (E.c1 (isV cs) g) := by
  refine ⟨fun B W tk => (pe_callB (c_isV T) hg hm (by decide +kernel) (pa_cons (he.run B W tk) (pa_cons (pe_bltn (v := .ty "ValueError") (u := .type "ValueError") hgb hmb (by decide +kernel) rfl) pa_nil hs2) hs) (by decide) (by decide) hs hpl).imp fun σ H Q h => ?_⟩
  obtain ⟨G, env, S, h2⟩ := tE_u1 h
  exact ⟨G, env, S, h2.mono (Same.refl G) fun a e' G' H' l k v r => ⟨v, rfl, k v r⟩⟩
theorem de_fldX (T : ErrT X.K X.mg cs) (hno : ∀ c ∈ cs, ∀ C, X.mg c = some (.ref C) → PySem.W.findIn X.K (.ref C) f = some none) (he : DE X e g) (hb : attributeBase e f X.env (eval e X.env) = eval e X.env := by rfl) : DE X (.Attribute e f pos) (E.c1 (fldX cs f) g) := by
  refine ⟨fun B W tk => ⟨fun pins s σ H Q I h => ?_⟩⟩
  obtain ⟨G, env, S, h2⟩ := tE_u1 h
  refine attr_of hb (thn (he.run B W tk |>.run pins s σ H (fun v H1 => r1D ⟨X.K, X.mg⟩ (fldX cs f) v H1 Q) I ⟨G, env, S, h2⟩) ?_)
  rintro u s1 ⟨v, H1, I1, rv, G2, d, z, l, o, hz, k⟩
  unfold fldX at hz
  split at hz
  · split at hz
    · rename_i c g0 x hc
      obtain ⟨hc, rfl⟩ := hc
      cases hz
      rcases o with o | ⟨p, _, y⟩
      · cases o with
        | exc1 hc0 h h3 r =>
          cases (show u = Value.ref _ from rv)
          obtain ⟨ox, od, mA, J, hl, rel⟩ := inst1 I1 (h.le l) (h3.le l)
          have xc := T.xc c hc _ hc0
          have rg := rel g0
          rw [show ([(g0, _)] : List (Str × V)).lookup g0 = some _ from lookup_one] at rg
          obtain ⟨uu, hu, ru⟩ := RelO.some_of rg
          exact HandSPX.exc_get I1.kIn J xc.ga xc.gt xc.sb (PySem.W.findObj_own xc.hd (hno c hc _ hc0) rfl (by rw [hl, hu])) (handed_of ru) ⟨_, H1, I1.tok _, ru, Kont.same k l r⟩
      · exact y.elim
    · cases hz
  · cases hz
end
end DL
-- DL12
set_option maxRecDepth 100000
set_option maxHeartbeats 4000000
/-! DL12: small words for the printed proofs. -/
namespace DL
open PySem PySem.Spec PyProof.Rows L2
structure FunAt (K : PySem.W.Frag) (mg : Str → Option Value) (x : Str) (st : Stmt) : Prop where
  ex : ∃ f fd, mg x = some (.ref f) ∧ FunD K x x (defArgs st) (defBody st) (defScope st) [] [] f fd
theorem un_lt {k : Nat} {A : Around} (r : Room k A) (n : Nat) (hn : n ≤ 200) : A.units + n < cLine := by
  have := r.un
  omega
theorem un_lt0 {k : Nat} {A : Around} (r : Room k A) : A.units < cLine := by
  have := r.un
  omega
structure ErrAll (cs fs : List Str) (K : PySem.W.Frag) (mg : Str → Option Value) : Prop where
  t : ErrT K mg cs
  no : ∀ f, f ∈ fs → ∀ c ∈ cs, ∀ C, mg c = some (.ref C) → PySem.W.findIn K (.ref C) f = some none
  m : ∀ c, c ∈ cs → ∃ D0, mg c = some (.ref D0)
end DL
-- DL13
set_option maxRecDepth 100000
set_option maxHeartbeats 4000000
/-! DL13: facts of the head: defs, error classes. -/
namespace DL
open PySem PySem.Spec PyProof.Rows L2 He
/-- He's hook of facts and defs, with a Bool of one's own -/
def hookQ (n : Nat) (fa : List Fa) (fn : List DefD) (ex : PySem.W.Frag → Bool) : PySem.W.Hook where
  α := AlD × Bool
  obs := fun s => (fun K => (obsD fa fn K, ex K)) (frG s.heap.get? (asD s.heap.get? n))
  val := fun _ => (valD fn, true)
  says := fun _ h => ∃ K : PySem.W.Frag, K.In h ∧ SaysD fa fn K ∧ ex K = true
  of := fun _ _ e => ⟨_, frG_in, congrArg (fun z : AlD × Bool => z.1) e, congrArg (fun z : AlD × Bool => z.2) e⟩
  keeps := fun _ _ _ ⟨K, hK, c⟩ k => ⟨K, PySem.W.Frag.In.keeps hK k, c⟩
def obQ (n : Nat) (fa : List Fa) (fn : List DefD) (ex : PySem.W.Frag → Bool) (g : Addr → Option Obj) : AlD × Bool := (fun K => (obsD fa fn K, ex K)) (frG g (asD g n))
theorem obQ_eq {n : Nat} {fa : List Fa} {fn : List DefD} {ex : PySem.W.Frag → Bool} {g : Addr → Option Obj} {s : Shared} (h : ∀ a, g a = s.heap.get? a) : obQ n fa fn ex g = (hookQ n fa fn ex).obs s := by
  have e : g = s.heap.get? := funext h
  rw [e] <;> rfl
section
variable {fa : List Fa} {fn : List DefD} {K : PySem.W.Frag}
theorem fact_of (c : SaysD fa fn K) {f : Fa} (h : f ∈ fa) : f.ok K = true := by
  obtain ⟨i, hi, e⟩ := List.mem_iff_getElem.mp h
  exact c.fact i (f := f) (by rw [List.getElem?_eq_getElem hi, e])
theorem defs_of (c : SaysD fa fn K) {d : DefD} (h : d ∈ fn) : ∃ fd, FunD K d.name d.qual d.params d.body d.scope (d.dvs K) (d.kws K) (fAd K d.at_) fd := by
  obtain ⟨i, hi, e⟩ := List.mem_iff_getElem.mp h
  exact c.def_ i (d := d) (by rw [List.getElem?_eq_getElem hi, e])
end
/-- a def of the top -/
def defT (x : Str) (st : Stmt) : DefD := ⟨(x, none), x, x, defArgs st, defBody st, defScope st, [], []⟩
/-- a method -/
def defM (c m q : Str) (st : Stmt) : DefD := ⟨(c, some m), m, q, defArgs st, defBody st, defScope st, [], []⟩
theorem funAt_of {fa : List Fa} {fn : List DefD} {K : PySem.W.Frag} {h : Heap} {mg : Str → Option Value} (X : K.In h) (G : h.Ns mainGlobals mg) (c : SaysD fa fn K) (x : Str) (st : Stmt) (i j : Nat) (h1 : fa[i]? = some (.glo x)) (h2 : fn[j]? = some (defT x st)) : FunAt K mg x st := by
  obtain ⟨fd, F⟩ := c.def_ j (d := defT x st) h2
  exact ⟨⟨_, fd, glo_ok X G (c.fact i (f := .glo x) h1), F⟩⟩
/-! ### error classes -/
def oexB (K : PySem.W.Frag) (C : Addr) : Bool := (match K.lookup C with
  | some ⟨.type "type", _, .cls cd, sl⟩ => (match cd.mro, sl.toList with
    | .ref C' :: bm, [_, _, _, _, some (.builtin n), _] => C' == C && n == "ValueError.__new__" && !cd.hasDel && cd.hasDict && PySem.HandSPX.refsVE bm
    | _, _ => false)
  | _ => false) && decide (PySem.W.findIn K (.ref C) "__setattr__" = some (some (.builtin "object.__setattr__"))) && decide (PySem.W.subIn K (.ref C) (.type "BaseException") = some true) && decide (PySem.W.typeIn K (.ref C) = some (.type "type")) && PySem.W.keepIn K (.ref C)
theorem oexB_ok {K : PySem.W.Frag} {C : Addr} (h : oexB K C = true) : OexC K C := by
  unfold oexB at h
  simp only [Bool.and_eq_true, decide_eq_true_eq] at h
  obtain ⟨⟨⟨⟨h0, h1⟩, h2⟩, h3⟩, h4⟩ := h
  refine ⟨?_, h1, h2, h3, h4⟩
  split at h0
  · rename_i dd cd sl ho
    split at h0
    · rename_i C' bm k0 k1 k2 k3 n k5 hm hs
      simp only [Bool.and_eq_true, beq_iff_eq, Bool.not_eq_true'] at h0
      obtain ⟨⟨⟨⟨rfl, rfl⟩, hdel⟩, hdi⟩, hv⟩ := h0
      obtain ⟨nm, bs, mro, ns, qn, hd, sn, sub, ab, col, del⟩ := cd
      dsimp only at hm hdel hdi
      subst hm hdel hdi
      obtain ⟨l⟩ := sl
      dsimp only at hs
      subst hs
      exact ⟨nm, qn, ns, bs, bm, sn, sub, ab, col, dd, k0, k1, k2, k3, k5, ho, hv⟩
    · cases h0
  · cases h0
def initB (K : PySem.W.Frag) (c f : Str) : Bool := oexB K (ga K c) && eqO (PySem.W.findIn K (.ref (ga K c)) "__init__") (some (some (.ref (ma K (ga K c) "__init__")))) && decide (PySem.W.typeIn K (.ref (ma K (ga K c) "__init__")) = some (.type "function")) && eqO (PySem.W.findIn K (.ref (ga K c)) f) (some none)
def errB (K : PySem.W.Frag) (cs fs : List Str) : Bool := cs.all fun c => eqO (PySem.W.nsIn K mainGlobals c) (some (some (.ref (ga K c)))) && (xcB K (ga K c) && (cs.all (fun b => decide (PySem.W.kitOne K (.ref (ga K c)) (.ref (ga K b)) = some (subE c b))) && fs.all fun f => eqO (PySem.W.findIn K (.ref (ga K c)) f) (some none)))
section
variable {K : PySem.W.Frag} {h : Heap} {mg : Str → Option Value} {base : Heap} {P : Program} {w : World}
theorem errAll_of (X : K.In h) (G : h.Ns mainGlobals mg) {cs fs : List Str} (e : errB K cs fs = true) : ErrAll cs fs K mg := by
  have at_ : ∀ c ∈ cs, mg c = some (.ref (ga K c)) ∧ xcB K (ga K c) = true ∧ (∀ b ∈ cs, PySem.W.kitOne K (.ref (ga K c)) (.ref (ga K b)) = some (subE c b)) ∧ ∀ f ∈ fs, PySem.W.findIn K (.ref (ga K c)) f = some none := fun c hc => by
    obtain ⟨e1, e2⟩ := ba (List.all_eq_true.mp e c hc)
    obtain ⟨e2, e3⟩ := ba e2
    obtain ⟨e3, e4⟩ := ba e3
    exact ⟨PySem.W.mg_of X G (eqO_ok e1), e2, fun b hb => of_decide_eq_true (List.all_eq_true.mp e3 b hb), fun f hf => eqO_ok (List.all_eq_true.mp e4 f hf)⟩
  refine ⟨⟨fun c hc C hC => ?_, fun c hc b hb C D hC hD => ?_⟩, fun f hf c hc C hC => ?_, fun c hc => ⟨_, (at_ c hc).1⟩⟩
  · rw [(at_ c hc).1] at hC; cases hC; exact xcB_ok (at_ c hc).2.1
  · rw [(at_ c hc).1] at hC; cases hC
    rw [(at_ b hb).1] at hD; cases hD
    exact (at_ c hc).2.2.1 b hb
  · rw [(at_ c hc).1] at hC; cases hC; exact (at_ c hc).2.2.2 f hf
theorem excN_of (X : K.In h) (G : h.Ns mainGlobals mg) {c : Str} (h1 : (Fa.glo c).ok K = true) (h2 : (Fa.exc c).ok K = true) : ExcN K mg c := ⟨⟨_, glo_ok X G h1, (exc_ok h2).2.1, (exc_ok h2).1⟩⟩
theorem excI_of (X : K.In h) (G : h.Ns mainGlobals mg) {c f q : Str} {st : Stmt} {fd : FuncData} (h1 : (Fa.glo c).ok K = true) (h2 : initB K c f = true) (Fd : FunD K "__init__" q (defArgs st) (defBody st) (defScope st) [] [] (ma K (ga K c) "__init__") fd) (S : FnScope ["self", f] ["self", f] (defScope st))
    (hb : ∀ (cdv : Value) (A : Around) (outer : List Env) (s : Shared) (H : Hp) (E : XK), PSs (cxOf CX0 P w K mg base ["self", f] q (defScope st) (ma K (ga K c) "__init__") cdv A outer s H E).nox (defBody st) (tOst K f (tVar 0) (tVar 1)))
    (b1 : ∀ (kV doc pm : Value) (an : Option Addr) (cdv ct : Value) (us : List Value), us.length = 2 → bindArgs (PySem.W.fnOf "__init__" q (defArgs st) (defBody st) (defScope st) .none kV doc pm an cdv ct) ⟨us, []⟩ = pure ([("self" : Str), f].zip us))
    (b2 : ∀ (kV doc pm : Value) (an : Option Addr) (cdv ct : Value) (a : Addr) (u : Value), bindArgs (PySem.W.fnOf "__init__" q (defArgs st) (defBody st) (defScope st) .none kV doc pm an cdv ct) ⟨[.ref a], [(f, u)]⟩ = pure [(("self" : Str), .ref a), (f, u)]) : ExcI P w K mg base c f := by
  unfold initB at h2
  obtain ⟨h2, h6⟩ := ba h2
  obtain ⟨h2, h5⟩ := ba h2
  obtain ⟨h3, h4⟩ := ba h2
  refine ⟨⟨_, _, fd, glo_ok X G h1, oexB_ok h3, eqO_ok h6, eqO_ok h4, of_decide_eq_true h5, ok_init Fd (oexB_ok h3) (eqO_ok h6) S hb, Fd.bindsN b1, fun s a u _ => ?_⟩⟩
  obtain ⟨oc, od, dV, kV, doc, pm, an, cdv, ct, osl, rfl, lk, hcd, hD, hK⟩ := Fd.ex
  rcases hD with ⟨_, rfl⟩ | ⟨e, _⟩
  · exact .of_eq (b2 kV doc pm an cdv ct a u)
  · exact absurd rfl e
end
end DL
-- DL14
set_option maxRecDepth 100000
set_option maxHeartbeats 4000000
/-! DL14: instances in the store: fields read, fields set. -/
namespace DL
open PySem PySem.Spec PyProof.Rows L2
/-- a class of the program whose instances have plain fields fs -/
structure ObjT (K : PySem.W.Frag) (mg : Str → Option Value) (c : Str) (fs : List Str) : Prop where
  ex : ∃ C, mg c = some (.ref C) ∧ Cls K C ∧ ∀ f ∈ fs, NoAttr K C f
def fldL : List Str → List D → Str → Option D
  | k :: ks, d :: ds, x => if x = k then some d else fldL ks ds x
  | _, _, _ => none
def putL (x : Str) (d : D) : List Str → List D → List Str × List D
  | k :: ks, e :: es => if k = x then (k :: ks, d :: es) else (k :: (putL x d ks es).1, e :: (putL x d ks es).2)
  | _, _ => ([x], [d])
theorem fldL_look {T : Stt} {G : Hp} {x : Str} {d : D} : ∀ {kvs : List (Str × V)} {ds : List D}, VRels T G (kvs.map (·.2)) ds → fldL (kvs.map (·.1)) ds x = some d → ∃ v, kvs.lookup x = some v ∧ VRel T G v d
  | [], ds, r, h => by simp [fldL] at h
  | (k, v) :: kvs, _, .cons (d := e) (ds := es) r rs, h => by
    rw [List.map_cons, fldL] at h
    by_cases q : x = k
    · rw [if_pos q] at h
      cases h
      exact ⟨v, by simp [List.lookup, q], r⟩
    · rw [if_neg q] at h
      obtain ⟨w, h1, h2⟩ := fldL_look rs h
      refine ⟨w, ?_, h2⟩
      have : (x == k) = false := by simpa using q
      simp [List.lookup, this, h1]
theorem putL_put {T : Stt} {G : Hp} {x : Str} {v : V} {d : D} (rv : VRel T G v d) : ∀ {kvs : List (Str × V)} {ds : List D}, VRels T G (kvs.map (·.2)) ds → (putF x v kvs).map (·.1) = (putL x d (kvs.map (·.1)) ds).1 ∧ VRels T G ((putF x v kvs).map (·.2)) (putL x d (kvs.map (·.1)) ds).2
  | [], _, .nil => ⟨rfl, .cons rv .nil⟩
  | (k, w) :: kvs, _, .cons (d := e) (ds := es) r rs => by
    obtain ⟨h1, h2⟩ := putL_put (x := x) rv rs
    rw [putF, List.map_cons, putL]
    by_cases q : k = x
    · rw [if_pos q, if_pos q]
      exact ⟨rfl, .cons rv rs⟩
    · rw [if_neg q, if_neg q]
      exact ⟨by rw [List.map_cons, h1], .cons r h2⟩
/-- the field x of an instance of the store -/
def fldP (c : Str) (fs : List Str) (x : Str) (n : Nat) : Option (List D) → Option D
  | some M => match M[n]? with
    | some (.obj c' ks ds) => if c' = c ∧ x ∈ fs then fldL ks ds x else none
    | _ => none
  | none => none
def E.fldO (c : Str) (fs : List Str) (x : Str) (f : FE) : FE := fun env => (f env).bind fun a e => match a with
  | .dv (.ptr n) => match fldP c fs x n (stoOf e) with
    | some d => .ok (.dv d) e
    | none => .stk
  | _ => .stk
/-- o.x = v -/
def S.fld (c : Str) (fs : List Str) (x : Str) (fo fv : FE) : FS := fun env => (fv env).toS fun a e => match frz e a with
  | some (d, e2) => (fo e2).toS fun b e3 => match b, stoOf e3 with
    | .dv (.ptr n), some M => match M[n]? with
      | some (.obj c' ks ds) => if c' = c ∧ x ∈ fs ∧ ks.length < 1000 then .nx (setSto e3 (M.set n (.obj c (putL x d ks ds).1 (putL x d ks ds).2))) else .stk
      | _ => .stk
    | _, _ => .stk
  | none => .stk
section
variable {X : Cx} {e value : Expr} {pos p2 : Pos} {x c : Str} {fs : List Str}
theorem de_fldO {f : FE} (w : ObjT X.K X.mg c fs) (he : DE X e f) (hb : attributeBase e x X.env (eval e X.env) = eval e X.env := by rfl) : DE X (.Attribute e x pos) (E.fldO c fs x f) := by
  refine ⟨fun B W tk => (pe_fld (he.run B W tk) hb).imp fun σ H Q h => ?_⟩
  obtain ⟨G, env, S, h⟩ := h
  refine ⟨G, env, S, ?_⟩
  unfold E.fldO at h
  cases q : f env with
  | stk => simp [q, oE] at h
  | exc x e' => simp only [q, Out.bind_exc] at h; exact h
  | ok a e1 =>
    simp only [q, Out.bind_ok] at h
    refine fun G1 H1 S1 l1 v1 r1 => ?_
    split at h
    · rename_i n
      cases hz : fldP c fs x n (stoOf e1) with
      | none => simp [hz, oE] at h
      | some d =>
        simp only [hz] at h
        cases hM : stoOf e1 with
        | none => rw [hM] at hz; cases hz
        | some M =>
          rw [hM] at hz
          unfold fldP at hz
          dsimp only at hz
          split at hz
          · rename_i c' ks ds hd
            split at hz
            · rename_i hc
              obtain ⟨rfl, hx⟩ := hc
              obtain ⟨p, rfl, hp, hm⟩ := S1.stoAt hM hd r1
              rcases hm with hm | ⟨c2, ks2, xs2, C, dx, kvs, z, mc, hh, hk, rr⟩ | hm
              · exact hm.elim
              rotate_left
              · obtain ⟨_, z, _⟩ := hm
                cases z
              · cases z
                obtain ⟨C0, m0, cl, na⟩ := w.ex
                have mc' : X.mg c' = some (.ref C) := mc
                rw [m0] at mc'
                cases mc'
                rw [← hk] at hz
                obtain ⟨v, hv, rv⟩ := fldL_look rr hz
                exact ⟨p, C, dx, kvs, v, rfl, hh, cl, na x hx, hv, h G1 H1 S1 l1 v rv⟩
            · cases hz
          · cases hz
    · exact h.elim
theorem ds_fld {fo fv : FE} (w : ObjT X.K X.mg c fs) (ho : DE X e fo) (hv : DE X value fv) (hs : swapsWith value (some (.Attribute e x p2)) pos.line X.env = pure false := by rfl) : DS X (.Assign [.Attribute e x p2] value pos) (S.fld c fs x fo fv) := by
  refine ⟨fun B W tk ps => (ps_fld (ho.run B W tk) (hv.run B W tk) hs).imp fun De σ H q => ?_⟩
  obtain ⟨G, env, Sr, q⟩ := q
  refine ⟨G, env, Sr, oS_toS q fun a e1 G1 H1 S1 l1 k v r => ?_⟩
  cases qf : frz e1 a with
  | none => simp [qf, oS] at k
  | some pr =>
    obtain ⟨d, e2⟩ := pr
    simp only [qf] at k
    obtain ⟨G2, S2, l2, rv⟩ := S1.frz r qf
    refine ⟨G2, e2, S2, oS_toS (k.mono l2) fun b e3 G3 H3 S3 l3 kk w2 r2 => ?_⟩
    split at kk
    · rename_i n M hM
      split at kk
      · rename_i c' ks ds hd
        split at kk
        · rename_i hc
          obtain ⟨rfl, hx, hl⟩ := hc
          obtain ⟨p, rfl, hp, hm⟩ := S3.stoAt hM hd r2
          rcases hm with hm | ⟨c2, ks2, xs2, C, dx, kvs, z, mc, hh, hk, rr⟩ | hm
          · exact hm.elim
          rotate_left
          · obtain ⟨_, z, _⟩ := hm
            cases z
          · cases z
            obtain ⟨C0, m0, cl, na⟩ := w.ex
            have mc' : X.mg c' = some (.ref C) := mc
            rw [m0] at mc'
            cases mc'
            refine ⟨p, C, dx, kvs, rfl, hh, cl, na x hx, by rw [← hk] at hl; simpa using hl, ?_⟩
            obtain ⟨g1, g2⟩ := putL_put (x := x) (rv.same l3) rr
            rw [hk] at g1 g2
            exact kk σ G3 _ (S3.updP hM hp (.inr (.inl ⟨c', _, _, C, dx, _, rfl, mc, upd_same, g1, g2⟩))) (Same.refl G3)
        · exact kk.elim
      · exact kk.elim
    · exact kk.elim
end
end DL
-- DL15
set_option maxRecDepth 100000
set_option maxHeartbeats 4000000
/-! DL15: methods of instances of the store; new instances. -/
namespace DL
open PySem PySem.Spec PyProof.Rows L2
/-- a method that keeps its promise F -/
structure MethOk (P : Program) (w : World) (K : PySem.W.Frag) (mg : Str → Option Value) (base : Heap) (c m : Str) (k : Nat) (F : FM) : Prop where
  ex : ∃ C f fd ps, mg c = some (.ref C) ∧ Cls K C ∧ Meth K C m f ∧ Binds K fd ps [] ∧ FnOk P w K mg base (L2.CX P w) k f fd ps (spM ⟨K, mg⟩ F)
def keysO (c m : Str) (n : Nat) : Option (List D) → Bool
  | some M => match M[n]? with
    | some (.obj c' ks _) => decide (c' = c) && !ks.contains m
    | _ => false
  | none => false
def callF (F : FM) (n : Nat) (g : FA) (e1 : Ev) : Out EV := (g e1).bind fun vs e2 => match stoOf e2 with
  | some M2 => match F M2 (.ptr n :: vs) with
    | .ok z M' => .ok (.dv z) (setSto e2 M')
    | .exc x M' => .exc x (setSto e2 M')
    | .stk => .stk
  | none => .stk
def E.meth (c m : Str) (F : FM) (fo : FE) (g : FA) : FE := fun env => (fo env).bind fun a e1 => match a with
  | .dv (.ptr n) => if keysO c m n (stoOf e1) = true then callF F n g e1 else .stk
  | _ => .stk
theorem look_none {m : Str} : ∀ {kvs : List (Str × V)}, (kvs.map (·.1)).contains m = false → kvs.lookup m = none
  | [], _ => rfl
  | (k, v) :: r, h => by
    simp only [List.map_cons, List.contains_cons, Bool.or_eq_false_iff] at h
    simp only [List.lookup, h.1]
    exact look_none h.2
/-- what stands behind the object's evaluation -/
theorem obj_at {T : Stt} {B : Bse} {G H : Hp} {σ : St} {e : Ev} {c m : Str} {n : Nat} {v : V} (S : StR T B G H σ e) (h : keysO c m n (stoOf e) = true) (r : VRel T G v (.ptr n)) : ∃ a C dx kvs, v = .ref a ∧ T.mg c = some (.ref C) ∧ H a = some (.ins C dx kvs) ∧ kvs.lookup m = none := by
  cases hM : stoOf e with
  | none => rw [hM] at h; cases h
  | some M =>
    rw [hM] at h
    unfold keysO at h
    dsimp only at h
    split at h
    · rename_i c' ks ds hd
      simp only [Bool.and_eq_true, decide_eq_true_eq, Bool.not_eq_true'] at h
      obtain ⟨rfl, h2⟩ := h
      obtain ⟨p, rfl, hp, hm⟩ := S.stoAt hM hd r
      rcases hm with hm | ⟨c2, ks2, xs2, C, dx, kvs, z, mc, hh, hk, rr⟩ | hm
      · exact hm.elim
      rotate_left
      · obtain ⟨_, z, _⟩ := hm
        cases z
      · cases z
        exact ⟨p, C, dx, kvs, rfl, mc, hh, look_none (by rw [hk]; exact h2)⟩
    · cases h
theorem callF_ok {T : Stt} {B : Bse} {W : WX} {F : FM} {n : Nat} {g : FA} {G H : Hp} {σ : St} {e : Ev} {v : V} {R : EV → Ev → Hp → Hp → Prop} {Q : VK} (S : StR T B G H σ e) (r : VRel T G v (.ptr n)) (h : oE T B W σ G (callF F n g e) R) (m : ∀ z e' G' H' u, StR T B G' H' σ e' → R (.dv z) e' G' H' → VRel T G' u z → Q u H') :
    tAr T B W g σ H fun vs H1 => spM T F (v :: vs) H1 Q (WE W σ) := by
  refine ⟨G, e, S, ?_⟩
  unfold callF at h
  cases q : g e with
  | stk => simp [q, oE] at h
  | exc x e' => simp only [q, Out.bind_exc] at h; exact h
  | ok ds e1 =>
    simp only [q, Out.bind_ok] at h
    cases hM : stoOf e1 with
    | none => simp [hM, oE] at h
    | some M =>
      simp only [hM] at h
      refine fun G1 H1 S1 l1 vs r1 => ⟨G1, .ptr n :: ds, M, S1.gh, S1.bz hM, .cons (r.same l1) r1, ?_⟩
      cases qz : F M (.ptr n :: ds) with
      | stk => simp [qz, oE] at h
      | ok z M' =>
        simp only [qz] at h
        exact fun u G' H' P rv => m z _ G' H' u (S1.afterM hM P) (h G' H' (S1.afterM hM P) (l1.trans P.g)) rv
      | exc x M' =>
        simp only [qz] at h
        exact fun cls d G' H' P rx => h cls d G' H' (S1.afterM hM P) (l1.trans P.g) rx
section
variable {X : Cx} {c m : Str} {o e : Expr} {es : List Expr} {apos pos : Pos} {k : Nat} {F : FM} {fo : FE} {g : FA}
theorem tE_meth {T : Stt} {B : Bse} {W : WX} {σ : St} {H : Hp} {Q : VK} (h : tE T B W (E.meth c m F fo g) σ H Q) :
    tE T B W fo σ H fun x H1 => ∃ a C dx fs, x = .ref a ∧ T.mg c = some (.ref C) ∧ H1 a = some (.ins C dx fs) ∧ fs.lookup m = none ∧ tAr T B W g σ H1 fun vs H2 => spM T F (x :: vs) H2 Q (WE W σ) := by
  obtain ⟨G, env, S, h⟩ := h
  refine ⟨G, env, S, ?_⟩
  unfold E.meth at h
  cases q : fo env with
  | stk => simp [q, oE] at h
  | exc x e' => simp only [q, Out.bind_exc] at h; exact h
  | ok a e1 =>
    simp only [q, Out.bind_ok] at h
    refine fun G1 H1 S1 l1 v r1 => ?_
    split at h
    · rename_i n
      split at h
      · rename_i hk
        obtain ⟨a, C, dx, kvs, rfl, mc, hh, hl⟩ := obj_at S1 hk r1
        exact ⟨a, C, dx, kvs, rfl, mc, hh, hl, callF_ok S1 r1 (h.mono l1 fun _ _ _ _ _ z => z) fun z e' G' H' u S' k rv => k u rv⟩
      · exact h.elim
    · exact h.elim
theorem de_meth {pl : Sem Bool} (D : MethOk X.prog X.w X.K X.mg X.base c m k F) (hr : Room k X.A) (ho : DE X o fo) (ha : DA X (e :: es) g)
    (hst : starEach (e :: es) X.env = (false, eval e X.env) :: starEach es X.env := by rfl) (hpl : (backTo pos (starEach es X.env)).any (·.1) = false := by rfl)
    (ht : eval (.Call (.Attribute o m apos) (e :: es) [] pos) X.env = (do
      let ov ← eval o X.env
      standAt apos.atName
      let (f, first) ← holding [ov] (getMethod ov m pl)
      callWith pos f first (backTo pos (starEach (e :: es) X.env)) (backToKw pos (keywordEach [] X.env))) := by rfl) : DE X (.Call (.Attribute o m apos) (e :: es) [] pos) (E.meth c m F fo g) := by
  obtain ⟨C, f, fd, ps, hm, hc, hM, hb, Fk⟩ := D.ex
  refine ⟨fun B W tk => ⟨fun pins s σ H Q I h => ?_⟩⟩
  refine PySem.W.methodCall_KW (pl := pl) (thn ((ho.run B W tk).run pins s σ H _ I (tE_meth h)) ?_) ht
  rintro u s1 ⟨x, H1, I1, rx, a, C', dx, fs, rfl, mc, ea, l, q⟩
  have mc' : X.mg c = some (.ref C') := mc
  rw [hm] at mc'
  cases mc'
  cases (show u = Value.ref a from rx)
  refine getmeth_ok I1 ea hc hM l ?_
  refine PySem.W.callWith_K (first := [.ref a]) (h₀ := X.base) I.ok.mod.kin hM.kp (thn ((ha.run B W tk).run pos pins s1 σ H1 _ I1 q) ?_) hst hpl
  rintro us s2 ⟨vs, H2, I2, r, q2⟩
  exact ⟨I2.kIn, run_fnS (E := WE W) Fk hr hb (passAt tk σ) I2 (.cons (show RelV (.ref a) (.ref a) from rfl) r) q2⟩
theorem de_meth0 {pl : Sem Bool} (D : MethOk X.prog X.w X.K X.mg X.base c m k F) (hr : Room k X.A) (ho : DE X o fo)
    (ht : eval (.Call (.Attribute o m apos) [] [] pos) X.env = (do
      let ov ← eval o X.env
      standAt apos.atName
      let (f, first) ← holding [ov] (getMethod ov m pl)
      callWith pos f first (backTo pos (starEach [] X.env)) (backToKw pos (keywordEach [] X.env))) := by rfl) : DE X (.Call (.Attribute o m apos) [] [] pos) (E.meth c m F fo A.nil) := by
  obtain ⟨C, f, fd, ps, hm, hc, hM, hb, Fk⟩ := D.ex
  refine ⟨fun B W tk => ⟨fun pins s σ H Q I h => ?_⟩⟩
  refine PySem.W.methodCall_KW (pl := pl) (thn ((ho.run B W tk).run pins s σ H _ I (tE_meth h)) ?_) ht
  rintro u s1 ⟨x, H1, I1, rx, a, C', dx, fs, rfl, mc, ea, l, q⟩
  have mc' : X.mg c = some (.ref C') := mc
  rw [hm] at mc'
  cases mc'
  cases (show u = Value.ref a from rx)
  refine getmeth_ok I1 ea hc hM l ?_
  obtain ⟨G, env, S, q⟩ := q
  have q2 := q G H1 S (Same.refl G) [] .nil
  exact PySem.W.callWith_K0 (first := [.ref a]) I1.kIn hM.kp (run_fnS (us := [.ref a]) (E := WE W) Fk hr hb (passAt tk σ) I1 (.cons (show RelV (.ref a) (.ref a) from rfl) .nil) q2)
end
/-! ### new instances -/
structure NewOk (P : Program) (w : World) (K : PySem.W.Frag) (mg : Str → Option Value) (base : Heap) (c : Str) (k : Nat) (F : FM) : Prop where
  ex : ∃ C f fd ps, mg c = some (.ref C) ∧ Mk K C f ∧ Binds K fd ps [] ∧ FnOk P w K mg base (L2.CX P w) k f fd ps (spM ⟨K, mg⟩ F)
def E.new (c : Str) (F : FM) (g : FA) : FE := fun env => (g env).bind fun ds e => match stoOf e with
  | some M => match F (M ++ [.obj c [] []]) (.ptr M.length :: ds) with
    | .ok .non M' => .ok (.dv (.ptr M.length)) (setSto e M')
    | _ => .stk
  | none => .stk
theorem tE_new {T : Stt} {B : Bse} {W : WX} {c : Str} {C : Addr} {F : FM} {g : FA} {σ : St} {H : Hp} {Q : VK} (hm : T.mg c = some (.ref C)) (h : tE T B W (E.new c F g) σ H Q) :
    tAr T B W g σ H fun vs H1 => ∀ x dx, H1 x = none → H1 dx = none → dx ≠ x → spM T F (.ref x :: (vs ++ [])) (L2.upd (L2.upd H1 dx (.own x)) x (.ins C dx [])) (fun v H2 => v = .non ∧ Q (.ref x) H2) (fun _ _ _ => False) := by
  obtain ⟨G, env, S, h⟩ := h
  refine ⟨G, env, S, ?_⟩
  unfold E.new at h
  cases q : g env with
  | stk => simp [q, oE] at h
  | exc x e' => simp only [q, Out.bind_exc] at h; exact h
  | ok ds e1 =>
    simp only [q, Out.bind_ok] at h
    cases hM : stoOf e1 with
    | none => simp [hM, oE] at h
    | some M =>
      simp only [hM] at h
      intro G1 H1 S1 l1 vs r1 x dx hx hdx ne
      rw [List.append_nil]
      have S2 := S1.newH (o := .own x) hdx
      have hx2 : L2.upd H1 dx (.own x) x = none := by rw [upd_ne (Ne.symm ne)]; exact hx
      obtain ⟨S3, n1, n2, n3⟩ := S2.fresh (o := .ins C dx []) hx2
      obtain ⟨S4, l4⟩ := S3.gmk hM n1 n2 n3 (d := .obj c [] []) (.inr (.inl ⟨c, [], [], C, dx, [], rfl, hm, upd_same, rfl, .nil⟩))
      have hM4 : stoOf (setSto e1 (M ++ [D.obj c [] []])) = some (M ++ [.obj c [] []]) := stoOf_setSto hM
      refine ⟨_, .ptr M.length :: ds, _, S4.gh, S4.bz hM4, .cons (.ptr upd_same) (r1.same l4), ?_⟩
      cases qz : F (M ++ [.obj c [] []]) (.ptr M.length :: ds) with
      | stk => simp [qz, oE] at h
      | exc x M' => simp [qz, oE] at h
      | ok z M' =>
        cases z with
        | non =>
          simp only [qz] at h
          intro v G' H' P rv
          cases rv
          refine ⟨rfl, ?_⟩
          have S5 := S4.afterM hM4 P
          have es : setSto (setSto e1 (M ++ [D.obj c [] []])) M' = setSto e1 M' := by unfold setSto; rw [List.length_set, List.set_set]
          rw [es] at S5
          exact h G' H' S5 ((l1.trans l4).trans P.g) _ (.ptr (P.g _ _ upd_same))
        | _ => simp [qz, oE] at h
section
variable {X : Cx} {c : Str} {e : Expr} {es : List Expr} {p pos : Pos} {k : Nat} {F : FM} {g : FA}
theorem de_new (D : NewOk X.prog X.w X.K X.mg X.base c k F) (hr : Room (k + 1) X.A) (ha : DA X (e :: es) g) (hg : Gl X c := by rfl) (hdb : (c == ("__debug__" : Str)) = false := by decide)
    (he : starEach (e :: es) X.env = (false, eval e X.env) :: starEach es X.env := by rfl) (hpl : (backTo pos (starEach es X.env)).any (·.1) = false := by rfl) : DE X (.Call (.Name c p) (e :: es) [] pos) (E.new c F g) := by
  obtain ⟨C, f, fd, ps, hm, hM, hb, Fk⟩ := D.ex
  exact ⟨fun B W tk => (pe_make (dvs := []) (E := fun _ _ _ => False) hM Fk hr hg hm hb .nil passL (ha.run B W tk) hdb he hpl).imp fun σ H Q h => tE_new hm h⟩
end
end DL
-- DL16
set_option maxRecDepth 100000
set_option maxHeartbeats 4000000
/-! DL16: isinstance of data: built-in types, the class Web. -/
namespace DL
open PySem PySem.Spec PyProof.Rows L2
/-- what is asked of the class Web for isinstance -/
structure WebI (K : PySem.W.Frag) (mg : Str → Option Value) : Prop where
  ex : ∃ C, mg "Web" = some (.ref C) ∧ Cls K C ∧ PySem.W.findIn K (.ref C) "__class__" = some (some (.builtin "object.__class__")) ∧ PySem.W.specialIn K (.builtin "object.__class__") "__get__" = some (some (.builtin "getset_descriptor.__get__")) ∧
    PySem.W.takesIn K (.builtin "object.__class__") = some true ∧ PySem.W.mroIn K C (.type "object") = some true ∧ (∀ t ∈ ["int", "bool", "str", "tuple"], PySem.W.kitOne K (.ref C) (.type t) = some false) ∧
    (∀ t ∈ ["NoneType", "int", "bool", "str", "tuple", "list", "dict"], PySem.W.kitOne K (.type t) (.ref C) = some false) ∧ PySem.W.kitOne K (.ref C) (.ref C) = some true
def tyB : D → Option String
  | .non => some "NoneType"
  | .bl _ => some "bool"
  | .int _ => some "int"
  | .str _ => some "str"
  | .tup _ => some "tuple"
  | .lst _ => some "list"
  | .dcK _ _ => some "dict"
  | _ => none
def subB (t u : String) : Bool := t == u || (t == "bool" && u == "int")
/-- isinstance(d, u), u a built-in type -/
def isB (u : String) : D → Option D
  | .web _ _ _ => some (.bl false)
  | d => (tyB d).map fun t => .bl (subB t u)
/-- isinstance(d, Web) -/
def isW : D → Option D
  | .web _ _ _ => some (.bl true)
  | d => (tyB d).map fun _ => .bl false
section
variable {X : Cx}
theorem tyB_ok {G H : Hp} {v : V} {d : D} {t : String} (l : Le G H) (o : ORel ⟨X.K, X.mg⟩ G H v d) (h : tyB d = some t) : TyX X.K H v (.type t) := by
  cases d with
  | non => cases h; rcases o with o | ⟨p, _, c⟩
           · cases o; exact .base .non
           · exact c.elim
  | bl b => cases h; obtain rfl := o.bl; exact .base (.bl b)
  | int i => cases h; obtain rfl := o.int; exact .base (.int i)
  | str x => cases h; obtain rfl := o.str; exact .base (.str x)
  | tup ds => cases h; obtain ⟨a, vs, rfl, _, g, _⟩ := o.tup l; rcases g with g | ⟨_, ob, its, n, k1, k2, _⟩; exact .base (.tup (l.nd g True.intro)); exact .kTuple k1 k2
  | lst ds => cases h; obtain ⟨a, vs, rfl, h1, _⟩ := o.lst l; exact .base (.lst h1)
  | dcK ks ds =>
    cases h
    obtain ⟨a, kvs, rfl, h1, _, _⟩ := o.dcK l
    rcases h1 with h1 | ⟨ob, h1⟩
    · exact .base (.dK h1)
    · exact .fDict h1
  | _ => simp [tyB] at h
theorem tyB_mem {d : D} {t : String} (h : tyB d = some t) : t ∈ ["NoneType", "int", "bool", "str", "tuple", "list", "dict"] := by
  cases d <;> simp [tyB] at h <;> subst h <;> decide
theorem kit_bb {K : PySem.W.Frag} {t u : String} (ht : t ∈ ["NoneType", "int", "bool", "str", "tuple", "list", "dict"]) (hu : u ∈ ["int", "bool", "str", "tuple"]) : PySem.W.kitOne K (.type t) (.type u) = some (subB t u) := by
  simp only [List.mem_cons, List.not_mem_nil, or_false] at ht hu
  rcases ht with rfl | rfl | rfl | rfl | rfl | rfl | rfl <;> rcases hu with rfl | rfl | rfl | rfl <;> kernel_rfl
theorem web_ty {G H : Hp} {v : V} {n fr fo : D} {C : Addr} (l : Le G H) (o : ORel ⟨X.K, X.mg⟩ G H v (.web n fr fo)) (hm : X.mg "Web" = some (.ref C)) (cl : Cls X.K C) (ha : PySem.W.findIn X.K (.ref C) "__class__" = some (some (.builtin "object.__class__")))
    (hn : PySem.W.specialIn X.K (.builtin "object.__class__") "__get__" = some (some (.builtin "getset_descriptor.__get__"))) (ht : PySem.W.takesIn X.K (.builtin "object.__class__") = some true) (hr : PySem.W.mroIn X.K C (.type "object") = some true) : TyX X.K H v (.ref C) := by
  rcases o with o | ⟨p, _, c⟩
  · cases o with
    | web cc h r1 r2 r3 =>
      have cc' := hm.symm.trans cc
      cases cc'
      exact .base (.ins (l.nd h True.intro) cl ha hn ht hr)
  · exact c.elim
theorem c_isB (W : WebI X.K X.mg) {u : String} (hu : u ∈ ["int", "bool", "str", "tuple"]) : CallR X (.builtin "isinstance") (fun vs H Q => ∃ v, vs = [v, .ty u] ∧ r1D ⟨X.K, X.mg⟩ (isB u) v H Q) := by
  intro pins s σ H xs us Q I r ⟨v, e, G, d, z, l, o, hz, k⟩
  subst e
  have plain : ∀ t, tyB d = some t → z = .bl (subB t u) → wpAny (model X.prog X.w) X.A (call (.builtin "isinstance") us) (EP X pins σ Q) X.xe s := fun t h1 h2 => by
    subst h2
    exact call_isi pins s σ H _ us Q I r ⟨v, .ty u, .type t, .type u, subB t u, rfl, .ty u, tyB_ok l o h1, kit_bb (tyB_mem h1) hu, Kont.same k l (.bl _)⟩
  unfold isB at hz
  split at hz
  · cases hz
    obtain ⟨C, hm, cl, ha, hn, ht, hr, kb, _, _⟩ := W.ex
    exact call_isi pins s σ H _ us Q I r ⟨v, .ty u, .ref C, .type u, false, rfl, .ty u, web_ty l o hm cl ha hn ht hr, kb u hu, Kont.same k l (.bl _)⟩
  · cases q : tyB d with
    | none => rw [q] at hz; cases hz
    | some t => rw [q] at hz; cases hz; exact plain t q rfl
theorem c_isW {C0 : Addr} (W : WebI X.K X.mg) (hm0 : X.mg "Web" = some (.ref C0)) : CallR X (.builtin "isinstance") (fun vs H Q => ∃ v, vs = [v, .ref C0] ∧ r1D ⟨X.K, X.mg⟩ isW v H Q) := by
  intro pins s σ H xs us Q I r ⟨v, e, G, d, z, l, o, hz, k⟩
  subst e
  obtain ⟨C, hm, cl, ha, hn, ht, hr, _, kb, kw⟩ := W.ex
  rw [hm0] at hm
  cases hm
  unfold isW at hz
  split at hz
  · cases hz
    exact call_isi pins s σ H _ us Q I r ⟨v, .ref C0, .ref C0, .ref C0, true, rfl, .own C0, web_ty l o hm0 cl ha hn ht hr, kw, Kont.same k l (.bl _)⟩
  · cases q : tyB d with
    | none => rw [q] at hz; cases hz
    | some t =>
      rw [q] at hz
      cases hz
      exact call_isi pins s σ H _ us Q I r ⟨v, .ref C0, .type t, .ref C0, false, rfl, .own C0, tyB_ok l o q, kb t (tyB_mem q), Kont.same k l (.bl _)⟩
end
section
variable {X : Cx} {b : Str} {u : String} {e : Expr} {g : FE} {p p2 pos : Pos}
theorem de_isB (W : WebI X.K X.mg) (hmb : X.mg b = none) (hm : X.mg "isinstance" = none) (hbb : bootBuiltins b = some (.type u)) (he : DE X e g) (hu : u ∈ ["int", "bool", "str", "tuple"] := by decide) (hn : b ≠ "__name__" := by decide) (hgb : Gl X b := by rfl) (hg : Gl X "isinstance" := by rfl) (hdb : (b == ("__debug__" : Str)) = false := by decide)
    (hs : starEach [e, .Name b p2] X.env = (false, eval e X.env) :: starEach [.Name b p2] X.env := by rfl) (hs2 : starEach [.Name b p2] X.env = (false, eval (.Name b p2) X.env) :: starEach [] X.env := by rfl) (hpl : (backTo pos (starEach [.Name b p2] X.env)).any (·.1) = false := by rfl) :
    DE X (.Call (.Name "isinstance" p) [e, .Name b p2] [] pos) (E.c1 (isB u) g) := by
  refine ⟨fun B W' tk => (pe_callB (c_isB W hu) hg hm (by decide +kernel) (pa_cons (he.run B W' tk) (pa_cons (pe_bltn (v := .ty u) (u := .type u) hgb hmb hbb rfl hn hdb) pa_nil hs2) hs) (by decide) (by decide) hs hpl).imp fun σ H Q h => ?_⟩
  obtain ⟨G, env, S, h2⟩ := tE_u1 h
  exact ⟨G, env, S, h2.mono (Same.refl G) fun a e' G' H' l k v r => ⟨v, rfl, k v r⟩⟩
theorem de_isW (W : WebI X.K X.mg) (hm : X.mg "isinstance" = none) (he : DE X e g) (hgb : Gl X "Web" := by rfl) (hg : Gl X "isinstance" := by rfl)
    (hs : starEach [e, .Name "Web" p2] X.env = (false, eval e X.env) :: starEach [.Name "Web" p2] X.env := by rfl) (hs2 : starEach [.Name "Web" p2] X.env = (false, eval (.Name "Web" p2) X.env) :: starEach [] X.env := by rfl) (hpl : (backTo pos (starEach [.Name "Web" p2] X.env)).any (·.1) = false := by rfl) :
    DE X (.Call (.Name "isinstance" p) [e, .Name "Web" p2] [] pos) (E.c1 isW g) := by
  obtain ⟨C, hmC, _⟩ := W.ex
  refine ⟨fun B W' tk => (pe_callB (c_isW W hmC) hg hm (by decide +kernel) (pa_cons (he.run B W' tk) (pa_cons (pe_glob (v := .ref C) hgb hmC rfl (by decide)) pa_nil hs2) hs) (by decide) (by decide) hs hpl).imp fun σ H Q h => ?_⟩
  obtain ⟨G, env, S, h2⟩ := tE_u1 h
  exact ⟨G, env, S, h2.mono (Same.refl G) fun a e' G' H' l k v r => ⟨v, rfl, k v r⟩⟩
end
end DL
-- DL17
set_option maxRecDepth 100000
set_option maxHeartbeats 4000000
/-! DL17: the items of dicts with tuple keys, walked. -/
namespace DL
open PySem PySem.Spec PyProof.Rows L2
/-- the pairs (key, value) of the locked dict at d, each a new tuple -/
def ItiT (d : Addr) (o : Obj) (kvs : List (List Key × V)) : It where
  go := fun i H => H d = some (.frz o (.dT kvs)) ∧ i < kvs.length
  yld := fun i H x H' => ∃ p q k v, kvs[i]? = some (k, v) ∧ H q = some (.tup (k.map kV)) ∧ x = .ref p ∧ H p = none ∧ H' = L2.upd H p (.tup [.ref q, v])
  stop := fun i H => H d = some (.frz o (.dT kvs)) ∧ kvs.length ≤ i
section
variable {X : Cx} {pins : List (Addr × Obj)} {σ : St} {H : Hp} {s : Shared}
theorem frzT2 {d : Addr} {o : Obj} {kvs : List (List Key × V)} (I : Inv X pins σ H s) (h : H d = some (.frz o (.dT kvs))) : (d == sysModules) = false ∧ ∃ (es : Array DictEntry) (ep : Nat), o.data = .dict es ep ∧ s.heap.DictRaw d es ep ∧ es.size = kvs.length ∧
    ∀ (i : Nat) (k : List Key) (v : V), kvs[i]? = some (k, v) → ∃ (en : DictEntry) (q : Addr), es[i]? = some en ∧ en.key = .ref q ∧ H q = some (.tup (k.map kV)) ∧ RelV v en.val := by
  obtain ⟨hd, z, hs, xs, pr, o', es, ep, ho, hx, hdt, he, _⟩ := I.hok d _ h
  have ho' := ho
  rw [hd] at ho
  cases ho
  refine ⟨hs, es, ep, hdt, ⟨_, ho', hx, hdt⟩, ?_, fun i k v e => ?_⟩
  · have l1 : es.size = xs.length := by rw [← Array.length_toList, he, List.length_map]
    rw [l1]
    exact (Paired.length pr).symm
  · obtain ⟨b, hb, e1, e2, e3⟩ := paired_get pr e
    have q := entry_at he i
    rw [hb] at q
    exact ⟨_, b.2.1, q, rfl, e2, e3⟩
end
section
variable {P : Program} {w : World} {K : PySem.W.Frag} {d : Addr} {o : Obj} {es : Array DictEntry} {ep : Nat}
theorem turn_itemsT {kvs : List (List Key × V)} {elts : List Expr} {kk : Nat} {tpos : Pos} (it : Addr) (hod : o.data = .dict es ep) :
    Turn P w K (.Tuple elts kk tpos) (ItiT d o kvs) [it] it (fun i h => ∃ ok ov, IsItemIter h it d i kvs.length ep ok ov) where
  mem := by simp
  obj := fun i h st b hb => by
    obtain ⟨ok, ov, e⟩ := st
    rw [List.mem_singleton.mp hb]
    exact ⟨_, e, fun v z => nomatch z⟩
  keep := fun i h h' st k => by
    obtain ⟨ok, ov, e⟩ := st
    exact ⟨ok, ov, k it (by simp) _ e⟩
  item := by
    intro X hP hw hK hc i pins s σ H E I hf st hg
    subst hP hw hK
    obtain ⟨hd, hi⟩ := hg
    obtain ⟨hs, es2, ep2, hdt, raw, hsz, ent⟩ := frzT2 I hd
    obtain ⟨rfl, rfl⟩ := dict_ep hod hdt
    obtain ⟨⟨k, v⟩, hkv⟩ : ∃ p, kvs[i]? = some p := ⟨_, List.getElem?_eq_getElem hi⟩
    obtain ⟨en, q, hen, hkey, hq, rv⟩ := ent i k v hkv
    obtain ⟨ok, ov, he⟩ := st
    rw [← hsz] at he
    have hlt : it < s.heap.objs.size := Heap.lt_size he
    obtain ⟨hi2, hen2⟩ := Array.getElem?_eq_some_iff.mp hen
    refine wpAny_pyNext_items_item_raw he raw hi2 ?_
    intro h2 out hT hz hk
    refine ⟨_, rfl, wpAny_letOwnedTupleGo_items (s := { s with heap := h2 }) out ?_⟩
    intro h3 he3 sb
    have hT2 : h3.get? s.heap.objs.size = some { cls := .type "tuple", data := .seq #[es2[i].key, es2[i].val] } := (sb.2 _ (Nat.ne_of_gt hlt)).trans hT
    have new : ObjOk X.prog X.w (L2.upd H s.heap.objs.size (.tup [.ref q, v])) h3 s.heap.objs.size (.tup [.ref q, v]) := by
      refine ⟨by show 2 ≤ sizeLine; decide, [es2[i].key, es2[i].val], .cons ?_ (.cons ?_ .nil), ⟨_, hT2, rfl, _, rfl⟩⟩
      · rw [hen2]; exact hkey
      · rw [hen2]; exact rv
    have I1 : Inv X pins σ (L2.upd H s.heap.objs.size (.tup [.ref q, v])) { s with heap := h3 } :=
      I.turnedNew (t' := s.toks) (ch := [it]) (fun b ob hb e => (sb.2 b (by simpa using hb)).trans (hk b ob (by simpa using hb) e)) hf (Nat.le_refl _) new
    refine ⟨.ref s.heap.objs.size, _, I1, rfl, ⟨_, q, k, v, hkv, hq, rfl, I.hok.fresh (Nat.le_refl _), rfl⟩, ⟨es2[i].key, es2[i].val, ?_⟩, fun b hb => ?_⟩
    · rw [← hsz]; exact he3
    · rw [List.mem_singleton.mp hb, upd_ne (Nat.ne_of_lt hlt)]
      exact (hf it (by simp)).1
  done := by
    intro X hP hw hK hc i pins s σ H E I hf st hg
    subst hP hw hK
    obtain ⟨hd, hi⟩ := hg
    obtain ⟨f0, f1, f2, f3, f4, f5⟩ := hf it (by simp)
    obtain ⟨hs, es2, ep2, hdt, raw, hsz, ent⟩ := frzT2 I hd
    obtain ⟨rfl, rfl⟩ := dict_ep hod hdt
    obtain ⟨ok, ov, he⟩ := st
    rw [← hsz] at he
    exact wpAny_pyNext_items_end_raw (I.ok.hd hc) he raw (by omega) fun h' eb => ⟨rfl, I.turned (t' := s.toks) (fun b ob hb e => eb b ob hb e) f0 f1 f3 f4 f5⟩
  self := fun A i s Q E st h => by
    obtain ⟨_, _, e⟩ := st
    exact PySem.W.kcp_self e h
end
end DL
-- DL18
set_option maxRecDepth 100000
set_option maxHeartbeats 4000000
/-! DL18: for .. in d.items(), d with tuple keys. -/
namespace DL
open PySem PySem.Spec PyProof.Rows L2
def zItT (x : V) (H : Hp) (R : It → Hp → Prop) : Prop :=
  (∃ d kvs, x = .ref d ∧ H d = some (.dT kvs) ∧ ∀ o, R (ItiT d o kvs) (L2.upd H d (.frz o (.dT kvs)))) ∨ (∃ d kvs o, x = .ref d ∧ H d = some (.frz o (.dT kvs)) ∧ R (ItiT d o kvs) H)
section
variable {X : Cx} {e : Expr} {elts : List Expr} {kk : Nat} {tpos apos cpos : Pos}
theorem pi_itemsT {te : TE} (he : PE X e te) (hb : attributeBase e "items" X.env (eval e X.env) = eval e X.env := by rfl) (hline : (apos.endLine == cpos.line) = true := by rfl) :
    PI X (.Tuple elts kk tpos) (.Call (.Attribute e "items" apos) [] [] cpos) (fun σ H R => te σ H fun x H1 => zItT x H1 R) := by
  constructor
  intro pins s σ H R I h
  have locked : ∀ (s1 : Shared) (H1 : Hp) (d : Addr) (kvs : List (List Key × V)) (o : Obj), Inv X pins σ H1 s1 → H1 d = some (.frz o (.dT kvs)) → R (ItiT d o kvs) H1 → s1.TypeIs (.ref d) "dict" ∧ (∀ (a : Addr), Value.ref d = Value.ref a → ∃ ob, s1.heap.get? a = some ob ∧ ob.dict = none) ∧ wpAny (model X.prog X.w) X.A (callWith cpos (.builtin "dict.items") [.ref d] [] []) (fun v s2 => wpAny (model X.prog X.w) X.A (pyIter v) (PIE X pins σ (.Tuple elts kk tpos) R) X.xe s2) X.xe s1 := fun s1 H1 d kvs o I1 hd q => by
    obtain ⟨hs, es, ep, hdt, raw, hsz, ent⟩ := frzT2 I1 hd
    have I2 : Inv X pins σ H1 { s1 with heap := s1.heap.push { cls := .type "dict_items", data := .fields #[.ref d] } } := I1.kept (t' := s1.toks) fun b ob q => Heap.get?_push_of_some _ q
    have fin : wpAny (model X.prog X.w) X.A (pyIter (.ref s1.heap.objs.size)) (PIE X pins σ (.Tuple elts kk tpos) R) X.xe { s1 with heap := s1.heap.push { cls := .type "dict_items", data := .fields #[.ref d] } } := by
      refine wpAny_pyIter_items_raw (d := d) ⟨_, Heap.get?_push_size _ rfl, rfl, rfl⟩ (raw.at fun o q => Heap.get?_push_of_some _ q) (pi_one (tk := s1.toks) I2 _ (turn_itemsT _ hdt) ⟨.none, .none, ?_⟩ q)
      rw [← hsz]
      exact Heap.get?_push_size _ rfl
    have nod : ∀ (a : Addr), Value.ref d = Value.ref a → ∃ ob, s1.heap.get? a = some ob ∧ ob.dict = none := fun a e => by
      cases e
      obtain ⟨ob, h1, h2, _⟩ := raw
      exact ⟨ob, h1, h2.2.1⟩
    exact ⟨raw.typeIs, nod, method_meetsIn F.slot_dict_items F.entry_dict_items rfl (PySem.evalArgs_none ⟨rfl, raw.typeIs, F.args_dict_items_1 _, _, meets_dict_items_raw d hs, ⟨es, ep, raw⟩, fin⟩)⟩
  refine wpAny_Call_method (T := "dict") (id := "dict.items") hb rfl hline F.plainAttrs_dict F.slot_dict_items F.type_dict_items (thn (he.run pins s σ H _ I h) ?_)
  rintro u s1 ⟨x, H1, I1, rx, z⟩
  rcases z with ⟨d, kvs, rfl, hd, q⟩ | ⟨d, kvs, o, rfl, hd, q⟩
  · cases (show u = Value.ref d from rx)
    obtain ⟨o, I2⟩ := I1.lock hd True.intro
    exact locked s1 _ d kvs o I2 upd_same (q o)
  · cases (show u = Value.ref d from rx)
    exact locked s1 _ d kvs o I1 hd q
end
def pairD (k : List Key) (d : D) : D := .tup [keyTD k, d]
def itemsTD : List (List Key) → List D → List D
  | k :: ks, d :: ds => pairD k d :: itemsTD ks ds
  | _, _ => []
theorem itemsTD_len : ∀ {ks : List (List Key)} {ds : List D}, ks.length = ds.length → (itemsTD ks ds).length = ks.length
  | [], _, _ => rfl
  | k :: ks, d :: ds, h => by
    show (itemsTD ks ds).length + 1 = _
    rw [itemsTD_len (by simpa using h)]
    rfl
  | _ :: _, [], h => by simp at h
theorem itemsTD_get : ∀ {ks : List (List Key)} {ds : List D} {i : Nat} {k : List Key} {d : D}, ks[i]? = some k → ds[i]? = some d → (itemsTD ks ds)[i]? = some (pairD k d)
  | [], _, _, _, _, h, _ => by simp at h
  | _ :: _, [], _, _, _, _, h => by simp at h
  | k0 :: ks, d0 :: ds, 0, k, d, h1, h2 => by simp at h1 h2; subst h1 h2; rfl
  | k0 :: ks, d0 :: ds, i + 1, k, d, h1, h2 => by
    show (itemsTD ks ds)[i]? = _
    exact itemsTD_get (by simpa using h1) (by simpa using h2)
theorem dw_itemsT {T : Stt} {G1 L : Hp} {d : Addr} {o : Obj} {kvs : List (List Key × V)} {ds : List D} (h : L d = some (.frz o (.dT kvs))) (r : VRels T G1 (kvs.map (·.2)) ds) : DWalk T (ItiT d o kvs) G1 L (itemsTD (kvs.map (·.1)) ds) := by
  have hl : (kvs.map (·.1)).length = ds.length := by rw [← r.length, List.length_map, List.length_map]
  have hl2 := itemsTD_len hl
  rw [List.length_map] at hl2
  refine ⟨fun i H hi _ l => ⟨l d _ h, by rw [← hl2]; exact hi⟩, fun H _ l => ⟨l d _ h, by rw [hl2]; exact Nat.le_refl _⟩, fun i H x H' hi _ l y => ?_⟩
  obtain ⟨p, q, k, v, hk, hq, e, hp, e2⟩ := y
  subst e e2
  have hv : (kvs.map (·.2))[i]? = some v := by rw [List.getElem?_map, hk]; rfl
  obtain ⟨d0, hd, rv⟩ := r.get hv
  refine ⟨pairD k d0, itemsTD_get (by rw [List.getElem?_map, hk]; rfl) hd, fun G g gh => ?_⟩
  obtain ⟨g1, g2, g3⟩ := le_add gh hq
  have hp2 : L2.upd G q (.tup (k.map kV)) p = none := by
    have nq : p ≠ q := fun z => by rw [z, hq] at hp; cases hp
    rw [upd_ne nq]; exact gh.none hp
  refine ⟨L2.upd (L2.upd G q (.tup (k.map kV))) p (.tup [.ref q, v]), g1.trans (upd_same_none hp2), le_new g2, upd_same_none hp, fun a u e => ?_, ?_⟩
  · by_cases z : a = p
    · subst z; rw [upd_same] at e; cases e; exact .inr (.inl ⟨hp, fun _ z => nomatch z⟩)
    · rw [upd_ne z] at e; exact g3 a u e
  · have r0 : VRel T (L2.upd G q (.tup (k.map kV))) (.ref q) (keyTD k) := .tup (.inl upd_same) (keysKD_rel k)
    exact .tup (.inl upd_same) (.cons (r0.same (upd_same_none hp2)) (.cons (((rv.same g).same g1).same (upd_same_none hp2)) .nil))
/-- what a locked own or let-go dict gives -/
def I.itemsT (f : FE) : FI := fun env => (f env).bind fun a e1 => match frz e1 a with
  | some (.dcT ks ds, e2) => .ok (itemsTD ks ds) e2
  | _ => .stk
section
variable {X : Cx} {e : Expr} {elts : List Expr} {kk : Nat} {tpos apos cpos : Pos}
theorem di_itemsT {f : FE} (he : DE X e f) (hb : attributeBase e "items" X.env (eval e X.env) = eval e X.env := by rfl) (hline : (apos.endLine == cpos.line) = true := by rfl) : DI X (.Tuple elts kk tpos) (.Call (.Attribute e "items" apos) [] [] cpos) (I.itemsT f) := by
  refine ⟨fun B W tk => ⟨fun pins s σ H R Iv h => (pi_itemsT (he.run B W tk) hb hline).run pins s σ H R Iv ?_⟩⟩
  obtain ⟨G, env, S, h⟩ := h
  refine ⟨G, env, S, ?_⟩
  unfold I.itemsT at h
  cases q : f env with
  | stk => simp [q, oE] at h
  | exc x e' => simp only [q, Out.bind_exc] at h; exact h
  | ok a e1 =>
    simp only [q, Out.bind_ok] at h
    refine fun G1 H1 S1 l1 v1 r1 => ?_
    split at h
    · rename_i ks ds e2 qf
      obtain ⟨G2, S2, l2, rv⟩ := S1.frz r1 qf
      cases rv with
      | dcT hg rr =>
        rcases S2.gh _ _ hg with y | ⟨hd, o, y⟩ | ⟨_, _, z, _⟩
        · refine .inl ⟨_, _, rfl, y, fun o => ?_⟩
          obtain ⟨b, S3⟩ := S2.lock hg True.intro y o
          exact h G2 H1 S2 (l1.trans l2) _ _ _ b S3 (dw_itemsT upd_same rr)
        · refine .inr ⟨_, _, o, rfl, y, ?_⟩
          obtain ⟨b, S3⟩ := S2.lock2 y hg hd
          exact h G2 H1 S2 (l1.trans l2) _ _ _ b S3 (dw_itemsT upd_same rr)
        · cases z
    · exact h.elim
end
end DL
-- DL19
set_option maxRecDepth 100000
set_option maxHeartbeats 4000000
/-! DL19: a Web as a value: its __init__ is run on a store of one thing, which then is let go. -/
namespace DL
open PySem PySem.Spec PyProof.Rows L2
mutual
/-- no pointer into a store is in d -/
def noPtr : D → Bool
  | .ptr _ => false
  | .obj _ _ _ => false
  | .tab _ => false
  | .adr _ _ => false
  | .tup xs => noPtrs xs
  | .lst xs => noPtrs xs
  | .dcK _ xs => noPtrs xs
  | .dcT _ xs => noPtrs xs
  | .web a b c => noPtr a && noPtr b && noPtr c
  | .exc1 _ _ d => noPtr d
  | _ => true
def noPtrs : List D → Bool
  | [] => true
  | d :: ds => noPtr d && noPtrs ds
end
theorem TupG.np {K : PySem.W.Frag} {G G' : Hp} {a : Addr} {vs : List V} (l : ∀ a u, G a = some u → NM u → G' a = some u) (h : TupG K G a vs) : TupG K G' a vs := h.imp (fun h => l _ _ h fun _ z => nomatch z) id
theorem nm_ext {φ : Heap → Prop} : NM (.ext φ) := fun _ z => nomatch z
theorem Ex0.np {G G' : Hp} {a C : Addr} (l : ∀ a u, G a = some u → NM u → G' a = some u) (h : Ex0 G a C) : Ex0 G' a C := h.imp (fun h => l _ _ h nm_ext) fun h => l _ _ h nm_ext
theorem Ex1.np {G G' : Hp} {a C d : Addr} (l : ∀ a u, G a = some u → NM u → G' a = some u) (h : Ex1 G a C d) : Ex1 G' a C d := h.imp (fun h => l _ _ h nm_ext) fun h => l _ _ h nm_ext
theorem Xd1.np {G G' : Hp} {d : Addr} {fs : List (Str × V)} (l : ∀ a u, G a = some u → NM u → G' a = some u) (h : Xd1 G d fs) : Xd1 G' d fs := h.imp (fun h => l _ _ h nm_ext) fun h => l _ _ h fun _ z => nomatch z
mutual
theorem VRel.np {T : Stt} {G G' : Hp} (l : ∀ a u, G a = some u → NM u → G' a = some u) (hk : ∀ a, (∃ n, G a = some (.own n)) ∨ G a = none → G a = none → G' a = G' a) : ∀ {v : V} {d : D}, noPtr d = true → VRel T G v d → (∀ a is, SqL T.K G a is → SqL T.K G' a is) → VRel T G' v d
  | _, _, _, .non, _ => .non
  | _, _, _, .bl b, _ => .bl b
  | _, _, _, .int i, _ => .int i
  | _, _, _, .str x, _ => .str x
  | _, _, n, .tup h r, q => .tup (h.np l) (VRels.np l hk (by rw [noPtr] at n; exact n) r q)
  | _, _, n, .lst h r, q => .lst (l _ _ h fun _ z => nomatch z) (VRels.np l hk (by rw [noPtr] at n; exact n) r q)
  | _, _, n, .dcK h r, q => .dcK (l _ _ h fun _ z => nomatch z) (VRels.np l hk (by rw [noPtr] at n; exact n) r q)
  | _, _, n, .dcT h r, q => .dcT (l _ _ h fun _ z => nomatch z) (VRels.np l hk (by rw [noPtr] at n; exact n) r q)
  | _, _, n, .web c h r1 r2 r3, q => by
    rw [noPtr, Bool.and_eq_true, Bool.and_eq_true] at n
    exact .web c (l _ _ h fun _ z => nomatch z) (VRel.np l hk n.1.1 r1 q) (VRel.np l hk n.1.2 r2 q) (VRel.np l hk n.2 r3 q)
  | _, _, _, .exc0 c h, _ => .exc0 c (h.np l)
  | _, _, n, .exc1 c h h2 r, q => .exc1 c (h.np l) (h2.np l) (VRel.np l hk (by rw [noPtr] at n; exact n) r q)
  | _, _, n, .ptr h, _ => by rw [noPtr] at n; cases n
  | _, _, _, .scr h, q => .scr (q _ _ h)
  | _, _, n, .adr _ _, _ => by rw [noPtr] at n; cases n
theorem VRels.np {T : Stt} {G G' : Hp} (l : ∀ a u, G a = some u → NM u → G' a = some u) (hk : ∀ a, (∃ n, G a = some (.own n)) ∨ G a = none → G a = none → G' a = G' a) : ∀ {v : List V} {d : List D}, noPtrs d = true → VRels T G v d → (∀ a is, SqL T.K G a is → SqL T.K G' a is) → VRels T G' v d
  | _, _, _, .nil, _ => .nil
  | _, _, n, .cons r rs, q => by
    rw [noPtrs, Bool.and_eq_true] at n
    exact .cons (VRel.np l hk n.1 r q) (VRels.np l hk n.2 rs q)
end
theorem sq_np {K : PySem.W.Frag} {G G' : Hp} (l : ∀ a u, G a = some u → NM u → G' a = some u) : ∀ a is, SqL K G a is → SqL K G' a is := fun a is h => by
  rcases h with (h | ⟨o, h⟩) | h
  · exact .inl (.inl (l _ _ h fun _ z => nomatch z))
  · exact .inl (.inr ⟨o, l _ _ h fun _ z => nomatch z⟩)
  · exact .inr h
theorem VRel.mono {T : Stt} {G G' : Hp} (l : ∀ a u, G a = some u → NM u → G' a = some u) {v : V} {d : D} (n : noPtr d = true) (r : VRel T G v d) : VRel T G' v d := VRel.np l (fun _ _ _ => rfl) n r (sq_np l)
theorem VRels.mono {T : Stt} {G G' : Hp} (l : ∀ a u, G a = some u → NM u → G' a = some u) {v : List V} {d : List D} (n : noPtrs d = true) (r : VRels T G v d) : VRels T G' v d := VRels.np l (fun _ _ _ => rfl) n r (sq_np l)
/-- G without marks -/
def cln (G : Hp) : Hp := fun a => match G a with
  | some (.own _) => none
  | u => u
theorem cln_sub {G : Hp} {a : Addr} {u : HO} (h : cln G a = some u) : G a = some u ∧ NM u := by
  unfold cln at h
  split at h
  · cases h
  · rename_i nm
    exact ⟨h, fun n z => nm n (by rw [h, z])⟩
theorem cln_of {G : Hp} {a : Addr} {u : HO} (h : G a = some u) (n : NM u) : cln G a = some u := by
  unfold cln
  split
  · rename_i m q; rw [h] at q; cases q; exact (n m rfl).elim
  · exact h
end DL
-- DL20
set_option maxRecDepth 100000
set_option maxHeartbeats 4000000
/-! DL20: new instances by place (defaults too) and by name; exceptions of __init__ are let out; Web(..) as a value. -/
namespace DL
open PySem PySem.Spec PyProof.Rows L2
/-! ### running a new instance's __init__ -/
section
variable {X : Cx} {CX : CXT} {k : Nat} {f C : Addr} {fd : FuncData} {ps : List Str} {sp : Sp} {E : St → XK}
theorem run_makeA {pins : List (Addr × Obj)} {σ : St} {H : Hp} {s : Shared} {Q : VK} {us us2 : List Value} {kw : List (Str × Value)} {vs : List V} (M : Mk X.K C f) (F : FnOk X.prog X.w X.K X.mg X.base CX k f fd ps sp) (hr : Room (k + 1) X.A)
    (hb : ∀ s : Shared, X.K.In s.heap → ∀ a : Addr, BindsTo s fd ⟨Value.ref a :: us, kw⟩ (ps.zip (Value.ref a :: us2))) (hx : PassesAt CX X σ (E σ)) (I : Inv X pins σ H s) (r : Vals vs us2)
    (h : ∀ x dx, H x = none → H dx = none → dx ≠ x → sp (.ref x :: vs) (L2.upd (L2.upd H dx (.own x)) x (.ins C dx [])) (fun v H2 => v = .non ∧ Q (.ref x) H2) (E σ)) :
    wpAny (model X.prog X.w) X.A (call (.ref C) us kw) (EP X pins σ Q) X.xe s := by
  have hq := h (s.heap.objs.size + 1) s.heap.objs.size (I.hok.fresh (Nat.le_succ _)) (I.hok.fresh (Nat.le_refl _)) (Nat.ne_of_lt (Nat.lt_succ_self _))
  have I2 := Inv.made (C := C) I
  have r2 : Vals (V.ref (s.heap.objs.size + 1) :: vs) (Value.ref (s.heap.objs.size + 1) :: us2) := .cons rfl r
  refine wpAny_call (make_map (f := f) I.kIn M.makes M.init (beq_iff_eq.mp M.fn) (codeAny_mono (F.run _ X.stack _ _ ⟨Value.ref (s.heap.objs.size + 1) :: us, kw⟩ (Value.ref (s.heap.objs.size + 1) :: us2) _ _ (E σ) (hr.make C us kw)
    (I2.env0.make C us kw) (hb _ I2.kIn _) r2 hq) fun r s' hq' => ?_))
  cases r with
  | error e => exact hx pins _ _ e s' I2 hq'
  | ok fl =>
    cases fl with
    | ret u =>
      obtain ⟨v, H', I3, rv, ev, q3⟩ := I2.after hq'
      subst ev
      exact ⟨rv, ⟨V.ref (s.heap.objs.size + 1), H', I3, rfl, q3⟩⟩
    | next => exact False.elim hq'
    | brk => exact False.elim hq'
    | cont => exact False.elim hq'
end
/-- what a new instance's call asks: sp of the instance and the values -/
def qNew (C : Addr) (sp : Sp) (W : WX) (σ : St) (Q : VK) : List V → Hp → Prop := fun vs H1 => ∀ x dx, H1 x = none → H1 dx = none → dx ≠ x → sp (.ref x :: vs) (L2.upd (L2.upd H1 dx (.own x)) x (.ins C dx [])) (fun v H2 => v = .non ∧ Q (.ref x) H2) (WE W σ)
/-- keywords' values -/
structure DK (X : Cx) (kws : List Keyword) (f : FA) : Prop where
  run : ∀ (B : Bse) (W : WX), Takes X W → PK X kws (tAr ⟨X.K, X.mg⟩ B W f)
theorem _root_.L2.PK.imp {X : Cx} {e : List Keyword} {t t' : TA} (h : PK X e t) (w : ∀ σ H Q, t' σ H Q → t σ H Q) : PK X e t' := ⟨fun p pins s σ H Q I q => h.run p pins s σ H Q I (w σ H Q q)⟩
section
variable {X : Cx} {kpos : Pos} {nm : Option Str}
theorem dk_nil : DK X [] A.nil := ⟨fun B W tk => pk_nil.imp fun σ H Q ⟨G, env, S, h⟩ => h G H S (Same.refl G) [] .nil⟩
theorem dk_cons {e : Expr} {kws : List Keyword} {f : FE} {g : FA} (ha : DE X e f) (hr : DK X kws g) : DK X (⟨nm, e, kpos⟩ :: kws) (A.cons f g) := ⟨fun B W tk => (pk_cons (ha.run B W tk) (hr.run B W tk)).imp fun σ H Q q => tA_cons q⟩
end
/-- a class of the program whose __init__ keeps its promise F; dvs: the defaults that fill up a call by place -/
structure NewD (P : Program) (w : World) (K : PySem.W.Frag) (mg : Str → Option Value) (base : Heap) (c : Str) (k : Nat) (dvs : List D) (F : FM) : Prop where
  ex : ∃ C f fd ps ds dV, mg c = some (.ref C) ∧ Mk K C f ∧ Vals dV ds ∧ (∀ G, VRels ⟨K, mg⟩ G dV dvs) ∧ Binds K fd ps ds ∧ FnOk P w K mg base (L2.CX P w) k f fd ps (spM ⟨K, mg⟩ F)
/-- .. called by names alone; pm: the values in the order of the parameters -/
structure NewK (P : Program) (w : World) (K : PySem.W.Frag) (mg : Str → Option Value) (base : Heap) (c : Str) (k : Nat) (ks : List Str) (pm : List D → List D) (F : FM) : Prop where
  ex : ∃ C f fd ps, mg c = some (.ref C) ∧ Mk K C f ∧ (∃ (pv : List Value → List Value) (pV : List V → List V), (∀ (s : Shared) (a : Addr) (ws : List Value), K.In s.heap → (pv ws).length + 1 = ps.length → BindsTo s fd ⟨[Value.ref a], ks.zip ws⟩ (ps.zip (Value.ref a :: pv ws))) ∧
    (∀ vs us, Vals vs us → Vals (pV vs) (pv us)) ∧ ∀ G vs ds, VRels ⟨K, mg⟩ G vs ds → VRels ⟨K, mg⟩ G (pV vs) (pm ds)) ∧ FnOk P w K mg base (L2.CX P w) k f fd ps (spM ⟨K, mg⟩ F)
theorem spM_len {T : Stt} {F : FM} {ps : List Str} {P : Program} {w : World} {base : Heap} {k : Nat} {f : Addr} {fd : FuncData} (Fk : FnOk P w T.K T.mg base (L2.CX P w) k f fd ps (spM T F)) {vs : List V} {H : Hp} {Q : VK} {E : XK} (h : spM T F vs H Q E) : vs.length = ps.length := Fk.len vs H Q E h
/-! ### an instance in the store -/
def newR (e : Ev) (M : List D) : MO → Out EV
  | .ok .non M' => .ok (.dv (.ptr M.length)) (setSto e M')
  | .exc x M' => .exc x (setSto e M')
  | _ => .stk
def E.newX (c : Str) (F : FM) (pm : List D → List D) (g : FA) : FE := fun env => (g env).bind fun ds e => match stoOf e with
  | some M => newR e M (F (M ++ [.obj c [] []]) (.ptr M.length :: pm ds))
  | none => .stk
theorem tE_newX {T : Stt} {B : Bse} {W : WX} {c : Str} {C : Addr} {F : FM} {pm : List D → List D} {pV : List V → List V} {g : FA} {σ : St} {H : Hp} {Q : VK} (hm : T.mg c = some (.ref C)) (hp : ∀ G vs ds, VRels T G vs ds → VRels T G (pV vs) (pm ds))
    (h : tE T B W (E.newX c F pm g) σ H Q) : tAr T B W g σ H fun vs H1 => qNew C (spM T F) W σ Q (pV vs) H1 := by
  obtain ⟨G, env, S, h⟩ := h
  refine ⟨G, env, S, ?_⟩
  unfold E.newX at h
  cases q : g env with
  | stk => simp [q, oE] at h
  | exc x e' => simp only [q, Out.bind_exc] at h; exact h
  | ok ds e1 =>
    simp only [q, Out.bind_ok] at h
    cases hM : stoOf e1 with
    | none => simp [hM, oE] at h
    | some M =>
      simp only [hM] at h
      intro G1 H1 S1 l1 vs r1 x dx hx hdx ne
      have S2 := S1.newH (o := .own x) hdx
      have hx2 : L2.upd H1 dx (.own x) x = none := by rw [upd_ne (Ne.symm ne)]; exact hx
      obtain ⟨S3, n1, n2, n3⟩ := S2.fresh (o := .ins C dx []) hx2
      obtain ⟨S4, l4⟩ := S3.gmk hM n1 n2 n3 (d := .obj c [] []) (.inr (.inl ⟨c, [], [], C, dx, [], rfl, hm, upd_same, rfl, .nil⟩))
      have hM4 : stoOf (setSto e1 (M ++ [D.obj c [] []])) = some (M ++ [.obj c [] []]) := stoOf_setSto hM
      refine ⟨_, .ptr M.length :: pm ds, _, S4.gh, S4.bz hM4, .cons (.ptr upd_same) (hp _ _ _ (r1.same l4)), ?_⟩
      have es : ∀ M', setSto (setSto e1 (M ++ [D.obj c [] []])) M' = setSto e1 M' := fun M' => by unfold setSto; rw [List.length_set, List.set_set]
      cases qz : F (M ++ [.obj c [] []]) (.ptr M.length :: pm ds) with
      | stk => simp [qz, newR, oE] at h
      | exc x0 M' =>
        rw [qz, newR] at h
        intro cls d G' H' P rx
        have S5 := S4.afterM hM4 P
        rw [es] at S5
        exact h cls d G' H' S5 ((l1.trans l4).trans P.g) rx
      | ok z M' =>
        cases z with
        | non =>
          rw [qz, newR] at h
          intro v G' H' P rv
          cases rv
          refine ⟨rfl, ?_⟩
          have S5 := S4.afterM hM4 P
          rw [es] at S5
          exact h G' H' S5 ((l1.trans l4).trans P.g) _ (.ptr (P.g _ _ upd_same))
        | _ => simp [qz, newR, oE] at h
/-! ### a Web as a value -/
abbrev webKs : List Str := ["people", "friends", "foes", "kept"]
def isTab : D → Bool
  | .tab _ => true
  | _ => false
def tabsOf : List D → List D
  | .tab q :: r => .tab q :: tabsOf r
  | _ => []
def tabEq : List D → List D → Bool
  | [], [] => true
  | .tab p :: r, .tab q :: s => decide (p = q) && tabEq r s
  | _, _ => false
theorem tabEq_eq : ∀ {xs ys : List D}, tabEq xs ys = true → xs = ys
  | [], [], _ => rfl
  | .tab p :: r, .tab q :: s, h => by
    rw [tabEq, Bool.and_eq_true, decide_eq_true_eq] at h
    rw [h.1, tabEq_eq h.2]
  | [], y :: ys, h => by simp [tabEq] at h
  | .non :: _, _, h => by simp [tabEq] at h
  | .bl _ :: _, _, h => by simp [tabEq] at h
  | .int _ :: _, _, h => by simp [tabEq] at h
  | .str _ :: _, _, h => by simp [tabEq] at h
  | .tup _ :: _, _, h => by simp [tabEq] at h
  | .lst _ :: _, _, h => by simp [tabEq] at h
  | .dcK _ _ :: _, _, h => by simp [tabEq] at h
  | .dcT _ _ :: _, _, h => by simp [tabEq] at h
  | .web _ _ _ :: _, _, h => by simp [tabEq] at h
  | .exc0 _ :: _, _, h => by simp [tabEq] at h
  | .exc1 _ _ _ :: _, _, h => by simp [tabEq] at h
  | .ptr _ :: _, _, h => by simp [tabEq] at h
  | .obj _ _ _ :: _, _, h => by simp [tabEq] at h
  | .scr _ :: _, _, h => by simp [tabEq] at h
  | .adr _ _ :: _, _, h => by simp [tabEq] at h
  | .tab _ :: _, [], h => by simp [tabEq] at h
  | .tab _ :: _, .non :: _, h => by simp [tabEq] at h
  | .tab _ :: _, .bl _ :: _, h => by simp [tabEq] at h
  | .tab _ :: _, .int _ :: _, h => by simp [tabEq] at h
  | .tab _ :: _, .str _ :: _, h => by simp [tabEq] at h
  | .tab _ :: _, .tup _ :: _, h => by simp [tabEq] at h
  | .tab _ :: _, .lst _ :: _, h => by simp [tabEq] at h
  | .tab _ :: _, .dcK _ _ :: _, h => by simp [tabEq] at h
  | .tab _ :: _, .dcT _ _ :: _, h => by simp [tabEq] at h
  | .tab _ :: _, .web _ _ _ :: _, h => by simp [tabEq] at h
  | .tab _ :: _, .exc0 _ :: _, h => by simp [tabEq] at h
  | .tab _ :: _, .exc1 _ _ _ :: _, h => by simp [tabEq] at h
  | .tab _ :: _, .ptr _ :: _, h => by simp [tabEq] at h
  | .tab _ :: _, .obj _ _ _ :: _, h => by simp [tabEq] at h
  | .tab _ :: _, .scr _ :: _, h => by simp [tabEq] at h
  | .tab _ :: _, .adr _ _ :: _, h => by simp [tabEq] at h
theorem tabsOf_get : ∀ {M : List D} {n : Nat} {d : D}, (tabsOf M)[n]? = some d → M[n]? = some d ∧ ∃ q, d = .tab q
  | .tab q :: r, 0, d, h => by rw [tabsOf] at h; cases h; exact ⟨rfl, q, rfl⟩
  | .tab q :: r, n + 1, d, h => by
    rw [tabsOf] at h
    exact tabsOf_get (M := r) (n := n) (by simpa using h)
  | [], _, _, h => by simp [tabsOf] at h
  | .non :: _, _, _, h => by simp [tabsOf] at h
  | .bl _ :: _, _, _, h => by simp [tabsOf] at h
  | .int _ :: _, _, _, h => by simp [tabsOf] at h
  | .str _ :: _, _, _, h => by simp [tabsOf] at h
  | .tup _ :: _, _, _, h => by simp [tabsOf] at h
  | .lst _ :: _, _, _, h => by simp [tabsOf] at h
  | .dcK _ _ :: _, _, _, h => by simp [tabsOf] at h
  | .dcT _ _ :: _, _, _, h => by simp [tabsOf] at h
  | .web _ _ _ :: _, _, _, h => by simp [tabsOf] at h
  | .exc0 _ :: _, _, _, h => by simp [tabsOf] at h
  | .exc1 _ _ _ :: _, _, _, h => by simp [tabsOf] at h
  | .ptr _ :: _, _, _, h => by simp [tabsOf] at h
  | .obj _ _ _ :: _, _, _, h => by simp [tabsOf] at h
  | .scr _ :: _, _, _, h => by simp [tabsOf] at h
  | .adr _ _ :: _, _, _, h => by simp [tabsOf] at h
def webR (Ts : List D) (e : Ev) : MO → Out EV
  | .ok .non M' => match M'.drop Ts.length with
    | [.obj c ks [n, fr, fo, _]] => if tabEq (M'.take Ts.length) Ts = true ∧ c = "Web" ∧ ks = webKs ∧ noPtr n = true ∧ noPtr fr = true ∧ noPtr fo = true then .ok (.dv (.web n fr fo)) e else .stk
    | _ => .stk
  | .exc (.x1 c f v) M' => if tabEq (M'.take Ts.length) Ts = true ∧ M'.length = Ts.length + 1 ∧ noPtr v = true then .exc (.x1 c f v) e else .stk
  | _ => .stk
def E.web (F : FM) (pm : List D → List D) (g : FA) : FE := fun env => (g env).bind fun ds e => match stoOf e with
  | some M => if noPtrs (pm ds) = true then webR (tabsOf M) e (F (tabsOf M ++ [.obj "Web" [] []]) (.ptr (tabsOf M).length :: pm ds)) else .stk
  | none => .stk
theorem four {T : Stt} {G : Hp} {kvs : List (Str × V)} {n fr fo kk : D} (h : kvs.map (·.1) = webKs) (r : VRels T G (kvs.map (·.2)) [n, fr, fo, kk]) : ∃ a b c d, kvs = webF a b c d ∧ VRel T G a n ∧ VRel T G b fr ∧ VRel T G c fo := by
  match kvs, h, r with
  | [(k1, a), (k2, b), (k3, c), (k4, d)], h, .cons r1 (.cons r2 (.cons r3 (.cons r4 .nil))) =>
    simp only [List.map_cons, List.map_nil, List.cons.injEq, and_true] at h
    obtain ⟨rfl, rfl, rfl, rfl⟩ := h
    exact ⟨a, b, c, d, rfl, r1, r2, r3⟩
/-- G with the marks below t alone -/
def clnT (t : Nat) (G : Hp) : Hp := fun a => match G a with
  | some (.own n) => if n < t then some (.own n) else none
  | u => u
theorem clnT_sub {t : Nat} {G : Hp} {a : Addr} {u : HO} (h : clnT t G a = some u) : G a = some u ∧ ∀ n, u = .own n → n < t := by
  unfold clnT at h
  split at h
  · rename_i n q
    split at h
    · cases h; exact ⟨q, fun m z => by cases z; assumption⟩
    · cases h
  · rename_i nm
    exact ⟨h, fun n z => (nm n (by rw [h, z])).elim⟩
theorem clnT_of {t : Nat} {G : Hp} {a : Addr} {u : HO} (h : G a = some u) (n : ∀ m, u = .own m → m < t) : clnT t G a = some u := by
  unfold clnT
  split
  · rename_i m q
    rw [h] at q; cases q
    rw [if_pos (n m rfl)]
  · exact h
/-- behind the private run of an __init__: the ghost heap G3 has o at x, the outer things, what was added -/
theorem web_back {T : Stt} {G1 H1 G2 H2 : Hp} {x dx C : Addr} {M M' : List D} {o : Option HO} (le1 : Le G1 H1) (S1 : StoR T Bz G1 H1 M) (hx : H1 x = none) (hdx : H1 dx = none)
    (P : PostM T (L2.upd (clnT (tabsOf M).length G1) x (.own (tabsOf M).length)) (L2.upd (L2.upd H1 dx (.own x)) x (.ins C dx [])) G2 H2 M')
    (ht : M'.take (tabsOf M).length = tabsOf M) (hl : M'.length = (tabsOf M).length + 1) (ho : ∀ u, o = some u → H2 x = some u ∧ NM u) :
    ∃ G3 : Hp, G3 x = o ∧ PostM T G1 H1 G3 H2 M ∧ ∀ a u, G2 a = some u → NM u → G3 a = some u := by
  obtain ⟨pg, pgh, phh, pad, t1, t2, t3, t4⟩ := P
  obtain ⟨s1, s2, s3, s4⟩ := S1
  have Gx : G1 x = none := le1.none hx
  have a1 : G2 x = some (.own (tabsOf M).length) := pg _ _ upd_same
  have up : ∀ a u, H1 a = some u → a ≠ x ∧ L2.upd (L2.upd H1 dx (.own x)) x (.ins C dx []) a = some u := fun a u e => by
    have n1 : a ≠ x := fun z => by rw [z, hx] at e; cases e
    have n2 : a ≠ dx := fun z => by rw [z, hdx] at e; cases e
    exact ⟨n1, by rw [upd_ne n1, upd_ne n2]; exact e⟩
  let G3 : Hp := fun a => if a = x then o else match G1 a with
    | some u => some u
    | none => G2 a
  have g3x : G3 x = o := if_pos rfl
  have g3o : ∀ a u, G1 a = some u → G3 a = some u := fun a u e => by
    have n : a ≠ x := fun z => by rw [z, Gx] at e; cases e
    show (if a = x then _ else _) = _
    rw [if_neg n, e]
  have g3n : ∀ a, a ≠ x → G1 a = none → G3 a = G2 a := fun a n e => by
    show (if a = x then _ else _) = _
    rw [if_neg n, e]
  have tabs : ∀ n, n < (tabsOf M).length → ∃ q, M[n]? = some (.tab q) ∧ M'[n]? = some (.tab q) := fun n hn => by
    obtain ⟨z1, q, z2⟩ := tabsOf_get (M := M) (List.getElem?_eq_getElem hn)
    have z2' := z1
    rw [z2] at z1
    refine ⟨q, z1, ?_⟩
    have : (M'.take (tabsOf M).length)[n]? = some (.tab q) := by rw [ht, ← z2]; exact List.getElem?_eq_getElem hn
    rwa [List.getElem?_take_of_lt hn] at this
  have mk2 : ∀ a (n : Nat), G1 a = some (.own n) → n < (tabsOf M).length → G2 a = some (.own n) := fun a n e l => by
    have n1 : a ≠ x := fun z => by rw [z, Gx] at e; cases e
    exact pg a _ (by rw [upd_ne n1]; exact clnT_of e fun m z => by cases z; exact l)
  have mk1 : ∀ a (n : Nat), G3 a = some (.own n) → G1 a = some (.own n) := fun a n e => by
    by_cases z : a = x
    · subst z
      rw [g3x] at e
      exact ((ho _ e).2 n rfl).elim
    · cases q1 : G1 a with
      | some w => rw [g3o a w q1] at e; rw [← e]
      | none =>
        rw [g3n a z q1] at e
        have l := t3 a n e
        rw [hl] at l
        by_cases l2 : n < (tabsOf M).length
        · obtain ⟨q, m1, _⟩ := tabs n l2
          obtain ⟨p, b1, _⟩ := s2 n _ m1
          have := t4 _ _ n e (mk2 p n b1 l2)
          rw [this, b1] at q1
          cases q1
        · have : n = (tabsOf M).length := Nat.le_antisymm (Nat.le_of_lt_succ l) (Nat.le_of_not_lt l2)
          subst this
          exact (z (t4 _ _ _ e a1)).elim
  have tr : ∀ a u, G2 a = some u → NM u → G3 a = some u := fun a u e nm => by
    have n : a ≠ x := fun z => by rw [z, a1] at e; cases e; exact nm _ rfl
    cases q1 : G1 a with
    | none => rw [g3n a n q1]; exact e
    | some w =>
      rw [g3o a w q1]
      by_cases mk : ∃ m, w = .own m
      · obtain ⟨m, rfl⟩ := mk
        by_cases l2 : m < (tabsOf M).length
        · rw [mk2 a m q1 l2] at e; cases e; exact (nm m rfl).elim
        · rcases pad a u e with z | z | ⟨xs, z⟩
          · rw [upd_ne n] at z; have := (clnT_sub z).1; rw [q1] at this; cases this; exact (nm m rfl).elim
          · rcases le1 a _ q1 with y | ⟨_, ob, y⟩ | ⟨_, w2, _, y, _⟩ <;> rw [(up a _ y).2] at z <;> cases z
          · subst z
            have y2 := pgh.nd e True.intro
            have hidn : ∀ u, H1 a = some u → H2 a = some u := fun u y => phh a u (by
              rw [hid_no]
              · exact (up a _ y).2
              · intro k z
                rw [upd_ne n] at z
                obtain ⟨z1, z2⟩ := clnT_sub z
                rw [q1] at z1; cases z1
                exact l2 (z2 _ rfl))
            rcases le1 a _ q1 with y | ⟨_, ob, y⟩ | ⟨_, w2, _, y, nt⟩
            · rw [hidn _ y] at y2; cases y2
            · rw [hidn _ y] at y2; cases y2
            · rw [hidn _ y] at y2; cases y2; exact (nt _ rfl).elim
      · have c1 := pg a w (by rw [upd_ne n]; exact clnT_of q1 fun m z => (mk ⟨m, z⟩).elim)
        rw [e] at c1
        exact c1.symm
  have kept : ∀ a u, H1 a = some u → (∀ n, G1 a = some (.own n) → ¬ n < (tabsOf M).length) → H2 a = some u := fun a u e nn => by
    obtain ⟨n1, e1⟩ := up a u e
    refine phh a u (by
      rw [hid_no]
      · exact e1
      · intro k z
        rw [upd_ne n1] at z
        obtain ⟨z1, z2⟩ := clnT_sub z
        exact nn k z1 (z2 k rfl))
  refine ⟨G3, g3x, ⟨fun a u e => g3o a u e, fun a u e => ?_, fun a u e => ?_, fun a u e => ?_, rfl, fun n d e => ?_, fun p n e => s3 p n (mk1 p n e), fun p q n e1 e2 => s4 p q n (mk1 p n e1) (mk1 q n e2)⟩, tr⟩
  · by_cases z : a = x
    · subst z; rw [g3x] at e; exact .inl (ho u e).1
    · cases q1 : G1 a with
      | none => rw [g3n a z q1] at e; exact pgh a u e
      | some w =>
        rw [g3o a w q1] at e
        obtain rfl := Option.some.inj e
        by_cases mk : ∃ m, w = .own m ∧ m < (tabsOf M).length
        · obtain ⟨m, rfl, l2⟩ := mk
          exact pgh a _ (mk2 a m q1 l2)
        · have kp : ∀ u, H1 a = some u → H2 a = some u := fun u y => kept a u y fun n z l => mk ⟨n, by rw [q1] at z; exact Option.some.inj z, l⟩
          rcases le1 a _ q1 with y | ⟨d, ob, y⟩ | ⟨m, w2, e2, y, nt⟩
          · exact .inl (kp _ y)
          · exact .inr (.inl ⟨d, ob, kp _ y⟩)
          · exact .inr (.inr ⟨m, w2, e2, kp _ y, nt⟩)
  · have e1 := hid_sub e
    refine kept a u e1 fun n z _ => ?_
    rw [hid_mark z] at e
    cases e
  · by_cases z : a = x
    · subst z; exact .inr (.inl hx)
    · cases q1 : G1 a with
      | some w => rw [g3o a w q1] at e; cases e; exact .inl rfl
      | none =>
        rw [g3n a z q1] at e
        rcases pad a u e with y | y | y
        · rw [upd_ne z] at y; have := (clnT_sub y).1; rw [q1] at this; cases this
        · cases q2 : H1 a with
          | none => exact .inr (.inl rfl)
          | some w => rw [(up a w q2).2] at y; cases y
        · exact .inr (.inr y)
  · obtain ⟨p, b1, b2, b3, b4⟩ := s2 n d e
    by_cases l2 : n < (tabsOf M).length
    · obtain ⟨q, m1, m2⟩ := tabs n l2
      rw [m1] at e; cases e
      obtain ⟨p2, c1, _, _, c4⟩ := t2 n _ m2
      obtain rfl := t4 _ _ n c1 (mk2 p n b1 l2)
      refine ⟨_, g3o _ _ b1, rfl, rfl, ?_⟩
      rcases c4 with c4 | ⟨_, _, _, _, _, _, z, _⟩ | ⟨q', z, h0, ps, h1, h2, h3⟩
      · exact c4.elim
      · cases z
      · cases z
        refine .inr (.inr ⟨q, rfl, h0, ps, h1, h2, fun pos cv hc => ?_⟩)
        obtain ⟨c, oc, e1, e2⟩ := h3 pos cv hc
        exact ⟨c, oc, e1, tr _ _ e2 fun _ z => nomatch z⟩
    · exact ⟨p, g3o _ _ b1, rfl, rfl, b4.same (fun a u e => g3o a u e) fun u y => kept p u y fun m z => by rw [b1] at z; cases z; exact l2⟩
theorem tE_web {T : Stt} {B : Bse} {W : WX} {C : Addr} {F : FM} {pm : List D → List D} {pV : List V → List V} {g : FA} {σ : St} {H : Hp} {Q : VK} (hm : T.mg "Web" = some (.ref C)) (hp : ∀ G vs ds, VRels T G vs ds → VRels T G (pV vs) (pm ds))
    (h : tE T B W (E.web F pm g) σ H Q) : tAr T B W g σ H fun vs H1 => qNew C (spM T F) W σ Q (pV vs) H1 := by
  obtain ⟨G, env, S, h⟩ := h
  refine ⟨G, env, S, ?_⟩
  unfold E.web at h
  cases q : g env with
  | stk => simp [q, oE] at h
  | exc x e' => simp only [q, Out.bind_exc] at h; exact h
  | ok ds e1 =>
    simp only [q, Out.bind_ok] at h
    cases hM : stoOf e1 with
    | none => simp [hM, oE] at h
    | some M =>
    simp only [hM] at h
    split at h
    · rename_i hnp
      intro G1 H1 S1 l1 vs r1 x dx hx hdx ne
      have sM := S1.bz hM
      have cx : G1 x = none := S1.gh.none hx
      have H'x : L2.upd (L2.upd H1 dx (.own x)) x (.ins C dx []) x = some (.ins C dx []) := upd_same
      have up : ∀ a u, H1 a = some u → a ≠ x ∧ L2.upd (L2.upd H1 dx (.own x)) x (.ins C dx []) a = some u := fun a u e => by
        have n1 : a ≠ x := fun z => by rw [z, hx] at e; cases e
        have n2 : a ≠ dx := fun z => by rw [z, hdx] at e; cases e
        exact ⟨n1, by rw [upd_ne n1, upd_ne n2]; exact e⟩
      let t := (tabsOf M).length
      have gx : ∀ a (n : Nat), L2.upd (clnT t G1) x (.own t) a = some (.own n) → (a = x ∧ n = t) ∨ (a ≠ x ∧ G1 a = some (.own n) ∧ n < t) := fun a n e => by
        by_cases z : a = x
        · subst z; rw [upd_same] at e; cases e; exact .inl ⟨rfl, rfl⟩
        · rw [upd_ne z] at e
          obtain ⟨z1, z2⟩ := clnT_sub e
          exact .inr ⟨z, z1, z2 n rfl⟩
      have le0 : Le (L2.upd (clnT t G1) x (.own t)) (L2.upd (L2.upd H1 dx (.own x)) x (.ins C dx [])) := fun a u e => by
        by_cases z : a = x
        · subst z; rw [upd_same] at e; cases e; exact .inr (.inr ⟨t, _, rfl, H'x, fun _ z => nomatch z⟩)
        · rw [upd_ne z] at e
          obtain ⟨e1, _⟩ := clnT_sub e
          rcases S1.gh a u e1 with y | ⟨d, ob, y⟩ | ⟨n, w, m, y, nt⟩
          · exact .inl (up a u y).2
          · exact .inr (.inl ⟨d, ob, (up a _ y).2⟩)
          · exact .inr (.inr ⟨n, w, m, (up a _ y).2, nt⟩)
      have tlen : ∀ n, n < t → n < M.length := fun n hn => by
        obtain ⟨z1, _⟩ := tabsOf_get (M := M) (List.getElem?_eq_getElem hn)
        exact (List.getElem?_eq_some_iff.mp z1).1
      have st0 : StoR T Bz (L2.upd (clnT t G1) x (.own t)) (L2.upd (L2.upd H1 dx (.own x)) x (.ins C dx [])) (tabsOf M ++ [.obj "Web" [] []]) := by
        obtain ⟨s1, s2, s3, s4⟩ := sM
        refine ⟨rfl, fun n d e => ?_, fun p n e => ?_, fun p q n e1 e2 => ?_⟩
        · rw [List.getElem?_append] at e
          split at e
          · rename_i hn
            obtain ⟨m1, q, rfl⟩ := tabsOf_get e
            obtain ⟨p, b1, _, _, b4⟩ := s2 n _ m1
            have np : p ≠ x := fun z => by rw [z, cx] at b1; cases b1
            refine ⟨p, by rw [upd_ne np]; exact clnT_of b1 fun m z => by cases z; exact hn, rfl, rfl, ?_⟩
            rcases b4 with b4 | ⟨_, _, _, _, _, _, z, _⟩ | ⟨q', z, h0, ps, h1, h2, h3⟩
            · exact b4.elim
            · cases z
            · cases z
              refine .inr (.inr ⟨q, rfl, h0, ps, (up _ _ h1).2, h2, fun pos cv hc => ?_⟩)
              obtain ⟨c, oc, e1, e2⟩ := h3 pos cv hc
              have nc : c ≠ x := fun z => by rw [z, cx] at e2; cases e2
              exact ⟨c, oc, e1, by rw [upd_ne nc]; exact clnT_of e2 fun _ z => nomatch z⟩
          · rename_i hn
            have : n = t := by
              have h1 : n - (tabsOf M).length < 1 := (List.getElem?_eq_some_iff.mp e).1
              show n = (tabsOf M).length
              omega
            subst this
            rw [Nat.sub_self] at e
            cases e
            exact ⟨x, upd_same, rfl, rfl, .inr (.inl ⟨"Web", [], [], C, dx, [], rfl, hm, H'x, rfl, .nil⟩)⟩
        · rw [List.length_append]
          rcases gx p n e with ⟨_, rfl⟩ | ⟨_, _, l⟩
          · exact Nat.lt_succ_self _
          · exact Nat.lt_succ_of_lt l
        · rcases gx p n e1 with ⟨rfl, rfl⟩ | ⟨_, z1, l1⟩ <;> rcases gx q _ e2 with ⟨rfl, z⟩ | ⟨_, z2, l2⟩
          · rfl
          · exact (Nat.lt_irrefl _ l2).elim
          · subst z; exact (Nat.lt_irrefl _ l1).elim
          · exact s4 p q n z1 z2
      have rv : VRels T (L2.upd (clnT t G1) x (.own t)) (pV vs) (pm ds) := (hp _ _ _ r1).mono (fun a u e nm => by
        have n1 : a ≠ x := fun z => by rw [z, cx] at e; cases e
        rw [upd_ne n1]; exact clnT_of e fun m z => (nm m z).elim) hnp
      refine ⟨_, .ptr t :: pm ds, _, le0, st0, .cons (.ptr upd_same) rv, ?_⟩
      have set0 : setSto e1 M = e1 := by
        have hl := stoOf_last hM
        obtain ⟨h1, h2⟩ := List.getElem?_eq_some_iff.mp hl
        unfold setSto
        rw [← h2]
        exact List.set_getElem_self h1
      cases qz : F (tabsOf M ++ [.obj "Web" [] []]) (.ptr (tabsOf M).length :: pm ds) with
      | stk => rw [qz] at h; simp [webR, oE] at h
      | exc x0 M' =>
        rw [qz] at h
        cases x0 with
        | x0 c0 => simp [webR, oE] at h
        | x1 c0 f0 v0 =>
          rw [webR] at h
          split at h
          · rename_i hc
            obtain ⟨hc1, hc2, hc3⟩ := hc
            intro cls d G2 H2 P rx
            obtain ⟨G3, _, P3, tr⟩ := web_back (o := none) S1.gh sM hx hdx P (tabEq_eq hc1) hc2 (fun u z => nomatch z)
            have S3 := S1.afterM hM P3
            rw [set0] at S3
            refine h cls d G3 H2 S3 (l1.trans P3.g) ?_
            obtain ⟨C0, dd, v, c1, c2, c3, c4, c5⟩ := rx
            exact ⟨C0, dd, v, c1, c2, c3, tr _ _ c4 (fun _ z => nomatch z), c5.mono tr hc3⟩
          · exact h.elim
      | ok z M' =>
        rw [qz] at h
        cases z with
        | non =>
          rw [webR] at h
          split at h
          · rename_i c ks n fr fo kk hd
            split at h
            · rename_i hc
              obtain ⟨hc1, rfl, rfl, n1, n2, n3⟩ := hc
              intro v G2 H2 P rv2
              cases rv2
              refine ⟨rfl, ?_⟩
              have hT := tabEq_eq hc1
              have hl : M'.length = (tabsOf M).length + 1 := by
                have h1 := congrArg List.length hd
                have h2 := congrArg List.length hT
                rw [List.length_drop] at h1
                rw [List.length_take] at h2
                simp at h1
                omega
              have hat : M'[(tabsOf M).length]? = some (.obj "Web" webKs [n, fr, fo, kk]) := by
                have := congrArg (fun l => l[0]?) hd
                simpa using this
              obtain ⟨p, a1, _, _, a4⟩ := P.sto.at_ _ _ hat
              obtain rfl : p = x := P.sto.inj _ _ _ a1 (P.g _ _ upd_same)
              rcases a4 with a4 | ⟨c2, ks2, xs2, C2, dx2, kvs, z, mc, hh, hk, rr⟩ | ⟨_, z, _⟩
              · exact a4.elim
              · cases z
                have mc' := mc
                rw [hm] at mc'
                cases mc'
                obtain ⟨va, vb, vc, vd, rfl, w1, w2, w3⟩ := four hk rr
                obtain ⟨G3, g3x, P3, tr⟩ := web_back (o := some (.ins C dx2 (webF va vb vc vd))) S1.gh sM hx hdx P hT hl (fun u z => by cases z; exact ⟨hh, fun _ z => nomatch z⟩)
                have S3 := S1.afterM hM P3
                rw [set0] at S3
                exact h G3 H2 S3 (l1.trans P3.g) _ (.web hm g3x (w1.mono tr n1) (w2.mono tr n2) (w3.mono tr n3))
              · cases z
            · exact h.elim
          · exact h.elim
        | _ => simp [webR, oE] at h
    · exact h.elim
section
variable {X : Cx} {c : Str} {e : Expr} {es : List Expr} {p pos : Pos} {k : Nat} {F : FM} {g : FA} {dvs : List D} {ks : List Str} {pm : List D → List D} {kws : List Keyword}
/-- how c(..) is evaluated by place -/
theorem pe_newD {B : Bse} {W : WX} {f : FE} (tk : Takes X W) (D : NewD X.prog X.w X.K X.mg X.base c k dvs F) (hr : Room (k + 1) X.A) (ha : DA X (e :: es) g) (hg : Gl X c)
    (hE : ∀ (C : Addr) (pV : List V → List V) (σ : St) (H : Hp) (Q : VK), X.mg c = some (.ref C) → (∀ G vs ds, VRels ⟨X.K, X.mg⟩ G vs ds → VRels ⟨X.K, X.mg⟩ G (pV vs) (ds ++ dvs)) → tE ⟨X.K, X.mg⟩ B W f σ H Q → tAr ⟨X.K, X.mg⟩ B W g σ H fun vs H1 => qNew C (spM ⟨X.K, X.mg⟩ F) W σ Q (pV vs) H1)
    (hdb : (c == ("__debug__" : Str)) = false) (he : starEach (e :: es) X.env = (false, eval e X.env) :: starEach es X.env) (hpl : (backTo pos (starEach es X.env)).any (·.1) = false) : PE X (.Call (.Name c p) (e :: es) [] pos) (tE ⟨X.K, X.mg⟩ B W f) := by
  obtain ⟨C, f, fd, ps, ds, dV, hm, hM, rd, hd, hb, Fk⟩ := D.ex
  refine ⟨fun pins s σ H Q I h => ?_⟩
  refine wpAny_Call_Name_kw (ld_glob I hg hm ?_ hdb)
  refine PySem.W.callWith_K (h₀ := X.base) I.ok.mod.kin hM.kp (thn ((ha.run B W tk).run pos pins s σ H _ I (hE C (fun vs => vs ++ dV) σ H Q hm (fun G vs ds r => r.append (hd G)) h)) fun us s1 ⟨vs, H1, I1, r, q⟩ => ⟨I1.kIn, ?_⟩) he hpl
  have r2 := r.append rd
  have hl : (us ++ ds).length + 1 = ps.length := by
    have := Fk.len _ _ _ _ (q (s1.heap.objs.size + 1) s1.heap.objs.size (I1.hok.fresh (Nat.le_succ _)) (I1.hok.fresh (Nat.le_refl _)) (Nat.ne_of_lt (Nat.lt_succ_self _)))
    rw [← this, ← r2.length]; rfl
  refine run_makeA (E := WE W) hM Fk hr (fun s inK a => ?_) (passAt tk σ) I1 r2 q
  have := hb s (.ref a :: us) inK (by simpa using hl)
  simpa using this
theorem pe_newK {B : Bse} {W : WX} {f : FE} (tk : Takes X W) (D : NewK X.prog X.w X.K X.mg X.base c k ks pm F) (hr : Room (k + 1) X.A) (ha : DK X kws g) (hg : Gl X c)
    (hE : ∀ (C : Addr) (pV : List V → List V) (σ : St) (H : Hp) (Q : VK), X.mg c = some (.ref C) → (∀ G vs ds, VRels ⟨X.K, X.mg⟩ G vs ds → VRels ⟨X.K, X.mg⟩ G (pV vs) (pm ds)) → tE ⟨X.K, X.mg⟩ B W f σ H Q → tAr ⟨X.K, X.mg⟩ B W g σ H fun vs H1 => qNew C (spM ⟨X.K, X.mg⟩ F) W σ Q (pV vs) H1)
    (hdb : (c == ("__debug__" : Str)) = false) (hall : (backToKw pos (keywordEach kws X.env)).all (·.1.isSome) = true) (hks : (backToKw pos (keywordEach kws X.env)).filterMap (·.1) = ks) 
    (hpl : ((backTo pos (starEach [] X.env)).any (·.1) || (backToKw pos (keywordEach kws X.env)).any (·.1.isNone)) = false) : PE X (.Call (.Name c p) [] kws pos) (tE ⟨X.K, X.mg⟩ B W f) := by
  obtain ⟨C, f, fd, ps, hm, hM, ⟨pv, pV, hb, hv, hd⟩, Fk⟩ := D.ex
  refine ⟨fun pins s σ H Q I h => ?_⟩
  refine wpAny_Call_Name_kw (ld_glob I hg hm ?_ hdb)
  refine PySem.W.callWith_KW0 (h₀ := X.base) I.ok.mod.kin hM.kp hall ?_ hpl
  have h0 := (ha.run B W tk).run pos pins s σ H _ I (hE C pV σ H Q hm hd h)
  refine thn h0 fun ws s1 ⟨zs, H1, I1, r, q⟩ => ⟨I1.kIn, ?_⟩
  have hl : (pv ws).length + 1 = ps.length := by
    have := Fk.len _ _ _ _ (q (s1.heap.objs.size + 1) s1.heap.objs.size (I1.hok.fresh (Nat.le_succ _)) (I1.hok.fresh (Nat.le_refl _)) (Nat.ne_of_lt (Nat.lt_succ_self _)))
    rw [← this, ← (hv _ _ r).length]; rfl
  rw [hks]
  exact run_makeA (E := WE W) hM Fk hr (fun s inK a => hb s a ws inK hl) (passAt tk σ) I1 (hv _ _ r) q
theorem de_newD (D : NewD X.prog X.w X.K X.mg X.base c k dvs F) (hr : Room (k + 1) X.A) (ha : DA X (e :: es) g) (hg : Gl X c := by rfl) (hdb : (c == ("__debug__" : Str)) = false := by decide)
    (he : starEach (e :: es) X.env = (false, eval e X.env) :: starEach es X.env := by rfl) (hpl : (backTo pos (starEach es X.env)).any (·.1) = false := by rfl) : DE X (.Call (.Name c p) (e :: es) [] pos) (E.newX c F (· ++ dvs) g) :=
  ⟨fun B W tk => pe_newD tk D hr ha hg (fun C pV σ H Q hm hp h => tE_newX hm hp h) hdb he hpl⟩
theorem de_webD (D : NewD X.prog X.w X.K X.mg X.base "Web" k dvs F) (hr : Room (k + 1) X.A) (ha : DA X (e :: es) g) (hg : Gl X "Web" := by rfl)
    (he : starEach (e :: es) X.env = (false, eval e X.env) :: starEach es X.env := by rfl) (hpl : (backTo pos (starEach es X.env)).any (·.1) = false := by rfl) : DE X (.Call (.Name "Web" p) (e :: es) [] pos) (E.web F (· ++ dvs) g) :=
  ⟨fun B W tk => pe_newD tk D hr ha hg (fun C pV σ H Q hm hp h => tE_web hm hp h) (by decide) he hpl⟩
theorem de_newK (D : NewK X.prog X.w X.K X.mg X.base c k ks pm F) (hr : Room (k + 1) X.A) (ha : DK X kws g) (hg : Gl X c := by rfl) (hdb : (c == ("__debug__" : Str)) = false := by decide)
    (hall : (backToKw pos (keywordEach kws X.env)).all (·.1.isSome) = true := by rfl) (hks : (backToKw pos (keywordEach kws X.env)).filterMap (·.1) = ks := by rfl)
    (hpl : ((backTo pos (starEach [] X.env)).any (·.1) || (backToKw pos (keywordEach kws X.env)).any (·.1.isNone)) = false := by rfl) : DE X (.Call (.Name c p) [] kws pos) (E.newX c F pm g) :=
  ⟨fun B W tk => pe_newK tk D hr ha hg (fun C pV σ H Q hm hp h => tE_newX hm hp h) hdb hall hks hpl⟩
end
end DL
-- DL21
set_option maxRecDepth 100000
set_option maxHeartbeats 4000000
/-! DL21: lambdas handed to defs: what a callable parameter promises, the lambda made, its body run. -/
namespace DL
open PySem PySem.Spec PyProof.Rows L2
/-! ### a callable parameter -/
/-- f, called from frames above up, as long as what stood at (s0, H0) stands, does sp -/
structure LamOk (P : Program) (w : World) (K : PySem.W.Frag) (mg : Str → Option Value) (base : Heap) (k : Nat) (up : List Env) (H0 : Hp) (s0 : Shared) (f : Addr) (sp : Sp) : Prop where
  obj : PySem.W.FnAt f s0.heap
  hfn : H0 f = none
  nfr : f ∉ frs up
  run : ∀ (A : Around) (outer : List Env) (s : Shared) (H : Hp) (us : List Value) (vs : List V) (Q : VK) (E : XK), Room k A → Env0 P w K mg base A outer s H → Un (frs up) [] H0 H s0.heap s.heap → Vals vs us → sp vs H Q E →
    codeAny (model P w) A (.call (.ref f) ⟨us, []⟩) (CR (L2.CX P w) outer P w H s Q E) s
/-- X is the context of a def that got f when it was called -/
structure LamIn (X : Cx) (k : Nat) (f : Addr) (sp : Sp) : Prop where
  ok : LamOk X.prog X.w X.K X.mg X.base k X.outer X.H_0 X.s_0 f sp
  ex : X.ex = []
section
variable {X : Cx} {k i : Nat} {f : Addr} {sp : Sp} {E : St → XK} {x : Str} {p pos : Pos} {e : Expr} {es : List Expr} {t : TA}
theorem LamIn.fnAt (L : LamIn X k f sp) {pins : List (Addr × Obj)} {σ : St} {H : Hp} {s : Shared} (J : Inv X pins σ H s) : PySem.W.FnAt f s.heap := by
  obtain ⟨oc, od, fd, sl, e⟩ := L.ok.obj
  exact ⟨_, _, _, _, J.base.keep f _ e L.ok.hfn L.ok.nfr (by rw [L.ex]; exact fun z => nomatch z)⟩
theorem LamIn.call (L : LamIn X k f sp) (hr : Room k X.A) {σ : St} (hx : PassesAt (L2.CX X.prog X.w) X σ (E σ)) {pins : List (Addr × Obj)} {H : Hp} {s : Shared} {Q : VK} {us : List Value} {vs : List V} (I : Inv X pins σ H s) (r : Vals vs us) (q : sp vs H Q (E σ)) :
    wpAny (model X.prog X.w) X.A (call (.ref f) us) (EP X pins σ Q) X.xe s := by
  refine wpAny_call (codeAny_mono (L.ok.run X.A X.stack s H us vs Q (E σ) hr I.env0 (by have := I.base; rw [L.ex] at this; exact this) r q) fun r s' hq => ?_)
  cases r with
  | error e => exact hx pins H s e s' I hq
  | ok fl =>
    cases fl with
    | ret u => exact I.after hq
    | next => exact False.elim hq
    | brk => exact False.elim hq
    | cont => exact False.elim hq
theorem pe_actL (L : LamIn X k f sp) (hr : Room k X.A) (hN : X.N[i]? = some x) (hv : Vis X.env.scope x) (hx : ∀ σ, PassesAt (L2.CX X.prog X.w) X σ (E σ)) (ha : PA X (e :: es) t) (hdb : (x == ("__debug__" : Str)) = false) (hcd : (x == ("__classdict__" : Str)) = false)
    (he : starEach (e :: es) X.env = (false, eval e X.env) :: starEach es X.env) (hpl : (backTo pos (starEach es X.env)).any (·.1) = false) :
    PE X (.Call (.Name x p) (e :: es) [] pos) (fun σ H Q => σ[i]? = some (some (.ref f)) ∧ t σ H fun vs H1 => sp vs H1 Q (E σ)) := by
  refine ⟨fun pins s σ H Q I h => ?_⟩
  obtain ⟨hs, ht⟩ := h
  refine wpAny_Call_Name_kw (thn ((pe_var (pos := p) hN hv hdb hcd).run pins s σ H (fun v H1 => v = .ref f ∧ H1 = H) I ⟨.ref f, hs, rfl, rfl⟩) fun u s1 ⟨v, H1, I1, r1, q1⟩ => ?_)
  obtain ⟨rfl, rfl⟩ := q1
  cases r1
  exact PySem.W.callWith_F (L.fnAt I1) (thn (ha.run pos pins s1 σ _ _ I1 ht) fun us s2 ⟨vs, H2, I2, r, q⟩ => ⟨L.fnAt I2, L.call hr (hx σ) I2 r q⟩) he hpl
theorem pe_actL0 (L : LamIn X k f sp) (hr : Room k X.A) (hN : X.N[i]? = some x) (hv : Vis X.env.scope x) (hx : ∀ σ, PassesAt (L2.CX X.prog X.w) X σ (E σ)) (hdb : (x == ("__debug__" : Str)) = false) (hcd : (x == ("__classdict__" : Str)) = false) :
    PE X (.Call (.Name x p) [] [] pos) (fun σ H Q => σ[i]? = some (some (.ref f)) ∧ sp [] H Q (E σ)) := by
  refine ⟨fun pins s σ H Q I h => ?_⟩
  obtain ⟨hs, q⟩ := h
  refine wpAny_Call_Name_kw (thn ((pe_var (pos := p) hN hv hdb hcd).run pins s σ H (fun v H1 => v = .ref f ∧ H1 = H) I ⟨.ref f, hs, rfl, rfl⟩) fun u s1 ⟨v, H1, I1, r1, q1⟩ => ?_)
  obtain ⟨rfl, rfl⟩ := q1
  cases r1
  exact PySem.W.callWith_F0 (L.fnAt I1) (L.call (us := []) hr (hx σ) I1 .nil q)
end
/-- what a callable that was handed over at the ghost heap G0 promises -/
def spL (T : Stt) (G0 : Hp) (F : FM) : Sp := fun vs H Q E => ∃ G ds M, Same G0 G ∧ Le G H ∧ StoR T Bz G H M ∧ VRels T G vs ds ∧ oM T G H (F M ds) Q E
def moR (e : Ev) : MO → Out EV
  | .ok z M' => .ok (.dv z) (setSto e M')
  | .exc x M' => .exc x (setSto e M')
  | .stk => .stk
open Classical in
noncomputable def E.act (i : Nat) (f : Addr) (G0 : Hp) (F : FM) (g : FA) : FE := fun env => match env[i]? with
  | some (.val (.adr a G)) => if a = f ∧ G = G0 then ((g env).bind fun ds e => match stoOf e with
    | some M => moR e (F M ds)
    | none => .stk) else .stk
  | _ => .stk
theorem tE_act {T : Stt} {B : Bse} {W : WX} {i : Nat} {f : Addr} {G0 : Hp} {F : FM} {g : FA} {σ : St} {H : Hp} {Q : VK} (h : tE T B W (E.act i f G0 F g) σ H Q) :
    σ[i]? = some (some (.ref f)) ∧ tAr T B W g σ H fun vs H1 => spL T G0 F vs H1 Q (WE W σ) := by
  obtain ⟨G, env, S, h⟩ := h
  unfold E.act at h
  split at h
  · rename_i a G2 q0
    split at h
    · rename_i hc
      obtain ⟨rfl, rfl⟩ := hc
      obtain ⟨v, v1, v2⟩ := S.val i _ q0
      cases v2 with
      | adr _ sg =>
        refine ⟨v1, G, env, S, ?_⟩
        cases q : g env with
        | stk => simp [q, oE] at h
        | exc x e' => simp only [q, Out.bind_exc] at h; exact h
        | ok ds e1 =>
          simp only [q, Out.bind_ok] at h
          cases hM : stoOf e1 with
          | none => simp [hM, oE] at h
          | some M =>
            simp only [hM] at h
            refine fun G1 H1 S1 l1 vs r1 => ⟨G1, ds, M, sg.trans l1, S1.gh, S1.bz hM, r1, ?_⟩
            cases qz : F M ds with
            | stk => simp [qz, moR, oE] at h
            | ok z M' =>
              simp only [qz, moR] at h
              exact fun v G' H' P rv => h G' H' (S1.afterM hM P) (l1.trans P.g) v rv
            | exc x M' =>
              simp only [qz, moR] at h
              exact fun cls d G' H' P rx => h cls d G' H' (S1.afterM hM P) (l1.trans P.g) rx
    · exact h.elim
  · exact h.elim
section
variable {X : Cx} {k : Nat} {f : Addr} {G0 : Hp} {F : FM} {x : Str} {p pos : Pos} {e : Expr} {es : List Expr} {g : FA}
theorem de_act (i : Nat) (L : LamIn X k f (spL ⟨X.K, X.mg⟩ G0 F)) (hr : Room k X.A) (ha : DA X (e :: es) g) (hN : X.N[i]? = some x := by rfl) (hv : Vis X.env.scope x := by first | exact Or.inl rfl | exact Or.inr (Or.inl rfl) | exact Or.inr (Or.inr rfl))
    (hdb : (x == ("__debug__" : Str)) = false := by decide) (hcd : (x == ("__classdict__" : Str)) = false := by decide)
    (he : starEach (e :: es) X.env = (false, eval e X.env) :: starEach es X.env := by rfl) (hpl : (backTo pos (starEach es X.env)).any (·.1) = false := by rfl) : DE X (.Call (.Name x p) (e :: es) [] pos) (E.act i f G0 F g) :=
  ⟨fun B W tk => (pe_actL L hr hN hv (fun σ => passAt tk σ) (ha.run B W tk) hdb hcd he hpl).imp fun σ H Q h => tE_act h⟩
theorem de_act0 (i : Nat) (L : LamIn X k f (spL ⟨X.K, X.mg⟩ G0 F)) (hr : Room k X.A) (hN : X.N[i]? = some x := by rfl) (hv : Vis X.env.scope x := by first | exact Or.inl rfl | exact Or.inr (Or.inl rfl) | exact Or.inr (Or.inr rfl))
    (hdb : (x == ("__debug__" : Str)) = false := by decide) (hcd : (x == ("__classdict__" : Str)) = false := by decide) : DE X (.Call (.Name x p) [] [] pos) (E.act i f G0 F A.nil) :=
  ⟨fun B W tk => (pe_actL0 L hr hN hv (fun σ => passAt tk σ) hdb hcd).imp fun σ H Q h => by
    obtain ⟨h1, G, env, S, h2⟩ := tE_act h
    exact ⟨h1, h2 G H S (Same.refl G) [] .nil⟩⟩
end
/-! ### a def that gets a callable -/
/-- the def x; F: what it does with a callable that does TH, handed over as adr f G0 -/
structure DefOkL (P : Program) (w : World) (K : PySem.W.Frag) (mg : Str → Option Value) (base : Heap) (x : Str) (n k : Nat) (F : FM → Addr → Hp → FM) : Prop where
  ex : ∃ g, mg x = some (.ref g) ∧ PySem.W.keepIn K (.ref g) = true ∧ ∀ (f : Addr) (G0 : Hp) (TH : FM) (A : Around) (up : List Env) (s : Shared) (H : Hp) (us : List Value) (vs : List V) (Q : VK) (E : XK),
    Room (k + 1) A → Env0 P w K mg base A up s H → LamOk P w K mg base k up H s f (spL ⟨K, mg⟩ G0 TH) → Vals vs us → us.length = n → spM ⟨K, mg⟩ (F TH f G0) vs H Q E → codeAny (model P w) A (.call (.ref g) ⟨us, []⟩) (CR (L2.CX P w) up P w H s Q E) s
theorem defL_of {dvs : List V} {kws : List (Str × V)} {P : Program} {w : World} {K : PySem.W.Frag} {mg : Str → Option Value} {base : Heap} {x qual : Str} {st : Stmt} {g : Addr} {fd : FuncData} {N ps : List Str} {k : Nat} {body : FM → Addr → Hp → FS} (Fd : FunD K x qual (defArgs st) (defBody st) (defScope st) dvs kws g fd) (S : FnScope N ps (defScope st)) (hp : ps.length ≤ N.length)
    (hm : mg x = some (.ref g)) (hb : Binds K fd ps [])
    (hbody : ∀ (f : Addr) (G0 : Hp) (TH : FM) (cdv : Value) (A : Around) (up : List Env) (s : Shared) (H : Hp) (E : XK), Room k (A.deeper (envOfC qual (defScope st) s.heap.objs.size g cdv)) → LamIn (cxOf (L2.CX P w) P w K mg base N qual (defScope st) g cdv A up s H E) k f (spL ⟨K, mg⟩ G0 TH) →
      DSs (cxOf (L2.CX P w) P w K mg base N qual (defScope st) g cdv A up s H E) (defBody st) (body TH f G0)) : DefOkL P w K mg base x ps.length k (fun TH f G0 => mkM N.length ps.length (body TH f G0)) := by
  refine ⟨g, hm, Fd.kp, fun f G0 TH A up s H us vs Q E hr e0 L r hl hsp => ?_⟩
  obtain ⟨oc, od, dV, kV, doc, pm, an, cdv, ct, osl, rfl, lk, hcd, _, _⟩ := Fd.ex
  have inK : K.In s.heap := e0.mod.kin.keeps fun b o q => (e0.bs b o q).1
  have b := hb s us inK (by simpa using hl)
  rw [List.append_nil] at b
  exact LamX.run_ofS lk hcd S hr e0 b r (len_M hsp) fun hr2 => core_M hp (hbody f G0 TH cdv A up s H E hr2 ⟨L, rfl⟩) hsp
/-! ### the lambda's names -/
/-- its parameters are its locals; else captured names and globals -/
structure LamSP (sc scope : Scope) (ps : List Str) : Prop where
  kind : scope.kind = .function
  co : scope.isCoroutine = false
  gen : scope.isGenerator = false
  cell : ∀ y ∈ scope.names, y.2 ≠ .cell
  own : ∀ y ∈ scope.names, y.2 = .local → y.1 ∈ ps
  par : ∀ x ∈ ps, scope.names.lookup x = some .local
  nd : ps.Nodup
  free : ∀ y ∈ scope.names, y.2 = .free → sc.names.lookup y.1 = some .cell ∨ sc.names.lookup y.1 = some .free
def lamSPB (sc scope : Scope) (ps : List Str) : Bool :=
  decide (scope.kind = .function) && !scope.isCoroutine && !scope.isGenerator && (scope.names.all fun y => !decide (y.2 = .cell) && (!decide (y.2 = .local) || ps.contains y.1) && (!decide (y.2 = .free) || decide (sc.names.lookup y.1 = some .cell) || decide (sc.names.lookup y.1 = some .free))) && (ps.all fun x => decide (scope.names.lookup x = some .local)) && decide ps.Nodup
theorem lamSP_by {sc scope : Scope} {ps : List Str} (h : lamSPB sc scope ps = true) : LamSP sc scope ps := by
  unfold lamSPB at h
  simp only [Bool.and_eq_true, Bool.or_eq_true, Bool.not_eq_true', decide_eq_true_eq, decide_eq_false_iff_not, List.all_eq_true] at h
  obtain ⟨⟨⟨⟨⟨h1, h2⟩, h3⟩, h4⟩, h5⟩, h6⟩ := h
  refine ⟨h1, h2, h3, fun y hy => (h4 y hy).1.1, fun y hy e => ?_, h5, h6, fun y hy e => ?_⟩
  · rcases (h4 y hy).1.2 with z | z
    · exact absurd e z
    · exact List.contains_iff_mem.mp z
  · rcases (h4 y hy).2 with (z | z) | z
    · exact absurd e z
    · exact .inl z
    · exact .inr z
theorem LamSP.has {X : Cx} {scope : Scope} {ps : List Str} (L : LamSP X.env.scope scope ps) (ok : X.Ok) : ∀ y ∈ scope.names, y.2 = .free → ∃ c, X.env.cells.lookup y.1 = some c := fun y hy e => by
  rcases L.free y hy e with k | k
  · exact ok.has _ (.inl k)
  · exact ok.has _ (.inr k)
/-! ### the parameters' slots -/
def setP : St → List Nat → List V → St
  | σ, i :: is, v :: vs => setP (σ.set i (some v)) is vs
  | σ, _, _ => σ
theorem setP_length : ∀ (is : List Nat) (vs : List V) (σ : St), (setP σ is vs).length = σ.length
  | [], _, _ => rfl
  | _ :: _, [], _ => rfl
  | i :: is, v :: vs, σ => by rw [setP, setP_length is vs, List.length_set]
theorem setP_get : ∀ {is : List Nat} {vs : List V} {σ : St} {i : Nat} {v : V}, is.length = vs.length → is.Nodup → (setP σ is vs)[i]? = some (some v) → (∃ j : Nat, is[j]? = some i ∧ vs[j]? = some v) ∨ (i ∉ is ∧ σ[i]? = some (some v))
  | [], [], σ, i, v, _, _, h => .inr ⟨by simp, h⟩
  | k :: is, u :: vs, σ, i, v, hl, nd, h => by
    rw [setP] at h
    rcases setP_get (by simpa using hl) (List.nodup_cons.mp nd).2 h with ⟨j, h1, h2⟩ | ⟨h1, h2⟩
    · exact .inl ⟨j + 1, by simpa using h1, by simpa using h2⟩
    · by_cases e : k = i
      · subst e
        by_cases hk : k < σ.length
        · rw [List.getElem?_set_self hk] at h2
          cases h2
          exact .inl ⟨0, rfl, rfl⟩
        · rw [List.getElem?_eq_none_iff.mpr (by rw [List.length_set]; omega)] at h2
          cases h2
      · rw [List.getElem?_set_ne e] at h2
        exact .inr ⟨fun z => (List.mem_cons.mp z).elim (fun z => e z.symm) h1, h2⟩
  | [], _ :: _, _, _, _, h, _, _ => by cases h
  | _ :: _, [], _, _, _, h, _, _ => by cases h
theorem zip_lookup : ∀ {ps : List Str} {us : List Value} {j : Nat} {y : Str} {u : Value}, ps.Nodup → ps[j]? = some y → us[j]? = some u → (ps.zip us).reverse.lookup y = some u
  | [], _, _, _, _, _, h, _ => by simp at h
  | _ :: _, [], _, _, _, _, _, h => by simp at h
  | p :: ps, w :: us, 0, y, u, nd, h1, h2 => by
    simp at h1 h2
    subst h1; subst h2
    rw [List.zip_cons_cons, List.reverse_cons, List.lookup_append]
    have : (ps.zip us).reverse.lookup p = none := by
      cases q : (ps.zip us).reverse.lookup p with
      | none => rfl
      | some v =>
        have m := PySem.mem_of_lookup q
        rw [List.mem_reverse] at m
        exact ((List.nodup_cons.mp nd).1 (List.of_mem_zip m).1).elim
    rw [this]
    simp [List.lookup]
  | p :: ps, w :: us, j + 1, y, u, nd, h1, h2 => by
    rw [List.zip_cons_cons, List.reverse_cons, List.lookup_append, zip_lookup (List.nodup_cons.mp nd).2 (by simpa using h1) (by simpa using h2)]
    rfl
open LamX (lamEnv lamCx)
section
variable {X : Cx} {pins : List (Addr × Obj)} {σ : L2.St} {H HZ : Hp} {s s1 : Shared}
/-- the lambda's frame is entered -/
theorem lam_start3 {A : Around} {outer : List Env} {E : XK} {scope : Scope} {ps : List Str} {is : List Nat} {f c' : Addr} {h₁ : Heap} {tk : Nat} {us : List Value} {vs : List V} (I : Inv X pins σ H s) (L : LamSP X.env.scope scope ps) (e0 : Env0 X.prog X.w X.K X.mg X.base A outer s1 HZ) (hd : A.handled = none)
    (un : Un (frs X.stack) [] H HZ s.heap s1.heap) (hN : X.N.Nodup) (hi : is.map (fun i => X.N[i]?) = ps.map some) (rv : Vals vs us) (hl : vs.length = ps.length) (hns : h₁.Ns s1.heap.objs.size fun y => (ps.zip us).reverse.lookup y) (kp : ∀ b o, s1.heap.get? b = some o → h₁.get? b = some o) :
    Inv (lamCx X A outer s1 HZ E scope f c') [] (setP σ is vs) HZ { s1 with heap := h₁, toks := tk } := by
  have hfree := L.has I.ok
  have cm : ∀ {y c}, (cloFrom X.env.cells scope.names []).lookup y = some c → X.env.cells.lookup y = some c := fun {y c} e => by
    rcases cloFrom_mem (PySem.mem_of_lookup e) with hm | ⟨h1, h2⟩
    · cases hm
    · obtain ⟨c1, hc⟩ := hfree _ h1 rfl
      have hc : X.env.cells.lookup y = some c1 := hc
      have e2 : c = c1 := by
        rw [h2, hc] <;> rfl
      rw [e2]
      exact hc
  have look : ∀ {y}, scope.names.lookup y = some .free → ∃ c, (cloFrom X.env.cells scope.names []).lookup y = some c := fun {y} hl => by
    have hy : (y, NameKind.free) ∈ scope.names := PySem.mem_of_lookup hl
    exact mem_lookup (cloFrom_has (cells := X.env.cells) (acc := []) hy)
  have cellK : ∀ {c : Addr} {v : Option Value}, H c = none → s.heap.IsCell c v → h₁.IsCell c v := fun {c v} n ⟨o, ho, hd⟩ => by
    obtain ⟨sl, q⟩ := un.any ho n (by simp)
    exact ⟨_, kp _ _ q, hd⟩
  have noA : ∀ b : Addr, b ∉ (lamCx X A outer s1 HZ E scope f c').ex := fun b z => absurd (show b ∈ ([] : List Addr) from z) (by simp)
  have isl : is.length = ps.length := by simpa using congrArg List.length hi
  have at_ : ∀ {j : Nat} {i : Nat}, is[j]? = some i → ∃ y, ps[j]? = some y ∧ X.N[i]? = some y := fun {j i} h => by
    have := congrArg (fun l => l[j]?) hi
    simp only [List.getElem?_map, h, Option.map_some] at this
    cases q : ps[j]? with
    | none => rw [q] at this; cases this
    | some y => rw [q] at this; exact ⟨y, rfl, Option.some.inj this⟩
  have inj : ∀ {i j : Nat} {y : Str}, X.N[i]? = some y → X.N[j]? = some y → i = j := fun {i j y} h1 h2 => by
    obtain ⟨l1, e1⟩ := List.getElem?_eq_some_iff.mp h1
    obtain ⟨l2, e2⟩ := List.getElem?_eq_some_iff.mp h2
    exact (List.getElem_inj hN).mp (e1.trans e2.symm)
  have ndI : is.Nodup := by
    refine List.pairwise_iff_getElem.mpr fun a b ha hb hab e => ?_
    obtain ⟨y, y1, y2⟩ := at_ (List.getElem?_eq_getElem ha)
    obtain ⟨z, z1, z2⟩ := at_ (List.getElem?_eq_getElem hb)
    rw [e, z2] at y2
    cases y2
    obtain ⟨l1, e1⟩ := List.getElem?_eq_some_iff.mp y1
    obtain ⟨l2, e2⟩ := List.getElem?_eq_some_iff.mp z1
    exact absurd ((List.getElem_inj L.nd).mp (e1.trans e2.symm)) (Nat.ne_of_lt hab)
  refine ⟨⟨e0.mod, L.kind, rfl, rfl, Nat.le_refl _, fun y z c e1 e2 => I.ok.inj y z c (cm e1) (cm e2), fun y hy => ?_, fun y c z _ => ?_, fun _ => hd, Around.frames_deeper e0.frames, .inr ⟨rfl, rfl⟩, fun b z => absurd z (noA b), e0.bs, e0.bsz, fun b _ _ => noA b,
      fun b z => absurd z (noA b), e0.funs, e0.frf⟩,
    rfl, e0.bare, Un.kept kp, ⟨_, hns, fun i y v e1 e2 e3 => ?_⟩, fun y c e => ?_, e0.hok.fresh (Nat.le_refl _), fun y c e => ?_, fun q hq => absurd (show q ∈ ([] : List (Addr × Obj)) ++ [] from hq) (by simp), e0.hok.kept kp, (setP_length _ _ _).trans I.len⟩
  · have hy : scope.names.lookup y = some .cell ∨ scope.names.lookup y = some .free := hy
    rcases hy with hy | hy
    · exact absurd rfl (L.cell _ (PySem.mem_of_lookup hy))
    · exact look hy
  · have z : false = true := z
    cases z
  · have e3 : Vis scope y := e3
    have e1 : X.N[i]? = some y := e1
    rcases setP_get (isl.trans hl.symm) ndI e2 with ⟨j, h1, h2⟩ | ⟨h1, h2⟩
    · obtain ⟨y', y1, y2⟩ := at_ h1
      rw [e1] at y2
      cases y2
      obtain ⟨u, hu, ru⟩ := rv.get h2
      exact ⟨u, ru, .inl ⟨L.par _ (List.mem_of_getElem? y1), zip_lookup L.nd y1 hu⟩⟩
    · rcases e3 with k | k | k
      · obtain ⟨j, hj⟩ := List.getElem?_of_mem (L.own _ (PySem.mem_of_lookup k) rfl)
        have hj' : j < is.length := by rw [isl]; exact (List.getElem?_eq_some_iff.mp hj).1
        obtain ⟨y', y1, y2⟩ := at_ (List.getElem?_eq_getElem hj')
        rw [hj] at y1
        cases y1
        have := inj e1 y2
        exact absurd (by rw [this]; exact List.getElem_mem hj') h1
      · exact absurd rfl (L.cell _ (PySem.mem_of_lookup k))
      · obtain ⟨m, hn, hl⟩ := I.loc
        have hvis : Vis X.env.scope y := (L.free _ (PySem.mem_of_lookup k) rfl).elim (fun k => .inr (.inl k)) (fun k => .inr (.inr k))
        obtain ⟨w', r, q⟩ := hl i y v e1 h2 hvis
        obtain ⟨c2, h2⟩ := look k
        refine ⟨w', r, .inr ⟨.inr k, c2, h2, ?_⟩⟩
        have c1 := cm h2
        rcases q with ⟨k', _⟩ | ⟨_, c3, e', z⟩
        · have k' : X.env.scope.names.lookup y = some .local := k'
          rcases L.free _ (PySem.mem_of_lookup k) rfl with k2 | k2 <;> rw [show X.env.scope.names.lookup y = _ from k2] at k' <;> cases k'
        · rw [c1] at e'
          cases e'
          exact cellK (I.freeC y _ c1) z
  · obtain ⟨w', z⟩ := I.cell y c (cm e)
    exact ⟨w', cellK (I.freeC y c (cm e)) z⟩
  · obtain ⟨v, o, ho, hd⟩ := I.cell y c (cm e)
    exact un.free c o ho (I.freeC y c (cm e)) (by simp)
end
end DL
-- DL22
set_option maxRecDepth 100000
set_option maxHeartbeats 1000000
/-! DL22: the lambda made; calls x(.., lambda ..: .., ..). -/
namespace DL
open PySem PySem.Spec PyProof.Rows L2
open LamX (lamEnv lamCx CodeO TabB)
/-! ### whose code it is -/
/-- code is the code object of the module's def x -/
def CodeOf (K : PySem.W.Frag) (mg : Str → Option Value) (x : Str) (code : Value) : Prop := ∃ f oc od fd osl, mg x = some (.ref f) ∧ K.lookup f = some ⟨oc, od, .func fd, osl⟩ ∧ fd.code = code
/-- the code object of x has a table of its own -/
structure TabH (K : PySem.W.Frag) (mg : Str → Option Value) (base : Heap) (x : Str) : Prop where
  ex : ∃ c P, CodeOf K mg x (.ref c) ∧ TabB base mg c P ∧ PySem.W.codeHdIn K c P = true
structure TabX (K : PySem.W.Frag) (mg : Str → Option Value) (base : Heap) (x : Str) (code : Value) : Prop where
  ex : ∃ c P, code = .ref c ∧ TabB base mg c P ∧ TabOf K mg x P
theorem CodeOf.uniq {K : PySem.W.Frag} {mg : Str → Option Value} {x : Str} {a b : Value} (h : CodeOf K mg x a) (g : CodeOf K mg x b) : a = b := by
  obtain ⟨f, oc, od, fd, osl, a1, a2, a3⟩ := h
  obtain ⟨f', oc', od', fd', osl', b1, b2, b3⟩ := g
  rw [a1] at b1; cases b1
  rw [a2] at b2; cases b2
  rw [← a3, ← b3]
theorem TabH.x {K : PySem.W.Frag} {mg : Str → Option Value} {base : Heap} {x : Str} {code : Value} (h : TabH K mg base x) (g : CodeOf K mg x code) : TabX K mg base x code := by
  obtain ⟨c, P, h1, h2, h3⟩ := h.ex
  refine ⟨c, P, g.uniq h1, h2, ?_⟩
  obtain ⟨f, oc, od, fd, osl, a1, a2, a3⟩ := h1
  exact ⟨f, oc, od, fd, osl, c, a1, a2, a3, h3⟩
section
variable {P : Program} {w : World} {K : PySem.W.Frag} {mg : Str → Option Value} {base : Heap}
/-- def_fnM, the code told -/
theorem def_fnMC {dvs : List V} {kws : List (Str × V)} {x qual : Str} {st : Stmt} {f : Addr} {fd : FuncData} {N ps : List Str} {k : Nat} {body : FS} (F : FunD K x qual (defArgs st) (defBody st) (defScope st) dvs kws f fd) (hm : mg x = some (.ref f)) (S : FnScope N ps (defScope st)) (hp : ps.length ≤ N.length)
    (hbody : ∀ (cdv : Value) (A : Around) (outer : List Env) (s : Shared) (H : Hp) (E : XK), CodeOf K mg x cdv → Room k (A.deeper (envOfC qual (defScope st) s.heap.objs.size f cdv)) → DSs (cxOf (L2.CX P w) P w K mg base N qual (defScope st) f cdv A outer s H E) (defBody st) body) :
    FnOk P w K mg base (L2.CX P w) (k + 1) f fd ps (spM ⟨K, mg⟩ (mkM N.length ps.length body)) := by
  obtain ⟨oc, od, dV, kV, doc, pm, an, cdv, ct, osl, rfl, lk, hcd, _, _⟩ := F.ex
  exact fn_of lk hcd S (fun vs H Q E h => len_M h) fun A outer s H vs Q E hr h => core_M hp (hbody cdv A outer s H E ⟨f, oc, od, _, osl, hm, lk, rfl⟩ hr) h
/-- def_fnMG, the code told -/
theorem def_fnMGC {dvs : List V} {kws : List (Str × V)} {x qual : Str} {st : Stmt} {f : Addr} {fd : FuncData} {N ps : List Str} {k : Nat} {body : FS} (F : FunD K x qual (defArgs st) (defBody st) (defScope st) dvs kws f fd) (hm : mg x = some (.ref f)) (S : FnScope N ps (defScope st)) (hp : ps.length ≤ N.length)
    (hbody : ∀ (cdv : Value) (A : Around) (outer : List Env) (s : Shared) (H : Hp) (E : XK), CodeOf K mg x cdv → A.guards = some [] → Room k (A.deeper (envOfC qual (defScope st) s.heap.objs.size f cdv)) → DSs (cxOf (L2.CX P w) P w K mg base N qual (defScope st) f cdv A outer s H E) (defBody st) body) :
    FnG P w K mg base (L2.CX P w) (k + 1) f fd ps (spM ⟨K, mg⟩ (mkM N.length ps.length body)) := by
  obtain ⟨oc, od, dV, kV, doc, pm, an, cdv, ct, osl, rfl, lk, hcd, _, _⟩ := F.ex
  refine ⟨fun vs H Q E h => len_M h, fun A up s H gs us vs Q E g0 hr e0 hb r hsp => ?_⟩
  have inK : K.In s.heap := e0.mod.kin.keeps fun b o q => (e0.bs b o q).1
  have noL : s.heap.NoLimit := e0.mod.nolimit.keeps fun b o q => (e0.bs b o q).1
  have kinds : ∀ y ∈ ps.zip us, (defScope st).names.lookup y.1 = some .local ∨ ((defScope st).names.lookup y.1 = some .cell ∧ ((cellsFrom (s.heap.objs.size + 1) (defScope st).names []).lookup y.1).isSome = true) := by
    intro ⟨n, v⟩ hy
    rcases S.par n (List.of_mem_zip hy).1 with q | q
    · exact .inl q
    · exact .inr ⟨q, PySem.W.cellsFrom_some _ _ _ (.inl q)⟩
  have rec0 := PySem.W.codeRec_of inK hcd
  refine codeAny_call_function (by exact hr.depth) (inK _ _ lk) rfl S.co S.gen rfl rec0 (hb _ _ _ _ ?_)
  refine wpAny_newFunctionEnv_cells S.kind kinds ?_
  intro env he s1 z
  subst he
  refine ⟨noL.keeps z.toInCall.keep, codeAny_func ?_⟩
  obtain ⟨t, ht, hq⟩ := core_M hp (hbody cdv A up s H E ⟨f, oc, od, _, osl, hm, lk, rfl⟩ g0 (hr.deeper _)) hsp
  have I0 := inv_start (CX := L2.CX P w) (E := E) (base := base) S hr.hd e0 (len_M hsp) r z
  refine wpAny_mono (ht.run [] s1 (start N vs) H _ I0 hq) ?_ fun _ _ q => q
  intro fl s' hs
  cases fl with
  | ret u => obtain ⟨v, σ', H', J, rv, q⟩ := hs; exact ⟨v, H', J.os, J.bare, J.base, J.hok, rv, q⟩
  | next => obtain ⟨σ', H', J, q⟩ := hs; exact ⟨.non, H', J.os, J.bare, J.base, J.hok, rfl, q⟩
  | brk => exact hs.elim fun _ z => z.elim fun _ z => z.2.elim
  | cont => exact hs.elim fun _ z => z.elim fun _ z => z.2.elim
end
/-! ### the table written -/
section
variable {X : Cx} {pins : List (Addr × Obj)} {σ : L2.St} {H : Hp} {s : Shared}
theorem inv_table3 {P c : Addr} {q : Str} {ps more : Array Value} {h' : Heap} {t' : Nat} {oc : Obj} (I : Inv X pins σ H s) (hP : H P = some (.tbl ps)) (k : ∀ b o, b ≠ P → s.heap.get? b = some o → h'.get? b = some o)
    (hm : h'.get? P = some { cls := .none, data := .fields (ps ++ more) }) (hc : s.heap.objs.size ≤ c) (ho : ∃ (vs : Array Value) (t : Tok), h'.get? c = some oc ∧ oc.data = .fields vs ∧ vs[1]? = some (.str q t)) :
    Inv X pins σ (L2.upd (L2.upd H P (.tbl (ps ++ more))) c (.frz oc (CodeO c q))) { s with heap := h', toks := t' } := by
  have nC : H c = none := I.hok.fresh hc
  have nPc : P ≠ c := ne_of_none hP nC
  have at_ : ∀ b, b ≠ P → b ≠ c → L2.upd (L2.upd H P (.tbl (ps ++ more))) c (.frz oc (CodeO c q)) b = H b := fun b h1 h2 => by rw [upd_ne h2, upd_ne h1]
  have atP : L2.upd (L2.upd H P (.tbl (ps ++ more))) c (.frz oc (CodeO c q)) P = some (.tbl (ps ++ more)) := by rw [upd_ne nPc, upd_same]
  have nP : ∀ b u, H b = some u → (∀ q, u ≠ .tbl q) → b ≠ P := fun b u e q z => by
    rw [z, hP] at e
    exact q ps (Option.some.inj e).symm
  have nN : ∀ b, H b = none → b ≠ P := fun b e z => by
    rw [z, hP] at e
    cases e
  have lt' : ∀ b o, s.heap.get? b = some o → b ≠ c := fun b o e z => by
    rw [z] at e
    exact Nat.lt_irrefl _ (Nat.lt_of_lt_of_le (Heap.lt_size e) hc)
  have sm : ∀ b u, H b = some u → b ≠ c := fun b u e => ne_of_none e nC
  refine I.step (g' := s.gens) (d' := s.drawn) (ch := []) (fun b hb => absurd hb (by simp)) (fun b o _ _ _ e n => k b o (nN b n) e) (fun b o _ _ _ e n => ⟨o.slots, k b o (nN b n) e⟩)
    (fun b o _ e n => by rw [at_ b (nN b n) (lt' b o e)]; exact n) (fun b o _ e => ?_) (fun b xs e => by rw [at_ b (nP b _ e (fun q z => by cases z)) (sm b _ e)]; exact e) (fun b o u e => by rw [at_ b (nP b _ e (fun q z => by cases z)) (sm b _ e)]; exact e) (fun b qs e => ?_) (fun m hn => ?_) (fun b u e => ?_) I.bare
  · by_cases hb : b = P
    · rw [hb]
      exact ⟨_, hm⟩
    · exact ⟨o, k b o hb e⟩
  · by_cases hb : b = P
    · rw [hb, hP] at e
      cases e
      rw [hb, atP]
      exact ⟨more, rfl⟩
    · rw [at_ b hb (sm b _ e), e]
      exact ⟨#[], by simp⟩
  · obtain ⟨ob, es, ep, ho, r⟩ := hn
    exact ⟨ob, es, ep, k _ ob (nN _ I.free) ho, r⟩
  · by_cases hb : b = c
    · rw [hb, upd_same] at e
      cases e
      rw [hb]
      obtain ⟨vs, t, e1, e2, e3⟩ := ho
      exact ⟨e1, ⟨oc, vs, t, e1, e2, e3⟩, ⟨oc, e1⟩, fun h1 h2 ⟨oc, vs, t, a, b, c⟩ st => ⟨oc, vs, t, st _ a, b, c⟩⟩
    · by_cases hb2 : b = P
      · rw [hb2, atP] at e
        cases e
        rw [hb2]
        exact hm
      · rw [at_ b hb2 hb] at e
        refine (I.hok b u e).stay (fun d v hd q => k d v ?_ q) (fun d q => by rw [at_ d (nP d _ q (fun q z => by cases z)) (sm d _ q)]; exact q) fun d xs q => by rw [at_ d (nP d _ q (fun q z => by cases z)) (sm d _ q)]; exact q
        rcases hd with z | z
        · rw [z]
          exact hb2
        · exact nP d _ z (fun q z => by cases z)
end
def hasTab (x : Str) : Option (List D) → Bool
  | some M => M.any fun d => match d with
    | .tab y => decide (y = x)
    | _ => false
  | none => false
theorem hasTab_get {x : Str} {M : List D} (h : hasTab x (some M) = true) : ∃ n : Nat, M[n]? = some (.tab x) := by
  unfold hasTab at h
  obtain ⟨d, hd, e⟩ := List.any_eq_true.mp h
  obtain ⟨n, hn⟩ := List.getElem?_of_mem hd
  cases d with
  | tab y => simp only [decide_eq_true_eq] at e; subst e; exact ⟨n, hn⟩
  | _ => simp at e
/-- the object that a lambda is -/
abbrev lamObj (X : Cx) (params : Arguments) (body : Expr) (scope : Scope) (pm : Value) (c' : Addr) (ctv : Value) : Obj := PySem.W.kla_obj "<lambda>" (X.env.qual ++ "<lambda>") params body scope (cloFrom X.env.cells scope.names []) pm c' ctv
section
variable {X : Cx} {pins : List (Addr × Obj)} {σ : L2.St} {H G : Hp} {s : Shared} {B : Bse} {e : Ev} {x : Str}
/-- the lambda is made: its code object is new, or found in the table -/
theorem lam_makeD {params : Arguments} {body : Expr} {scope : Scope} {pos : Pos} {E : Value → Shared → Prop} {Q : Value → Shared → Prop} (I : Inv X pins σ H s) (S : StR ⟨X.K, X.mg⟩ B G H σ e) (ht0 : hasTab x (stoOf e) = true) (TX : TabX X.K X.mg X.base x X.env.code)
    (hq : X.env.qual ++ "<lambda>" = tabQ x) (hdef : defaultsOf params X.env = ([], [])) (hfree : ∀ y ∈ scope.names, y.2 = .free → ∃ c, X.env.cells.lookup y.1 = some c)
    (h : ∀ (f c' : Addr) (oc : Obj) (pm ctv : Value) (G1 H1 : Hp) (s' : Shared), Inv X pins σ H1 s' → StR ⟨X.K, X.mg⟩ B G1 H1 σ e → Same G G1 → s'.heap.get? f = some (lamObj X params body scope pm c' ctv) → H1 f = none → s.heap.objs.size ≤ f → f ∉ frs X.stack →
      G1 c' = some (.frz oc (CodeO c' (X.env.qual ++ "<lambda>"))) → Q (.ref f) s') :
    wpAny (model X.prog X.w) X.A (eval (.Lambda params body scope pos) X.env) Q E s := by
  obtain ⟨c, P, hcode, TB, tabO⟩ := TX.ex
  cases hM : stoOf e with
  | none => rw [hM] at ht0; cases ht0
  | some M =>
  rw [hM] at ht0
  obtain ⟨n, hn⟩ := hasTab_get ht0
  obtain ⟨p, g1, g2, g3, g4⟩ := (S.sto M hM).at_ n _ hn
  rcases g4 with g4 | ⟨_, _, _, _, _, _, z, _⟩ | ⟨x', z, tO, ps, hP, ht, ha⟩
  · exact g4.elim
  · cases z
  cases z
  obtain rfl := tO.uniq tabO
  refine PySem.W.kla_eval hdef ?_
  have bP : s.heap.BuiltinsAt X.mg p := TB.bm.keeps I.bk
  have hP' : s.heap.get? p = some { cls := .none, data := .fields ps } := I.hok p _ hP
  have nofr : ∀ f, s.heap.objs.size ≤ f → f ∉ frs X.stack := fun f hf z => by
    rcases List.mem_cons.mp (I.stkSub _ z) with e | e
    · have h1 := I.lt
      rw [← e] at h1
      exact Nat.lt_irrefl _ (Nat.lt_of_lt_of_le h1 hf)
    · exact I.nofs hf e
  cases hc : codeAmong pos ps.toList with
  | none =>
    refine PySem.W.kla_makeFunction (mg := X.mg) (c := c) (P := p) (ps := ps) (closure_ok hfree) I.ok.glob (I.mod.glob.keeps I.bk) hcode (TB.code.keeps I.bk) hP' ht hc TB.gP bP fun c' ctv h' tk hx hge hlt hrec htb => ?_
    obtain ⟨c2, oc, vs, t, e2, hoc, hd, hv⟩ := hrec
    cases e2
    have hsz : s.heap.objs.size ≤ h'.objs.size := Nat.le_trans hge (Nat.le_of_lt hlt)
    have nC : H c' = none := I.hok.fresh hge
    have nPc : p ≠ c' := ne_of_none hP nC
    have I1 := inv_table3 (t' := tk) (q := X.env.qual ++ "<lambda>") (more := #[rawInt pos.line, rawInt pos.col, .ref c']) (oc := oc) (h' := h'.push (lamObj X params body scope ((X.mg "__name__").getD .none) c' ctv)) I hP
      (fun b o hb e => Heap.get?_push_of_some _ (hx b o hb e)) (Heap.get?_push_of_some _ htb) hge ⟨vs, t, Heap.get?_push_of_some _ hoc, hd, hv⟩
    obtain ⟨S1, sg⟩ := S.new (o := .frz oc (CodeO c' (X.env.qual ++ "<lambda>"))) nC
    have gc : L2.upd G c' (.frz oc (CodeO c' (X.env.qual ++ "<lambda>"))) p = some (.own n) := by rw [upd_ne nPc]; exact g1
    have eL : (ps ++ #[rawInt pos.line, rawInt pos.col, .ref c']).toList = ps.toList ++ [rawInt pos.line, rawInt pos.col, .ref c'] := by simp
    have S2 := S1.updP (n := n) (p := p) (o := .tbl (ps ++ #[rawInt pos.line, rawInt pos.col, .ref c'])) (d' := .tab x) hM gc (.inr (.inr ⟨x, rfl, tO, _, upd_same, by rw [eL]; exact PySem.TriplesOk_snoc _ _ _ _ ht, fun p' cv hcv => by
      rw [eL] at hcv
      rcases LamX.among_app _ ht hcv with z | z
      · obtain ⟨c0, oc0, e1, e2⟩ := ha p' cv z
        exact ⟨c0, oc0, e1, sg _ _ e2⟩
      · exact ⟨c', oc, z, by rw [← hq]; exact upd_same⟩⟩))
    have eM : setSto e (M.set n (.tab x)) = e := by
      have em : M.set n (.tab x) = M := by
        obtain ⟨h1, h2⟩ := List.getElem?_eq_some_iff.mp hn
        rw [← h2]; exact List.set_getElem_self h1
      rw [em]
      obtain ⟨h1, h2⟩ := List.getElem?_eq_some_iff.mp (stoOf_last hM)
      unfold setSto
      rw [← h2]; exact List.set_getElem_self h1
    rw [eM] at S2
    have eH : L2.upd (L2.upd H c' (.frz oc (CodeO c' (X.env.qual ++ "<lambda>")))) p (.tbl (ps ++ #[rawInt pos.line, rawInt pos.col, .ref c'])) = L2.upd (L2.upd H p (.tbl (ps ++ #[rawInt pos.line, rawInt pos.col, .ref c']))) c' (.frz oc (CodeO c' (X.env.qual ++ "<lambda>"))) := by
      funext b
      by_cases h1 : b = p
      · subst h1; rw [upd_same, upd_ne nPc, upd_same]
      · by_cases h2 : b = c'
        · subst h2; rw [upd_ne h1, upd_same, upd_same]
        · rw [upd_ne h1, upd_ne h2, upd_ne h2, upd_ne h1]
    rw [eH] at S2
    refine h h'.objs.size c' oc ((X.mg "__name__").getD .none) ctv _ _ _ I1 S2 sg (Heap.get?_push_size _ rfl) ?_ hsz (nofr _ hsz) upd_same
    have n1 : h'.objs.size ≠ c' := Nat.ne_of_gt hlt
    have n2 : h'.objs.size ≠ p := Nat.ne_of_gt (Nat.lt_of_lt_of_le (Heap.lt_size hP') hsz)
    rw [upd_ne n1, upd_ne n2]
    exact I.hok.fresh hsz
  | some cv =>
    obtain ⟨c', oc, e1, hco⟩ := ha pos cv hc
    subst e1
    refine PySem.W.kla_makeFunctionHit (mg := X.mg) (c := c) (P := p) (ps := ps) (closure_ok hfree) I.ok.glob (I.mod.glob.keeps I.bk) hcode (TB.code.keeps I.bk) hP' ht hc bP fun ctv h' tk hx hsz => ?_
    have I1 : Inv X pins σ H { s with heap := h'.push (lamObj X params body scope ((X.mg "__name__").getD .none) c' ctv), toks := tk } := I.kept fun b o e => Heap.get?_push_of_some _ (hx b o e)
    exact h h'.objs.size c' oc ((X.mg "__name__").getD .none) ctv G H _ I1 S (Same.refl G) (Heap.get?_push_size _ rfl) (I.hok.fresh hsz) hsz (nofr _ hsz) (by rw [hq]; exact hco)
end
/-! ### the lambda's body -/
def noOwn (e : Ev) : Bool := e.all fun s => match s with
  | .own _ => false
  | _ => true
theorem noOwn_not {e : Ev} (h : noOwn e = true) {i : Nat} {d : D} : e[i]? ≠ some (.own d) := fun q => by
  have := List.all_eq_true.mp h _ (List.mem_of_getElem? q)
  cases this
def setPE : List Nat → List D → Ev → Ev
  | i :: is, d :: ds, e => setPE is ds (put1 e i (.val d))
  | _, _, e => e
def thunkR : Out EV → MO
  | .ok a e => match frz e a with
    | some (d, e2) => match stoOf e2 with
      | some M => .ok d M
      | none => .stk
    | none => .stk
  | .exc x e => match stoOf e with
    | some M => .exc x M
    | none => .stk
  | .stk => .stk
/-- what the lambda does: is its parameters' slots, e the maker's names -/
def thunk (is : List Nat) (fb : FE) (e : Ev) : FM := fun M ds => if ds.length = is.length then thunkR (fb (setPE is ds (setSto e M))) else .stk
theorem pe_unl {X : Cx} {e : Expr} {t : TE} {H0 : Hp} (sub : ∀ a u, H0 a = some u → X.H_0 a = some u) (h : PE X e t) : PE X e (fun σ H Q => t σ H fun v H' => Lr H0 H' ∧ Q v (unl H0 H')) := by
  refine ⟨fun pins s σ H Q Iv hw => ?_⟩
  refine thn (h.run pins s σ H _ Iv hw) fun f s1 q => ?_
  obtain ⟨v, H', I2, r, l, q⟩ := q
  exact ⟨v, _, Inv_unl I2 sub l, r, q⟩
theorem setP_rel {T : Stt} {B : Bse} {G H : Hp} : ∀ {is : List Nat} {vs : List V} {ds : List D} {σ : St} {e : Ev}, StR T B G H σ e → VRels T G vs ds → StR T B G H (setP σ is vs) (setPE is ds e)
  | [], _, _, _, _, S, .nil => by rw [setP, setPE] <;> first | exact S | simp
  | [], _, _, _, _, S, .cons _ _ => by rw [setP, setPE] <;> first | exact S | simp
  | _ :: _, _, _, _, _, S, .nil => by rw [setP, setPE] <;> first | exact S | simp
  | i :: is, _, _, σ, e, S, .cons r rs => by
    rw [setP, setPE]
    exact setP_rel (S.set r i) rs
/-- the maker's names in the lambda's frame -/
theorem StR.lam {T : Stt} {B : Bse} {G H G1 HZ : Hp} {σ : St} {e : Ev} {M0 M : List D} (S : StR T B G H σ e) (no : noOwn e = true) (h0 : stoOf e = some M0) (sg : Same G G1) (l : Le G1 HZ) (st : StoR T Bz G1 HZ M) : StR T ⟨G1, hid G1 HZ, fun _ => none, false⟩ G1 HZ σ (setSto e M) where
  gh := l
  g0 := Same.refl _
  h0 := Lr.of fun _ _ z => hid_sub z
  lk := fun a u e => by cases e
  add := fun a u e => .inl e
  len := by unfold setSto; rw [List.length_set]; exact S.len
  top := top_set S.top (stoOf_last h0) ⟨fun ⟨_, _⟩ => ⟨_, rfl⟩, fun ⟨_, _⟩ => ⟨_, rfl⟩⟩
  sto := fun M' e' => by
    rw [stoOf_setSto h0] at e'
    cases e'
    obtain ⟨s1, s2, s3, s4⟩ := st
    refine ⟨rfl, fun n d e => ?_, s3, s4⟩
    obtain ⟨p, a1, a2, a3, a4⟩ := s2 n d e
    exact ⟨p, a1, hid_mark a1, rfl, a4⟩
  val := fun i d e' => by
    obtain ⟨v, a1, a2⟩ := S.val i d (setSto_other h0 e' fun _ z => nomatch z)
    exact ⟨v, a1, a2.same sg⟩
  own := fun i d e' => (noOwn_not no (setSto_other h0 e' fun _ z => nomatch z)).elim
  dis := fun i j d d' p e1 _ _ _ => (noOwn_not no (setSto_other h0 e1 fun _ z => nomatch z)).elim
section
variable {X : Cx} {pins : List (Addr × Obj)} {σ : L2.St} {H G : Hp} {s : Shared} {B : Bse} {e : Ev} {x : Str}
theorem lamOk_of {M0 : List D} {params : Arguments} {body : Expr} {scope : Scope} {ps : List Str} {is : List Nat} {fb : FE} {f c' : Addr} {oc : Obj} {pm ctv : Value} {k : Nat} (I : Inv X pins σ H s) (S : StR ⟨X.K, X.mg⟩ B G H σ e) (no : noOwn e = true) (h0 : stoOf e = some M0) (L : LamSP X.env.scope scope ps)
    (hf : s.heap.get? f = some (lamObj X params body scope pm c' ctv)) (hfn : H f = none) (hfr : f ∉ frs X.stack) (hco : H c' = some (.frz oc (CodeO c' (X.env.qual ++ "<lambda>")))) (hN : X.N.Nodup) (hi : is.map (fun i => X.N[i]?) = ps.map some)
    (hbind : ∀ (q : Str) (cl : List (Str × Addr)) (pm cv ctv : Value) (us : List Value), us.length = ps.length → bindArgs (PySem.W.kla_fn "<lambda>" q params body scope cl pm cv ctv) ⟨us, []⟩ = pure (ps.zip us))
    (hbody : ∀ (A : Around) (outer : List Env) (s : Shared) (H : Hp) (E : XK), Room k (A.deeper (lamEnv X scope s.heap.objs.size f c')) → DE (lamCx X A outer s H E scope f c') body fb) :
    LamOk X.prog X.w X.K X.mg X.base (k + 1) X.stack H s f (spL ⟨X.K, X.mg⟩ G (thunk is fb e)) := by
  refine ⟨⟨_, _, _, _, hf⟩, hfn, hfr, fun A outer s1 HZ us vs Q E hr e0 un rv hsp => ?_⟩
  obtain ⟨G1, ds, M, sg, l, st, r, ho⟩ := hsp
  have isl : is.length = ps.length := by simpa using congrArg List.length hi
  unfold thunk at ho
  split at ho
  case isFalse => exact ho.elim
  rename_i hlen
  have hlv : vs.length = ps.length := r.length.trans (hlen.trans isl)
  have of1 : s1.heap.get? f = some (lamObj X params body scope pm c' ctv) := un.keep f _ hf hfn hfr (fun z => nomatch (show f ∈ ([] : List Addr) from z))
  have hcZ := un.frzs c' oc _ hco
  obtain ⟨hoc, ⟨oc2, cvs, t, hoc2, hdc, hvc⟩, _, _⟩ := e0.hok c' _ hcZ
  refine PySem.W.kla_callFunE hr.depth of1 rfl L.co L.gen rfl ⟨c', oc2, cvs, t, rfl, hoc2, hdc, hvc⟩ ?_
  rw [hbind _ _ _ _ _ us (rv.length.symm.trans hlv)]
  have noL : s1.heap.NoLimit := e0.mod.nolimit.keeps fun b o q => (e0.bs b o q).1
  refine wpAny_pure (wpAny_newFunctionEnv (fun y hy => L.cell y hy) (fun y hy => L.par _ (List.of_mem_zip hy).1) (fun h₁ hns hsb => ⟨noL.fresh _ hsb, ?_⟩) L.kind)
  show codeAny _ _ (.expr body (lamEnv X scope s1.heap.objs.size f c')) _ _
  have kp : ∀ b o, s1.heap.get? b = some o → h₁.get? b = some o := fun b o e => hsb.extBut b o (Nat.ne_of_lt (Heap.lt_size e)) (Heap.get?_push_of_some _ e)
  have J : Inv (lamCx X A outer s1 HZ E scope f c') [] (setP σ is vs) HZ { s1 with heap := h₁, toks := s1.toks + (ps.zip us).length } := lam_start3 I L e0 hr.hd un hN hi rv hlv hns kp
  have SZ := setP_rel (is := is) (S.lam no h0 sg l st) r
  have sub : ∀ a u, hid G1 HZ a = some u → (lamCx X A outer s1 HZ E scope f c').H_0 a = some u := fun _ _ z => hid_sub z
  have tk : Takes (lamCx X A outer s1 HZ E scope f c') (fun cls d _ H => E cls d H) := takes_of rfl rfl rfl rfl
  have pb := pe_unl sub ((hbody A outer s1 HZ E (hr.deeper _)).run ⟨G1, hid G1 HZ, fun _ => none, false⟩ _ (takes_unl sub tk))
  refine PySem.W.kla_codeExpr (wpAny_mono (pb.run [] _ _ HZ Q J ?_) (fun v s' hq => ?_) fun e s' hq => hq)
  · refine ⟨G1, _, SZ, ?_⟩
    unfold thunkR at ho
    split at ho
    · rename_i a e2 qb
      rw [qb]
      intro G' H' S' g v rv'
      split at ho
      · rename_i d e3 qf
        obtain ⟨G2, S2, l2, rv2⟩ := S'.frz rv' qf
        split at ho
        · rename_i M' hM
          exact ⟨S2.h0, ho v G2 _ (postM_of l S2 (g.trans l2) hM) rv2⟩
        · exact ho.elim
      · exact ho.elim
    · rename_i x0 e2 qb
      rw [qb]
      intro cls d G' H' S' g rx
      split at ho
      · rename_i M' hM
        exact ⟨S'.h0, ho cls d G' _ (postM_of l S' g hM) (xrel_unl S'.h0 rx)⟩
      · exact ho.elim
    · exact ho.elim
  · obtain ⟨w', H', J', rv', q⟩ := hq
    exact ⟨w', H', J'.os, J'.bare, J'.base, J'.hok, rv', q⟩
end
end DL
-- DL23
set_option maxRecDepth 100000
set_option maxHeartbeats 1000000
/-! DL23: calls with a lambda among the arguments. -/
namespace DL
open PySem PySem.Spec PyProof.Rows L2
open LamX (lamEnv lamCx CodeO TabB)
theorem LamOk.mono {P : Program} {w : World} {K : PySem.W.Frag} {mg : Str → Option Value} {base : Heap} {j k : Nat} {up : List Env} {H0 : Hp} {s0 : Shared} {f : Addr} {sp : Sp} (L : LamOk P w K mg base j up H0 s0 f sp) (h : j ≤ k) : LamOk P w K mg base k up H0 s0 f sp :=
  ⟨L.obj, L.hfn, L.nfr, fun A outer s H us vs Q E hr => L.run A outer s H us vs Q E (hr.mono h)⟩
def lamRun (Sp : FM → FM) (is : List Nat) (fb : FE) (e : Ev) (ds : List D) : Out EV := if noOwn e = true then (match stoOf e with
  | some M => moR e (Sp (thunk is fb e) M ds)
  | none => .stk) else .stk
def E.lam1 (x : Str) (Sp : FM → FM) (is : List Nat) (fb : FE) : FE := fun env => if hasTab x (stoOf env) = true then lamRun Sp is fb env [] else .stk
def E.lam2 (x : Str) (Sp : FM → FM) (is : List Nat) (fb g : FE) : FE := fun env => (g env).bind fun a e1 => match frz e1 a with
  | some (d, e2) => if hasTab x (stoOf e2) = true then lamRun Sp is fb e2 [d] else .stk
  | none => .stk
def E.lam3 (x : Str) (Sp : FM → FM) (is : List Nat) (fb g : FE) : FE := fun env => if hasTab x (stoOf env) = true then ((g env).bind fun a e1 => match frz e1 a with
  | some (d, e2) => lamRun Sp is fb e2 [d]
  | none => .stk) else .stk
/-- the lambda's facts in a context -/
structure LamD (X : Cx) (x : Str) (params : Arguments) (body : Expr) (scope : Scope) (ps : List Str) (is : List Nat) (fb : FE) (j : Nat) : Prop where
  tx : TabX X.K X.mg X.base x X.env.code
  hq : X.env.qual ++ "<lambda>" = tabQ x
  hdef : defaultsOf params X.env = ([], [])
  L : LamSP X.env.scope scope ps
  nd : X.N.Nodup
  hi : is.map (fun i => X.N[i]?) = ps.map some
  hbind : ∀ (q : Str) (cl : List (Str × Addr)) (pm cv ctv : Value) (us : List Value), us.length = ps.length → bindArgs (PySem.W.kla_fn "<lambda>" q params body scope cl pm cv ctv) ⟨us, []⟩ = pure (ps.zip us)
  hbody : ∀ (f c' : Addr) (A : Around) (outer : List Env) (s : Shared) (H : Hp) (E : XK), Room j (A.deeper (lamEnv X scope s.heap.objs.size f c')) → DE (lamCx X A outer s H E scope f c') body fb
section
variable {X : Cx} {pins : List (Addr × Obj)} {σ : L2.St} {H G : Hp} {s : Shared} {B : Bse} {W : WX} {e : Ev} {x y : Str} {params : Arguments} {body : Expr} {scope : Scope} {ps : List Str} {is : List Nat} {fb : FE} {j k : Nat} {F : FM → Addr → Hp → FM} {Sp : FM → FM}
theorem lam_call {g f c' : Addr} {n : Nat} {oc : Obj} {pm ctv : Value} {us : List Value} {vs : List V} {args ds : List D} {Q : VK} (tk : Takes X W) (LD : LamD X x params body scope ps is fb j) (hjk : j + 1 ≤ k)
    (D : ∀ (f : Addr) (G0 : Hp) (TH : FM) (A : Around) (up : List Env) (s : Shared) (H : Hp) (us : List Value) (vs : List V) (Q : VK) (E : XK), Room (k + 1) A → Env0 X.prog X.w X.K X.mg X.base A up s H → LamOk X.prog X.w X.K X.mg X.base k up H s f (spL ⟨X.K, X.mg⟩ G0 TH) → Vals vs us → us.length = n → spM ⟨X.K, X.mg⟩ (F TH f G0) vs H Q E →
      codeAny (model X.prog X.w) A (.call (.ref g) ⟨us, []⟩) (CR (L2.CX X.prog X.w) up X.prog X.w H s Q E) s)
    (hr : Room (k + 1) X.A) (hF : ∀ TH M, F TH f G M args = Sp TH M ds) (hql : us.length = n)
    (I : Inv X pins σ H s) (S : StR ⟨X.K, X.mg⟩ B G H σ e) (hf : s.heap.get? f = some (lamObj X params body scope pm c' ctv)) (hfn : H f = none) (hfr : f ∉ frs X.stack) (hco : H c' = some (.frz oc (CodeO c' (X.env.qual ++ "<lambda>"))))
    (rv : Vals vs us) (r : VRels ⟨X.K, X.mg⟩ G vs args) (h : oE ⟨X.K, X.mg⟩ B W σ G (lamRun Sp is fb e ds) fun ev e' G' H' => ∀ v, ERel ⟨X.K, X.mg⟩ G' σ v ev → Q v H') :
    wpAny (model X.prog X.w) X.A (call (.ref g) us) (EP X pins σ Q) X.xe s := by
  unfold lamRun at h
  split at h
  case isFalse => exact h.elim
  rename_i no
  cases hM : stoOf e with
  | none => rw [hM] at h; exact h.elim
  | some M =>
  rw [hM] at h
  dsimp only at h
  have L := (lamOk_of (k := j) I S no hM LD.L hf hfn hfr hco LD.nd LD.hi LD.hbind (LD.hbody f c')).mono hjk
  refine wpAny_call (codeAny_mono (D f G (thunk is fb e) X.A X.stack s H us vs Q (WE W σ) hr I.env0 L rv hql ⟨G, args, M, S.gh, S.bz hM, r, ?_⟩) fun r s' hq => ?_)
  · rw [hF]
    cases qz : Sp (thunk is fb e) M ds with
    | stk => rw [qz] at h; exact h.elim
    | ok z M' =>
      rw [qz] at h
      exact fun v G' H' P rv => h G' H' (S.afterM hM P) P.g v rv
    | exc x M' =>
      rw [qz] at h
      exact fun cls d G' H' P rx => h cls d G' H' (S.afterM hM P) P.g rx
  · cases r with
    | error e => exact passAt tk σ pins H s e s' I hq
    | ok fl =>
      cases fl with
      | ret u => exact I.after hq
      | next => exact False.elim hq
      | brk => exact False.elim hq
      | cont => exact False.elim hq
variable {p lpos pos : Pos} {ea : Expr} {fa : FE}
theorem de_lam1 (D : DefOkL X.prog X.w X.K X.mg X.base y 1 k F) (LD : LamD X x params body scope ps is fb j) (hr : Room (k + 1) X.A) (hF : ∀ TH f G M, F TH f G M [.adr f G] = Sp TH M []) (hjk : j + 1 ≤ k := by decide) (hg : Gl X y := by rfl) (hdb : (y == ("__debug__" : Str)) = false := by decide) :
    DE X (.Call (.Name y p) [.Lambda params body scope lpos] [] pos) (E.lam1 x Sp is fb) := by
  obtain ⟨g, hm, hk, Dg⟩ := D.ex
  refine ⟨fun B W tk => ⟨fun pins s σ H Q I h => ?_⟩⟩
  obtain ⟨G, env, S, h⟩ := h
  unfold E.lam1 at h
  split at h
  case isFalse => exact h.elim
  rename_i ht
  refine wpAny_Call_Name_kw (ld_glob I hg hm ?_ hdb)
  refine PySem.W.callWith_K (h₀ := X.base) I.ok.mod.kin hk ?_ (by rfl) (by rfl)
  show wpAny _ _ (spliced ((false, eval (.Lambda params body scope lpos) X.env) :: backTo pos (starEach [] X.env))) _ _ s
  refine Calls.spliced_cons (lam_makeD I S ht LD.tx LD.hq LD.hdef (LD.L.has I.ok) fun f c' oc pm ctv G1 H1 s' I1 S1 sg hf hfn _ hfr hco => ?_)
  refine Calls.spliced_nil ⟨I1.kIn, ?_⟩
  exact lam_call tk LD hjk Dg hr (fun TH M => hF TH f G1 M) rfl I1 S1 hf hfn hfr (S1.gh.nd hco True.intro) (.cons (show RelV (.ref f) (.ref f) from rfl) .nil) (.cons (.adr f (Same.refl _)) .nil) (h.mono sg fun _ _ _ _ _ z => z)
theorem de_lam2 (D : DefOkL X.prog X.w X.K X.mg X.base y 2 k F) (LD : LamD X x params body scope ps is fb j) (hr : Room (k + 1) X.A) (hF : ∀ TH f G M d, F TH f G M [d, .adr f G] = Sp TH M [d]) (ha : DE X ea fa) (hjk : j + 1 ≤ k := by decide) (hg : Gl X y := by rfl) (hdb : (y == ("__debug__" : Str)) = false := by decide)
    (he : starEach (ea :: [.Lambda params body scope lpos]) X.env = (false, eval ea X.env) :: starEach [.Lambda params body scope lpos] X.env := by rfl) (hpl : (backTo pos (starEach [.Lambda params body scope lpos] X.env)).any (·.1) = false := by rfl) :
    DE X (.Call (.Name y p) [ea, .Lambda params body scope lpos] [] pos) (E.lam2 x Sp is fb fa) := by
  obtain ⟨g, hm, hk, Dg⟩ := D.ex
  refine ⟨fun B W tk => ⟨fun pins s σ H Q I h => ?_⟩⟩
  obtain ⟨G, env, S, h⟩ := h
  refine wpAny_Call_Name_kw (ld_glob I hg hm ?_ hdb)
  refine PySem.W.callWith_K (h₀ := X.base) I.ok.mod.kin hk ?_ he hpl
  rw [he]
  show wpAny _ _ (spliced ((false, eval ea X.env) :: backTo pos (starEach [.Lambda params body scope lpos] X.env))) _ _ s
  refine Calls.spliced_cons (thn ((ha.run B W tk).run pins s σ H (fun v H1 => ∃ G1 e1 d, StR ⟨X.K, X.mg⟩ B G1 H1 σ e1 ∧ VRel ⟨X.K, X.mg⟩ G1 v d ∧ Same G G1 ∧ hasTab x (stoOf e1) = true ∧ oE ⟨X.K, X.mg⟩ B W σ G1 (lamRun Sp is fb e1 [d]) fun ev e' G' H' => ∀ v, ERel ⟨X.K, X.mg⟩ G' σ v ev → Q v H') I ⟨G, env, S, ?_⟩) ?_)
  · unfold E.lam2 at h
    cases q : fa env with
    | stk => rw [q] at h; exact h.elim
    | exc x0 e' => rw [q] at h; exact h
    | ok a e1 =>
      rw [q] at h
      simp only [Out.bind_ok] at h
      intro G1 H1 S1 l1 v r
      cases qf : frz e1 a with
      | none => rw [qf] at h; exact h.elim
      | some pr =>
        obtain ⟨d, e2⟩ := pr
        rw [qf] at h
        dsimp only at h
        obtain ⟨G2, S2, l2, rv⟩ := S1.frz r qf
        split at h
        · rename_i ht
          exact ⟨G2, e2, d, S2, rv, l1.trans l2, ht, h.mono (l1.trans l2) fun _ _ _ _ _ z => z⟩
        · exact h.elim
  · rintro u s1 ⟨v, H1, I1, r1, G1, e1, d, S1, rv, sg1, ht, h1⟩
    show wpAny _ _ (spliced ((false, eval (.Lambda params body scope lpos) X.env) :: backTo pos (starEach [] X.env))) _ _ s1
    refine Calls.spliced_cons (lam_makeD I1 S1 ht LD.tx LD.hq LD.hdef (LD.L.has I1.ok) fun f c' oc pm ctv G2 H2 s2 I2 S2 sg hf hfn _ hfr hco => ?_)
    refine Calls.spliced_nil ⟨I2.kIn, ?_⟩
    exact lam_call tk LD hjk Dg hr (fun TH M => hF TH f G2 M d) rfl I2 S2 hf hfn hfr (S2.gh.nd hco True.intro) (.cons r1 (.cons (show RelV (.ref f) (.ref f) from rfl) .nil)) (.cons (rv.same sg) (.cons (.adr f (Same.refl _)) .nil)) (h1.mono sg fun _ _ _ _ _ z => z)
theorem _root_.L2.Inv.unpin {p : Addr × Obj} (I : Inv X (p :: pins) σ H s) : Inv X pins σ H s :=
  ⟨I.ok, I.os, I.bare, I.base, I.loc, I.cell, I.free, I.freeC, fun q hq => I.pin q (by
    rcases List.mem_append.mp hq with z | z
    · exact List.mem_append_left _ z
    · exact List.mem_append_right _ (List.mem_cons_of_mem _ z)), I.hok, I.len⟩
theorem de_lam3 (D : DefOkL X.prog X.w X.K X.mg X.base y 2 k F) (LD : LamD X x params body scope ps is fb j) (hr : Room (k + 1) X.A) (hF : ∀ TH f G0 M d, F TH f G0 M [.adr f G0, d] = Sp TH M [d]) (ha : DE X ea fa) (hjk : j + 1 ≤ k := by decide) (hg : Gl X y := by rfl) (hdb : (y == ("__debug__" : Str)) = false := by decide)
    (he : starEach (ea :: []) X.env = (false, eval ea X.env) :: starEach [] X.env := by rfl) (hpl : (backTo pos (starEach [ea] X.env)).any (·.1) = false := by rfl) :
    DE X (.Call (.Name y p) [.Lambda params body scope lpos, ea] [] pos) (E.lam3 x Sp is fb fa) := by
  obtain ⟨g, hm, hk, Dg⟩ := D.ex
  refine ⟨fun B W tk => ⟨fun pins s σ H Q I h => ?_⟩⟩
  obtain ⟨G, env, S, h⟩ := h
  unfold E.lam3 at h
  split at h
  case isFalse => exact h.elim
  rename_i ht
  refine wpAny_Call_Name_kw (ld_glob I hg hm ?_ hdb)
  refine PySem.W.callWith_K (h₀ := X.base) I.ok.mod.kin hk ?_ (by rfl) hpl
  show wpAny _ _ (spliced ((false, eval (.Lambda params body scope lpos) X.env) :: backTo pos (starEach [ea] X.env))) _ _ s
  refine Calls.spliced_cons (lam_makeD I S ht LD.tx LD.hq LD.hdef (LD.L.has I.ok) fun f c' oc pm ctv G1 H1 s1 I1 S1 sg hf hfn hfge hfr hco => ?_)
  rw [he]
  show wpAny _ _ (spliced ((false, eval ea X.env) :: backTo pos (starEach [] X.env))) _ _ s1
  have I1p : Inv X ((f, lamObj X params body scope pm c' ctv) :: pins) σ H1 s1 := ⟨I1.ok, I1.os, I1.bare, I1.base, I1.loc, I1.cell, I1.free, I1.freeC, fun q hq => by
    rcases List.mem_append.mp hq with z | z
    · exact I1.pin q (List.mem_append_left _ z)
    · rcases List.mem_cons.mp z with z | z
      · subst z
        refine ⟨hf, hfn, fun z => ?_, fun z => hfr ?_, fun v z => by cases z⟩
        · have h1 := I.lt
          rw [← z] at h1
          exact Nat.lt_irrefl _ (Nat.lt_of_lt_of_le h1 hfge)
        · rcases I.ok.stk with k | ⟨k, _⟩
          · rw [k]; exact z
          · rw [k]
            obtain ⟨e, he, hee⟩ := List.mem_filterMap.mp z
            exact List.mem_filterMap.mpr ⟨e, List.mem_cons_of_mem _ he, hee⟩
      · exact I1.pin q (List.mem_append_right _ z), I1.hok, I1.len⟩
  refine Calls.spliced_cons (thn ((ha.run B W tk).run _ s1 σ H1 (fun v H2 => ∃ G2 e2 d, StR ⟨X.K, X.mg⟩ B G2 H2 σ e2 ∧ VRel ⟨X.K, X.mg⟩ G2 v d ∧ H2 c' = some (.frz oc (CodeO c' (X.env.qual ++ "<lambda>"))) ∧ oE ⟨X.K, X.mg⟩ B W σ G2 (lamRun Sp is fb e2 [d]) fun ev e' G' H' => ∀ v, ERel ⟨X.K, X.mg⟩ G' σ v ev → Q v H') I1p ⟨G1, env, S1, ?_⟩) ?_)
  · cases q : fa env with
    | stk => rw [q] at h; exact h.elim
    | exc x0 e' => rw [q] at h; exact fun cls d G' H' S' l => h cls d G' H' S' (sg.trans l)
    | ok a e1 =>
      rw [q] at h
      simp only [Out.bind_ok] at h
      intro G2 H2 S2 l2 v r
      cases qf : frz e1 a with
      | none => rw [qf] at h; exact h.elim
      | some pr =>
        obtain ⟨d, e2⟩ := pr
        rw [qf] at h
        dsimp only at h
        obtain ⟨G3, S3, l3, rv⟩ := S2.frz r qf
        exact ⟨G3, e2, d, S3, rv, S3.gh.nd (l3 _ _ (l2 _ _ hco)) True.intro, h.mono ((sg.trans l2).trans l3) fun _ _ _ _ _ z => z⟩
  · rintro u s2 ⟨v, H2, I2, r2, G2, e2, d, S2, rv, hco2, h2⟩
    refine Calls.spliced_nil ⟨I2.kIn, ?_⟩
    have hp := I2.pin (f, lamObj X params body scope pm c' ctv) (List.mem_append_right _ (List.mem_cons_self ..))
    exact lam_call tk LD hjk Dg hr (fun TH M => hF TH f G2 M d) rfl I2.unpin S2 hp.1 hp.2.1 hfr hco2 (.cons (show RelV (.ref f) (.ref f) from rfl) (.cons r2 .nil)) (.cons (.adr f (Same.refl _)) (.cons rv .nil)) h2
end
end DL
-- DL24
set_option maxRecDepth 100000
set_option maxHeartbeats 1000000
/-! DL24: try .. except ..; raise of an error class without a thing. -/
namespace DL
open PySem PySem.Spec PyProof.Rows L2
/-! ### a thing that stands there already is tracked -/
section
variable {X : Cx} {pins : List (Addr × Obj)} {σ : L2.St} {H : Hp} {s : Shared}
theorem _root_.L2.Inv.track {a : Addr} {o : HO} (I : Inv X pins σ H s) (ns : X.s_0.heap.get? a = none) (na : H a = none) (nL : a ≠ X.env.locals) (nc : ∀ x c, X.env.cells.lookup x = some c → c ≠ a) (np : ∀ p ∈ X.pn ++ pins, p.1 ≠ a) (new : ObjOk X.prog X.w (L2.upd H a o) s.heap a o) : Inv X pins σ (L2.upd H a o) s := by
  have sm : ∀ b u, H b = some u → L2.upd H a o b = some u := fun b u e => by rw [upd_ne (fun z => by rw [z, na] at e; cases e)]; exact e
  have s0 : ∀ b u, X.s_0.heap.get? b = some u → b ≠ a := fun b u e z => by rw [z, ns] at e; cases e
  refine ⟨I.ok, I.os, I.bare, ⟨I.base.keep, I.base.slot, fun b ob e n hx => ?_, I.base.there, fun b xs e => sm _ _ (I.base.tups b xs e), fun b ob u e => sm _ _ (I.base.frzs b ob u e), fun b ps e => ?_⟩, I.loc, I.cell, ?_, fun x c e => ?_, fun p hp => ?_, fun b u e => ?_, I.len⟩
  · rw [upd_ne (s0 b ob e)]; exact I.base.free b ob e n hx
  · obtain ⟨m, z⟩ := I.base.tbls b ps e
    exact ⟨m, sm _ _ z⟩
  · rw [upd_ne (Ne.symm nL)]; exact I.free
  · rw [upd_ne (nc x c e)]; exact I.freeC x c e
  · obtain ⟨e, n, r⟩ := I.pin p hp
    exact ⟨e, by rw [upd_ne (np p hp)]; exact n, r⟩
  · by_cases hb : b = a
    · subst hb; rw [upd_same] at e; cases e; exact new
    · rw [upd_ne hb] at e
      exact (I.hok b u e).stay (fun _ _ _ q => q) (fun c q => sm _ _ q) fun c xs q => sm _ _ q
end
/-! ### what handlers do -/
def xD : Xn → D
  | .x0 c => .exc0 c
  | .x1 c f v => .exc1 c f v
def xC : Xn → Str
  | .x0 c => c
  | .x1 c _ _ => c
def delE (i : Option Nat) (e : Ev) : Ev := match i with
  | some i => put1 e i .no
  | none => e
def sufS (i : Option Nat) : SO → SO
  | .nx e => .nx (delE i e)
  | .rt d e => .rt d e
  | .bk e => .bk (delE i e)
  | .ct e => .ct (delE i e)
  | .exc _ _ => .stk
  | .stk => .stk
def putX (i : Option Nat) (x : Xn) (e : Ev) : Ev := match i with
  | some i => put1 e i (.val (xD x))
  | none => e
abbrev Hd := Str × Option Nat × FS
def hdsS (cs : List Str) : List Hd → Xn → Ev → SO
  | [], x, e => .exc x e
  | (C, i, fs) :: r, x, e => if xC x ∈ cs ∧ C ∈ cs then (if subE (xC x) C = true then sufS i (fs (putX i x e)) else hdsS cs r x e) else .stk
def S.tryD (cs : List Str) (body : FS) (l : List Hd) : FS := fun env => match body env with
  | .exc x e => hdsS cs l x e
  | o => o
/-- what an except clause asks of the error classes cs -/
structure ErrX (K : PySem.W.Frag) (mg : Str → Option Value) (cs : List Str) : Prop where
  em : ∀ c ∈ cs, ∀ b ∈ cs, ∀ C D, mg c = some (.ref C) → mg b = some (.ref D) → PySem.W.exmOne K (.ref C) (.ref D) = some (subE c b)
  m : ∀ c ∈ cs, ∃ C, mg c = some (.ref C)
inductive HdsD (X : Cx) : List ExceptHandler → List Hd → Prop
  | nil : HdsD X [] []
  | as {C n : Str} {i : Nat} {np pos' : Pos} {b₀ : Stmt} {suite : List Stmt} {fs : FS} {hds : List ExceptHandler} {l : List Hd} (hg : Gl X C) (hdb : (C == ("__debug__" : Str)) = false) (hi : X.N[i]? = some n) (hln : X.env.kindOf n = some .local)
      (hsu : ∀ (a : Addr) (pn : List (Addr × Obj)), DSs (X.suite a pn) (b₀ :: suite) fs) (r : HdsD X hds l) : HdsD X (.ExceptHandler (some (.Name C np)) (some n) (b₀ :: suite) pos' :: hds) ((C, some i, fs) :: l)
  | only {C : Str} {np pos' : Pos} {b₀ : Stmt} {suite : List Stmt} {fs : FS} {hds : List ExceptHandler} {l : List Hd} (hg : Gl X C) (hdb : (C == ("__debug__" : Str)) = false)
      (hsu : ∀ (a : Addr) (pn : List (Addr × Obj)), DSs (X.suite a pn) (b₀ :: suite) fs) (r : HdsD X hds l) : HdsD X (.ExceptHandler (some (.Name C np)) none (b₀ :: suite) pos' :: hds) ((C, none, fs) :: l)
theorem StR.dels {T : Stt} {B : Bse} {G H : Hp} {σ : St} {e : Ev} (S : StR T B G H σ e) (i : Nat) : StR T B G H (σ.set i none) (DL.put1 e i .no) := S.no i none
section
variable {X : Cx} {body : List Stmt} {h₀ : ExceptHandler} {hds : List ExceptHandler} {l : List Hd} {pos : Pos} {fb : FS} {cs : List Str}
theorem ds_tryD (EX : ErrX X.K X.mg cs) (hN : X.N.Nodup) (hh : HdsD X (h₀ :: hds) l) (hb : ∀ (pn : List (Addr × Obj)) (xe : Value → Shared → Prop), DSs (X.tr pn xe) body fb)
    (hs : X.stack = X.env :: X.outer := by rfl) (hf : X.env.frame = some X.env.locals := by rfl) (hex : X.ex = [] := by rfl) : DS X (.Try body (h₀ :: hds) [] [] pos) (S.tryD cs fb l) := by
  refine ⟨fun B Wout tk psn => ⟨fun pins s σ H De I h => ?_⟩⟩
  have ok := I.ok
  have hfr : X.A.frames = some (X.env :: X.outer) := by rw [ok.frames, hs]
  obtain ⟨G, env, S, h⟩ := h
  let T : Stt := ⟨X.K, X.mg⟩
  let wD : WX := fun cls d σ H => ∃ G e x, StR T B G H σ e ∧ XRel T G H x cls d ∧ oS T B Wout De G (hdsS cs l x e)
  have hbody : tS T B wD fb De σ H := by
    refine ⟨G, env, S, ?_⟩
    unfold DL.S.tryD at h
    cases q : fb env with
    | nx e => rw [q] at h; exact h
    | rt d e => rw [q] at h; exact h
    | bk e => rw [q] at h; exact h
    | ct e => rw [q] at h; exact h
    | stk => rw [q] at h; exact h
    | exc x e => rw [q] at h; exact fun cls d σ' G' H' S' l' rx => ⟨G', e, x, S', rx, h.mono l'⟩
  refine wpAny_Try_except ?_
  let xe : Value → Shared → Prop := fun e s₁ => wpAny (model X.prog X.w) X.A (noteFrame e X.env) (fun _ s₂ => wpAny (model X.prog X.w) X.A (setFlight e none) (fun _ s₃ =>
    wpAny (model X.prog X.w) X.A (handleBy e X.env (h₀ :: hds)) (SP X pins De) X.xe s₃) X.xe s₂) X.xe s₁
  have tkB : Takes (X.tr (X.pn ++ pins) xe) wD := by
    intro u s' xx
    obtain ⟨a, BB, sI, pins', σ', H', cls, d, rfl, J', nb, up, sky, na, os, ag, Gx, e, x, Sx, rx, ho⟩ := xx
    have J : Inv X pins σ' H' sI := J'.ofTry ok
    have sky' : Sky BB (X.env :: X.outer) a (Zc cls d) X.env.locals s'.heap := by rw [← hs]; exact sky
    show wpAny (model X.prog X.w) X.A (noteFrame (.ref a) X.env) _ _ _
    refine Sky.land Zc.steady hfr hf sky' fun h3 fl3 up3 => ?_
    have J3 : Inv X pins σ' H' { s' with heap := h3 } := J.landed nb fl3.1 (up.trans up3) os ag
    obtain ⟨oe3, vs3, he3, hz3, hd3⟩ := fl3.there
    have notFr : ∀ {h : Heap} {o : Obj} {vs : Array Value}, h.FunFrames BB (X.env :: X.outer) → h.get? a = some o → o.data = .fields vs → a ∉ frs (X.env :: X.outer) := fun {h o vs} ff e dd hm => by
      obtain ⟨_, o', e', hnf⟩ := ff.mem hm
      rw [e] at e'; cases e'
      exact hnf _ dd
    have nfr := notFr fl3.2.2.1 he3 hd3
    have nL : a ≠ X.env.locals := fun z => nfr (List.mem_filterMap.mpr ⟨X.env, List.mem_cons_self, by rw [hf, z]⟩)
    have nF : a ∉ X.fs := fun hm => by
      obtain ⟨e, he, q⟩ := List.mem_filterMap.mp hm
      exact nfr (List.mem_filterMap.mpr ⟨e, List.mem_cons_of_mem _ he, q⟩)
    have fresh : ∀ b o, sI.heap.get? b = some o → b ≠ a := fun b o e z => by
      subst z
      have := nb b o e (by rw [hs]; exact nfr)
      rw [fl3.2.1] at this
      cases this
    have ns : X.s_0.heap.get? a = none := by
      cases q : X.s_0.heap.get? a with
      | none => rfl
      | some o =>
        obtain ⟨o', q'⟩ := J.base.there a o q (by rw [hex]; exact fun z => nomatch z)
        exact (fresh a o' q' rfl).elim
    have S3 := J3.suite he3 hd3 na nL nF
    have LT : PySem.W.Looks (model X.prog X.w) h3 (typeOf (.ref a)) cls := fun A Q E s k q => wpAny_typeOf_ref (k _ _ he3) (by rw [hz3.1]; exact q)
    have test : ∀ {C : Str} {D : Addr} {np : Pos} {Q : Value → Shared → Prop} {E : Value → Shared → Prop}, Gl X C → (C == ("__debug__" : Str)) = false → X.mg C = some (.ref D) → Q (.ref D) { s' with heap := h3 } → wpAny (model X.prog X.w) (X.A.mark (some (.ref a))) (eval (.Name C np) X.env) Q E { s' with heap := h3 } := fun {C D np Q E} hg hdb hm q =>
      ld_glob (X := X.suite a ((a, oe3) :: (X.pn ++ pins))) S3 hg hm q hdb
    -- the exception as a thing of the suite's
    have tracked : ∀ h4, (∃ oe vs, h4.get? a = some oe ∧ Zc cls d oe ∧ oe.data = .fields vs) → Inv X pins σ' H' { s' with heap := h4 } → ∃ C G4 H4, cls = .ref C ∧ Inv X pins σ' H4 { s' with heap := h4 } ∧ StR T B G4 H4 σ' e ∧ Same Gx G4 ∧ VRel T G4 (.ref a) (xD x) := fun h4 th J4 => by
      obtain ⟨C, hC, hm⟩ : ∃ C, cls = .ref C ∧ X.mg (xC x) = some (.ref C) := by
        cases x with
        | x0 c => obtain ⟨C, m, e1, _⟩ := rx; exact ⟨C, e1, m⟩
        | x1 c f y => obtain ⟨C, dd, v, m, e1, _⟩ := rx; exact ⟨C, e1, m⟩
      subst hC
      obtain ⟨S4, sg⟩ := Sx.new (p := a) (o := exw a C d) na (fun _ z => nomatch (show HO.ext _ = HO.own _ from z))
      have I4 : Inv X pins σ' (L2.upd H' a (exw a C d)) { s' with heap := h4 } := by
        refine J4.track ns na nL (fun y c hc z => ?_) (fun p hp z => ?_) ?_
        · obtain ⟨w', o, ho, _⟩ := J.cell y c hc
          exact fresh c o ho z
        · exact fresh p.1 p.2 (J.pin p hp).1 z
        · obtain ⟨oe, vs, t1, t2, t3⟩ := th
          exact ⟨⟨oe, vs, t1, t2, t3⟩, ⟨oe, t1⟩, fun h1 h2 ⟨oe, vs, a1, a2, a3⟩ st => ⟨oe, vs, st _ a1, a2, a3⟩⟩
      refine ⟨C, _, _, rfl, I4, S4, sg, ?_⟩
      cases x with
      | x0 c =>
        obtain ⟨C', m, e1, e2⟩ := rx
        subst e2
        exact .exc0 hm (.inr upd_same)
      | x1 c f y =>
        obtain ⟨C', dd, v, m, e1, e2, g, rv⟩ := rx
        subst e2
        exact .exc1 hm (.inr upd_same) (.inr (sg _ _ g)) (rv.same sg)
    have suiteInv : ∀ {H4 h4}, Inv X pins σ' H4 { s' with heap := h4 } → Inv (X.suite a (X.pn ++ pins)) [] σ' H4 { s' with heap := h4 } := fun {H4 h4} J =>
      ⟨J.ok.suite _ _, J.os, J.bare, J.base, J.loc, J.cell, J.free, J.freeC, fun p hp => J.pin p (by rw [List.append_nil] at hp; exact hp), J.hok, J.len⟩
    have unsuite : ∀ {σ6 H6 s6}, Inv (X.suite a (X.pn ++ pins)) [] σ6 H6 s6 → Inv X pins σ6 H6 s6 := fun {σ6 H6 s6} J =>
      ⟨ok, J.os, J.bare, J.base, J.loc, J.cell, J.free, J.freeC, fun p hp => J.pin p (by rw [List.append_nil]; exact hp), J.hok, J.len⟩
    have go : ∀ {hds' : List ExceptHandler} {l' : List Hd}, HdsD X hds' l' → oS T B Wout De Gx (hdsS cs l' x e) → wpAny (model X.prog X.w) X.A (handleBy (.ref a) X.env hds') (SP X pins De) X.xe { s' with heap := h3 } := by
      intro hds' l' hk
      induction hk with
      | nil =>
        intro ho
        rw [hdsS] at ho
        refine wpAny_handleBy_nil ?_
        obtain ⟨k1, k2, k3, oe, vs, TT, oT, ts', he, hz, hd, h1, hr⟩ := id fl3
        unfold PySem.passOn
        refine wpAny_bind (wpAny_field he hd h1 ?_)
        rw [if_neg (show ¬ ((Value.ref TT == Value.none) = true) from by simp)]
        have fin : wpAny (model X.prog X.w) X.A (setFlight (.ref a) X.env.frame) (fun _ s4 => wpAny (model X.prog X.w) X.A (throw (.ref a) : Sem Flow) (SP X pins De) X.xe s4) X.xe { s' with heap := h3 } := by
          rw [hf]
          refine HandSPX.setFlight_upZ fl3 fun h4 hh4 up4 => wpAny_throw (tk _ _ ?_)
          exact ⟨a, BB, sI, pins, σ', H', cls, d, rfl, J, nb, (up.trans up3).trans up4, .inr (.inr (by rw [hs]; exact hh4)), na, os, ag, ho cls d σ' Gx H' Sx (Same.refl _) rx⟩
        first
          | exact wpAny_bind (wpAny_pure (wpAny_bind fin))
          | exact wpAny_bind fin
      | @as C n i np pos' b₀ suite fs hds l hg hdb hi hln hsu r ih =>
        intro ho
        rw [hdsS] at ho
        split at ho
        case isFalse => exact ho.elim
        rename_i hc
        obtain ⟨D0, hm⟩ := EX.m C hc.2
        obtain ⟨C0, hC0, hm0⟩ : ∃ C, cls = .ref C ∧ X.mg (xC x) = some (.ref C) := by
          cases x with
          | x0 c => obtain ⟨C, m, e1, _⟩ := rx; exact ⟨C, e1, m⟩
          | x1 c f y => obtain ⟨C, dd, v, m, e1, _⟩ := rx; exact ⟨C, e1, m⟩
        have em := EX.em _ hc.1 _ hc.2 _ _ hm0 hm
        rw [← hC0] at em
        have LM := PySem.W.exm_one (M := model X.prog X.w) (J3.kIn) LT em
        refine wpAny_handleBy_cons (codeAny_handlers_test ?_) (by intro q; cases q)
        refine test hg hdb hm (LM.here ?_)
        have hloc : Loc X.env.scope n := .inl hln
        split at ho
        · rename_i hb1
          rw [hb1]
          refine codeAny_handlers_suite_as ?_
          refine HandSPX.lands_againZ fl3 fun h4 fl4 up4 => ?_
          have J4 : Inv X pins σ' H' { s' with heap := h4 } := J.landed nb fl4.1 ((up.trans up3).trans up4) os ag
          obtain ⟨oe4, vs4, he4, hz4, hd4⟩ := fl4.there
          obtain ⟨C1, G4, H4, _, I4, S4, sg, rv⟩ := tracked h4 ⟨oe4, vs4, he4, hz4, hd4⟩ J4
          refine store_ok (X := X.suite a (X.pn ++ pins)) (v := .ref a) (suiteInv I4) hN hi hloc rfl (fun s5 S5 => ?_) (.inr hln)
          have hS : tS T B (fun _ _ _ _ => False) fs { nx := fun σ' H' => De.nx (σ'.set i none) H', rt := De.rt, bk := fun σ' H' => De.bk (σ'.set i none) H', ct := fun σ' H' => De.ct (σ'.set i none) H' } (σ'.set i (some (.ref a))) H4 := by
            refine ⟨G4, _, S4.set rv i, ?_⟩
            have ho2 := ho.mono sg
            show oS T B _ _ G4 (fs (put1 e i (.val (xD x))))
            unfold putX at ho2
            dsimp only at ho2
            cases q : fs (put1 e i (.val (xD x))) with
            | nx e2 => rw [q, sufS] at ho2; exact fun σ6 G6 H6 S6 l6 => ho2 (σ6.set i none) G6 H6 (S6.dels i) l6
            | bk e2 => rw [q, sufS] at ho2; exact fun σ6 G6 H6 S6 l6 => ho2 (σ6.set i none) G6 H6 (S6.dels i) l6
            | ct e2 => rw [q, sufS] at ho2; exact fun σ6 G6 H6 S6 l6 => ho2 (σ6.set i none) G6 H6 (S6.dels i) l6
            | rt d2 e2 => rw [q, sufS] at ho2; exact fun v σ6 G6 H6 S6 l6 rv => ho2 v σ6 G6 H6 S6 l6 rv
            | exc x2 e2 => rw [q, sufS] at ho2; exact ho2.elim
            | stk => rw [q, sufS] at ho2; exact ho2.elim
          have tk0 : Takes (X.suite a (X.pn ++ pins)) (fun _ _ _ _ => False) := LamX.takes0
          refine wpAny_mono (((hsu a (X.pn ++ pins)).run B _ tk0 PassesOwn.never).run [] s5 _ H4 _ S5 hS) (fun f s6 hsp => ?_) (fun _ _ z => False.elim z)
          have end_ : ∀ {σ6 : St} {H6 : Hp} {Q : Shared → Prop}, Inv (X.suite a (X.pn ++ pins)) [] σ6 H6 s6 → (∀ s7, Inv X pins (σ6.set i none) H6 s7 → Q s7) →
              wpAny (model X.prog X.w) X.A (do bindName X.env n .none; unbindBehindTheSuite X.env n pos') (fun _ s7 => Q s7) X.xe s6 := fun {σ6 H6 Q} S6 hq => gone_ok (unsuite S6) hN hi hln hq
          cases f with
          | next =>
            obtain ⟨σ6, H6, S6, q6⟩ := hsp
            exact end_ S6 fun s7 J7 => ⟨_, _, J7, q6⟩
          | brk =>
            obtain ⟨σ6, H6, S6, q6⟩ := hsp
            exact end_ S6 fun s7 J7 => ⟨_, _, J7, q6⟩
          | cont =>
            obtain ⟨σ6, H6, S6, q6⟩ := hsp
            exact end_ S6 fun s7 J7 => ⟨_, _, J7, q6⟩
          | ret u =>
            obtain ⟨v6, σ6, H6, S6, r6, q6⟩ := hsp
            exact end_ S6 fun s7 J7 => ⟨_, _, _, J7, r6, q6⟩
        · rename_i hb1
          rw [Bool.eq_false_iff.mpr hb1]
          exact ih ho
      | @only C np pos' b₀ suite fs hds l hg hdb hsu r ih =>
        intro ho
        rw [hdsS] at ho
        split at ho
        case isFalse => exact ho.elim
        rename_i hc
        obtain ⟨D0, hm⟩ := EX.m C hc.2
        obtain ⟨C0, hC0, hm0⟩ : ∃ C, cls = .ref C ∧ X.mg (xC x) = some (.ref C) := by
          cases x with
          | x0 c => obtain ⟨C, m, e1, _⟩ := rx; exact ⟨C, e1, m⟩
          | x1 c f y => obtain ⟨C, dd, v, m, e1, _⟩ := rx; exact ⟨C, e1, m⟩
        have em := EX.em _ hc.1 _ hc.2 _ _ hm0 hm
        rw [← hC0] at em
        have LM := PySem.W.exm_one (M := model X.prog X.w) (J3.kIn) LT em
        refine wpAny_handleBy_cons (codeAny_handlers_test ?_) (by intro q; cases q)
        refine test hg hdb hm (LM.here ?_)
        split at ho
        · rename_i hb1
          rw [hb1]
          refine codeAny_handlers_suite ?_
          refine HandSPX.lands_againZ fl3 fun h4 fl4 up4 => ?_
          have J4 : Inv X pins σ' H' { s' with heap := h4 } := J.landed nb fl4.1 ((up.trans up3).trans up4) os ag
          obtain ⟨oe4, vs4, he4, hz4, hd4⟩ := fl4.there
          obtain ⟨C1, G4, H4, _, I4, S4, sg, rv⟩ := tracked h4 ⟨oe4, vs4, he4, hz4, hd4⟩ J4
          have hS : tS T B (fun _ _ _ _ => False) fs De σ' H4 := by
            refine ⟨G4, _, S4, ?_⟩
            have ho2 := ho.mono sg
            unfold putX at ho2
            dsimp only at ho2
            cases q : fs e with
            | nx e2 => rw [q, sufS] at ho2; exact ho2
            | bk e2 => rw [q, sufS] at ho2; exact ho2
            | ct e2 => rw [q, sufS] at ho2; exact ho2
            | rt d2 e2 => rw [q, sufS] at ho2; exact ho2
            | exc x2 e2 => rw [q, sufS] at ho2; exact ho2.elim
            | stk => rw [q, sufS] at ho2; exact ho2.elim
          have tk0 : Takes (X.suite a (X.pn ++ pins)) (fun _ _ _ _ => False) := LamX.takes0
          refine wpAny_mono (((hsu a (X.pn ++ pins)).run B _ tk0 PassesOwn.never).run [] _ _ H4 _ (suiteInv I4) hS) (fun f s6 hsp => ?_) (fun _ _ z => False.elim z)
          cases f with
          | next =>
            obtain ⟨σ6, H6, S6, q6⟩ := hsp
            exact ⟨_, _, unsuite S6, q6⟩
          | brk =>
            obtain ⟨σ6, H6, S6, q6⟩ := hsp
            exact ⟨_, _, unsuite S6, q6⟩
          | cont =>
            obtain ⟨σ6, H6, S6, q6⟩ := hsp
            exact ⟨_, _, unsuite S6, q6⟩
          | ret u =>
            obtain ⟨v6, σ6, H6, S6, r6, q6⟩ := hsp
            exact ⟨_, _, _, unsuite S6, r6, q6⟩
        · rename_i hb1
          rw [Bool.eq_false_iff.mpr hb1]
          exact ih ho
    exact go hh ho
  refine wpAny_mono (((hb (X.pn ++ pins) xe).run B wD tkB PassesOwn.looking).run [] s σ H De (I.toTry _) hbody) (fun f s1 hsp => ?_) (fun e s1 he => he)
  cases f with
  | next =>
    obtain ⟨σ', H', J', q⟩ := hsp
    exact wpAny_execs_nil ⟨σ', H', J'.ofTry ok, q⟩
  | brk =>
    obtain ⟨σ', H', J', q⟩ := hsp
    exact ⟨σ', H', J'.ofTry ok, q⟩
  | cont =>
    obtain ⟨σ', H', J', q⟩ := hsp
    exact ⟨σ', H', J'.ofTry ok, q⟩
  | ret u =>
    obtain ⟨v, σ', H', J', r, q⟩ := hsp
    exact ⟨v, σ', H', J'.ofTry ok, r, q⟩
end
/-! ### raise X() -/
structure ExcR (K : PySem.W.Frag) (mg : Str → Option Value) (c : Str) : Prop where
  ex : ∃ C, mg c = some (.ref C) ∧ PySem.W.keepIn K (.ref C) = true ∧ PySem.W.excIn K C He.veBase "ValueError.__new__" = true ∧ PySem.W.subIn K (.ref C) (.type "BaseException") = some true ∧ PySem.W.typeIn K (.ref C) = some (.type "type")
def S.raise0 (c : Str) : FS := fun env => .exc (.x0 c) env
section
variable {X : Cx} {pos p p2 : Pos} {c : Str}
theorem pmk_own0 {C : Addr} {bmB : List Value} {B newId initId : String} (F : ExcBaseFacts B newId initId bmB) (q : PySem.W.excIn X.K C bmB newId = true) (gC : X.mg c = some (.ref C)) (kC : PySem.W.keepIn X.K (.ref C) = true) (r : Raises X (.ref C)) (hg : Gl X c)
    (hdb : (c == ("__debug__" : Str)) = false) : PMk X (.Call (.Name c p) [] [] pos) (fun _ H Q => Q (.ref C) none H) := by
  intro pins s σ H Q I h
  refine wpAny_Call_Name_kw (ld_glob I hg gC ?_ hdb)
  refine PySem.W.callWith_K0 I.kIn kC ?_
  show wpAny _ _ (call (.ref C) []) _ _ _
  obtain ⟨bm, N, nm, qn, bs, hdct, sn, sub, ab, col, dd, k0, k1, k2, k3, k5, mN, hC, hN, hni, T⟩ := exc_obj I.kIn q
  refine wpAny_call_exc_subT F T hC hN hni (fun h' e hm => ?_) (by rw [sizeLine_eq]; simp)
  exact mk_of I hm r h (I.hok.gone hm.new)
theorem ds_raise0 (hc : X.calm = true) (T : ExcR X.K X.mg c) (hg : Gl X c := by rfl) (hdb : (c == ("__debug__" : Str)) = false := by decide) : DS X (.Raise (some (.Call (.Name c p) [] [] p2)) none pos) (S.raise0 c) := by
  obtain ⟨C, hm, kp, ec, h1, h2⟩ := T.ex
  refine ⟨fun B W tk ps => (ps_raise hc tk (pmk_own0 F.excBase_ValueError ec hm kp (raises_own h1 h2) hg hdb)).imp fun De σ H q => ?_⟩
  obtain ⟨G, env, Sr, q⟩ := q
  exact q _ _ σ G H Sr (Same.refl G) ⟨C, hm, rfl, rfl⟩
end
end DL
-- DL25a
set_option maxRecDepth 100000
set_option maxHeartbeats 4000000
/-! DL25a: facts of itertools.combinations. -/
namespace DLC
open PySem PySem.Spec
open Sem (wp)

theorem mro_cmb : mroOf (.type "itertools.combinations") = pure [.type "itertools.combinations", .type "object"] := by rw [mroOf_type]; kernel_rfl
theorem lookup_cmb_new : typeLookup (.type "itertools.combinations") "__new__" = pure (some (.builtin "itertools.combinations.__new__")) := by rw [typeLookup_type, builtinLookup_eq_fast]; kernel_rfl
theorem slot_cmb_init : Slot "itertools.combinations" "__init__" "object.__init__" :=
  .of (owner := "object") (n := "__init__") (by rw [typeLookup_type, builtinLookup_eq_fast]; kernel_rfl) (by decide +kernel) (by decide +kernel) (by decide +kernel)
    (by first | exact .inl (by decide +kernel) | exact .inr (by decide +kernel)) (by rw [isSubtype_type]; kernel_rfl)
theorem sub_cmb : isSubtype (.type "itertools.combinations") (.type "itertools.combinations") = pure true := by rw [isSubtype_type]; kernel_rfl
theorem called_cmb : TypeCalled "itertools.combinations" "itertools.combinations.__new__" "object.__init__" :=
  ⟨by decide +kernel, by decide +kernel, ⟨_, _, mro_cmb⟩, madeBy_type mro_cmb lookup_cmb_new (by decide +kernel), by decide +kernel, sub_cmb, slot_cmb_init⟩
theorem typeCall_cmb_2 (a b : Value) : checkTypeCall "itertools.combinations" ⟨[a, b], []⟩ = pure () := by kernel_rfl
theorem newCall_cmb_2 (a b : Value) : checkBuiltinCall "itertools.combinations.__new__" ⟨[.type "itertools.combinations", a, b], []⟩ = pure () := by kernel_rfl
theorem entry_cmb_new : entryFor table "itertools.combinations.__new__" = some Builtin.«itertools.combinations.__new__» := entryFor_of_tree (by kernel_rfl)
theorem slot_cmb_iter : Slot "itertools.combinations" "__iter__" "itertools.combinations.__iter__" :=
  .of (owner := "itertools.combinations") (n := "__iter__") (by rw [typeLookup_type, builtinLookup_eq_fast]; kernel_rfl) (by decide +kernel) (by decide +kernel) (by decide +kernel)
    (by first | exact .inl (by decide +kernel) | exact .inr (by decide +kernel)) sub_cmb
theorem slot_cmb_next : Slot "itertools.combinations" "__next__" "itertools.combinations.__next__" :=
  .of (owner := "itertools.combinations") (n := "__next__") (by rw [typeLookup_type, builtinLookup_eq_fast]; kernel_rfl) (by decide +kernel) (by decide +kernel) (by decide +kernel)
    (by first | exact .inl (by decide +kernel) | exact .inr (by decide +kernel)) sub_cmb
theorem entry_cmb_iter : entryFor table "itertools.combinations.__iter__" = some Builtin.«dict_keyiterator.__iter__» :=
  entryFor_alias (id' := "dict_keyiterator.__iter__") (by kernel_rfl) (by first | rfl | decide +kernel | (unfold String.splitOn; simp +decide [String.splitOnAux])) (by decide +kernel) (by kernel_rfl)
theorem entry_cmb_next : entryFor table "itertools.combinations.__next__" = some Builtin.«itertools.combinations.__next__» := entryFor_of_tree (by kernel_rfl)
theorem owner_cmb : Manifest.owners.lookup (String.ofList ['s', 'n', 'o', 'i', 't', 'a', 'n', 'i', 'b', 'm', 'o', 'c', '.', 's', 'l', 'o', 'o', 't', 'r', 'e', 't', 'i'].reverse) = some Manifest.sig_itertools_combinations := by kernel_rfl
theorem args_cmb_iter (a : Value) : argsOk "itertools.combinations.__iter__" ⟨[a], []⟩ := by
  unfold argsOk; rw [signature?_of (id := "itertools.combinations.__iter__") (n := ['_', '_', 'r', 'e', 't', 'i', '_', '_']) (o := ['s', 'n', 'o', 'i', 't', 'a', 'n', 'i', 'b', 'm', 'o', 'c', '.', 's', 'l', 'o', 'o', 't', 'r', 'e', 't', 'i']) (by kernel_rfl) owner_cmb]; kernel_rfl
theorem args_cmb_next (a : Value) : argsOk "itertools.combinations.__next__" ⟨[a], []⟩ := by
  unfold argsOk; rw [signature?_of (id := "itertools.combinations.__next__") (n := ['_', '_', 't', 'x', 'e', 'n', '_', '_']) (o := ['s', 'n', 'o', 'i', 't', 'a', 'n', 'i', 'b', 'm', 'o', 'c', '.', 's', 'l', 'o', 'o', 't', 'r', 'e', 't', 'i']) (by kernel_rfl) owner_cmb]; kernel_rfl
theorem noDict_cmb : typeHasDict (.type "itertools.combinations") = false := by decide +kernel
end DLC
-- DL25b
set_option maxRecDepth 100000
set_option maxHeartbeats 4000000
namespace DLC
open PySem PySem.Spec
open Sem (wp)
/-- what a combinations object holds -/
abbrev cmbF (p : Addr) (st : Int) (old : Value) (ks : List Nat) : Data := .fields (.ref p :: rawInt st :: old :: ks.map fun (n : Nat) => rawInt n).toArray
theorem meets_cmb_new (l : Addr) (o : Obj) (items : Array Value) (n : Nat) (r : Nat) (t : Tok) (hc : o.cls = .type "list") (hd : o.data = .seq items n) (hr : r ≤ 1000) (hsz : items.size ≤ sizeLine) :
    Meets (Builtin.«itertools.combinations.__new__» ⟨[.type "itertools.combinations", .ref l, .int r t], []⟩)
      (fun _ R s => s.heap.get? l = some o ∧ ∀ h' : Heap, (∀ b o', s.heap.get? b = some o' → h'.get? b = some o') →
        R (.ok (.ret (.ref (h'.push { cls := .type "tuple", data := .seq items }).objs.size))) { s with heap := (h'.push { cls := .type "tuple", data := .seq items }).push { cls := .type "itertools.combinations", data := cmbF h'.objs.size (if r > items.size then 2 else 0) .none (List.range r) } }) :=
  .of_wp fun prog w A R s h => by
    obtain ⟨hp, g, dd, tk, os⟩ := s; obtain ⟨ht, h⟩ := h
    have hst : ("itertools." ++ "combinations") = "itertools.combinations" := by decide
    have hsub : isSubtype (.type "itertools.combinations") (.type ("itertools." ++ "combinations")) = pure true := by rw [hst]; exact sub_cmb
    have hdc := noDict_cmb
    have hn : ¬ (((decide ((r : Int) < -(2 ^ 63 : Int)) || decide ((r : Int) ≥ (2 ^ 63 : Int)))) = true) := by
      have a : decide ((r : Int) < -(2 ^ 63 : Int)) = false := decide_eq_false (by omega)
      have b : decide ((r : Int) ≥ (2 ^ 63 : Int)) = false := decide_eq_false (by omega)
      rw [a, b]
      decide
    repeat (first
      | (with_reducible refine wpAny_collect_seq (hsz := hsz) l (.inl rfl) ht hc hd fun h' hk => ?_)
      | wp_step
      | simp only [List.head?_cons, Option.some_or, List.getElem?_cons_succ, List.getElem?_cons_zero, List.length_cons, List.length_nil, List.forIn_nil]
      | (refine wpAny_ite_false (decide_eq_false hn) ?_)
      )
    have hm : ¬ (Builtin.Itertools.itTooMany (r : Int) = true) := by
      show ¬ (decide ((r : Int) > 2 ^ 20) = true)
      rw [decide_eq_true_iff]; omega
    rw [if_neg hm]
    refine wpAny_bind (wpAny_newTuple ?_)
    refine wpAny_pure ?_
    refine wpAny_bind ?_
    show wpAny _ _ (if (!typeHasDict (.type "itertools.combinations")) = true then _ else _) _ _ _
    rw [hdc]
    show wpAny _ _ (newObj (.type "itertools.combinations") (.fields _)) _ _ _
    refine wpAny_newObj_type ?_ (by
      show _ ≤ sizeLine + 2
      simp
      have : (1003 : Nat) ≤ sizeLine := by decide
      omega)
    refine wpAny_pure ⟨_, rfl, ?_⟩
    have e := h h' hk
    simpa [Int.toNat_natCast, cmbF] using e
end DLC
-- DL25c
set_option maxRecDepth 100000
set_option maxHeartbeats 4000000
/-! DL25c: combinations at the library's level. -/
namespace DLC
open PySem PySem.Spec
open Sem (wp)
abbrev IsCmb (h : Heap) (c p : Addr) (st : Int) (old : Value) (ks : List Nat) : Prop := h.get? c = some { cls := .type "itertools.combinations", dict := none, data := cmbF p st old ks, slots := #[] }
/-- the choice of places that comes after ks: the last place that may grow grows, those behind it follow -/
def nxC (n : Nat) (ks : List Nat) : Option (List Nat) := ((List.range ks.length).reverse.find? fun i => ks.getD i 0 != i + n - ks.length).map fun i => ks.take i ++ (List.range (ks.length - i)).map (ks.getD i 0 + 1 + ·)
def combsF (n : Nat) : Nat → List Nat → List (List Nat)
  | 0, ks => [ks]
  | f + 1, ks => ks :: match nxC n ks with
    | none => []
    | some k => combsF n f k
def combs (n r : Nat) : List (List Nat) := combsF n 40 (List.range r)
theorem combs_next : ∀ n, n < 8 → ∀ r, r < n + 1 → ∀ i, i < (combs n r).length → nxC n ((combs n r).getD i []) = (combs n r)[i + 1]? := by decide +kernel
theorem combs_first : ∀ n, n < 8 → ∀ r, r < n + 1 → (combs n r)[0]? = some (List.range r) := by decide +kernel
theorem combs_len : ∀ n, n < 8 → ∀ r, r < n + 1 → ∀ i, i < (combs n r).length → ((combs n r).getD i []).length = r := by decide +kernel
section
variable {prog : Program} {w : World} {A : Around} {E : Value → Shared → Prop} {s : Shared}
theorem call_cmb {l : Addr} {items : Array Value} {r : Nat} {t : Tok} {Q : Value → Shared → Prop} (hl : s.heap.IsList l items) (hr : r ≤ items.size) (hr' : r ≤ 1000) (hsz : items.size ≤ sizeLine)
    (h : ∀ (h1 h' : Heap), (∀ b o, s.heap.get? b = some o → h1.get? b = some o) → IsCmb h' (h1.objs.size + 1) h1.objs.size 0 .none (List.range r) → h'.IsTuple h1.objs.size items → (∀ b o, h1.get? b = some o → h'.get? b = some o) → Q (.ref (h1.objs.size + 1)) { s with heap := h' }) :
    wpAny (model prog w) A (call (.type "itertools.combinations") [.ref l, .int r t]) Q E s := by
  obtain ⟨o, ho, hc, n, hd⟩ := hl
  refine callType_new called_cmb (by decide +kernel) (typeCall_cmb_2 _ _) (newCall_cmb_2 _ _) (fun obj => F.args_object_init_3 obj _ _) entry_cmb_new (meets_cmb_new l o items n r t hc hd hr' hsz) ⟨ho, fun h' hk => ?_⟩
  rw [if_neg (by omega)]
  have hz : (h'.push { cls := .type "tuple", data := .seq items }).objs.size = h'.objs.size + 1 := Heap.size_push ..
  have e1 : ((h'.push { cls := .type "tuple", data := .seq items }).push { cls := .type "itertools.combinations", data := cmbF h'.objs.size 0 .none (List.range r) }).get? (h'.push { cls := .type "tuple", data := .seq items }).objs.size = some _ := Heap.get?_push_size _ rfl
  refine ⟨⟨_, e1, rfl⟩, ?_⟩
  rw [hz] at e1
  rw [hz]
  exact h _ _ hk e1 ⟨_, Heap.get?_push_of_some _ (Heap.get?_push_size _ rfl), rfl, _, rfl⟩ fun b o q => Heap.get?_push_of_some _ (Heap.get?_push_of_some _ q)
theorem iter_cmb {it p : Addr} {st : Int} {old : Value} {ks : List Nat} {Q : Value → Shared → Prop} (hit : IsCmb s.heap it p st old ks) (h : Q (.ref it) s) : wpAny (model prog w) A (pyIter (.ref it)) Q E s := by
  have hT : s.TypeIs (.ref it) "itertools.combinations" := ⟨_, hit, rfl⟩
  refine wpAny_pyIter_slot hT slot_cmb_iter (wpAny_call_entry slot_cmb_iter hT entry_cmb_iter ?_ (args_cmb_iter _))
  show wpAny _ _ (ret (.ref it)) _ _ s
  exact wpAny_pure ⟨_, rfl, "itertools.combinations", _, hT, slot_cmb_next.lookup, h⟩
theorem nums_back {p : Addr} {st : Int} {old : Value} (f : Value → Nat) (hf : ∀ n t, f (.int n t) = n.toNat) (ks : List Nat) : List.map f (List.drop 3 (Value.ref p :: rawInt st :: old :: ks.map fun (n : Nat) => rawInt n).toArray.toList) = ks := by
  show List.map f (ks.map fun (n : Nat) => rawInt n) = ks
  induction ks with
  | nil => rfl
  | cons k ks ih => simp only [List.map_cons, ih]; simp [rawInt, hf]
/-- the pick -/
def pickV (items : Array Value) (ks : List Nat) : List Value := ks.map fun i => items.getD i .none
/-- the end of handing out -/
theorem hand_out {it p : Addr} {items : Array Value} {old : Value} {ks : List Nat} {Q : Fin → Shared → Prop} (hit : IsCmb s.heap it p 1 old ks) (hp : s.heap.IsTuple p items) (hk : ks.length ≤ sizeLine)
    (hQ : ∀ h', IsCmb h' it p 1 (.ref s.heap.objs.size) ks → h'.get? s.heap.objs.size = some { cls := .type "tuple", data := .seq (pickV items ks).toArray } → (∀ b o, b ≠ it → s.heap.get? b = some o → h'.get? b = some o) → Q (.done (.ret (.ref s.heap.objs.size))) { s with heap := h' }) :
    wpAny (model prog w) A ((Builtin.Itertools.itPoolItems (.ref p) >>= fun items => newTuple (ks.map fun i => items.getD i .none)) >>= fun result => field (.ref it) 2 >>= fun before => setField (.ref it) 2 result >>= fun _ => letGo [before] [result] >>= fun _ => ret result) Q E s := by
  obtain ⟨op, hop, _, np, hdp⟩ := hp
  refine wpAny_bind (wpAny_bind ?_)
  unfold Builtin.Itertools.itPoolItems
  refine wpAny_bind (wpAny_seqItems hop hdp (wpAny_pure ?_))
  refine wpAny_newTuple ?_ (by simpa using hk)
  have hit1 : IsCmb (s.heap.push { cls := .type "tuple", data := .seq (pickV items ks).toArray }) it p 1 old ks := Heap.get?_push_of_some _ hit
  have hne : s.heap.objs.size ≠ it := Nat.ne_of_gt (Heap.lt_size hit)
  refine wpAny_bind (wpAny_field hit1 rfl (x := old) rfl ?_)
  refine wpAny_bind (wpAny_setField_rec hit1 (by simp) fun h2 hit2 sb2 => ?_)
  refine wpAny_bind (wpAny_letGo (wpAny_pure (hQ h2 ?_ ?_ fun b o nb q => ?_)))
  · simpa using hit2
  · exact sb2.extBut _ _ hne (Heap.get?_push_size _ rfl)
  · exact sb2.extBut _ _ nb (Heap.get?_push_of_some _ q)
theorem item_first {it p : Addr} {items : Array Value} {old : Value} {ks : List Nat} {Q : Option Value → Shared → Prop} (hit : IsCmb s.heap it p 0 old ks) (hp : s.heap.IsTuple p items) (hpi : p ≠ it)  (hk : ks.length ≤ sizeLine)
    (hQ : ∀ h', IsCmb h' it p 1 (.ref s.heap.objs.size) ks → h'.get? s.heap.objs.size = some { cls := .type "tuple", data := .seq (pickV items ks).toArray } → (∀ b o, b ≠ it → s.heap.get? b = some o → h'.get? b = some o) → Q (some (.ref s.heap.objs.size)) { s with heap := h' }) :
    wpAny (model prog w) A (pyNext (.ref it)) Q E s := by
  have hT : s.TypeIs (.ref it) "itertools.combinations" := ⟨_, hit, rfl⟩
  unfold pyNext
  refine wpAny_bind (wpAny_attempt (wpAny_callSpecial?_slot (name := Str.ofString "__next__") hT slot_cmb_next
    (wpAny_call_entry slot_cmb_next hT entry_cmb_next ?_ (args_cmb_next _))))
  show wpAny _ _ (field (.ref it) 0 >>= _) _ _ s
  refine wpAny_bind (wpAny_field hit rfl (x := .ref p) rfl ?_)
  show wpAny _ _ ((load it >>= _) >>= _) _ _ s
  refine wpAny_bind (wpAny_bind (wpAny_load hit (wpAny_pure ?_)))
  show wpAny _ _ ((field (.ref it) 1 >>= _) >>= _) _ _ s
  refine wpAny_bind (wpAny_bind (wpAny_field hit rfl (x := rawInt 0) rfl (wpAny_pure ?_)))
  show wpAny _ _ (setField (.ref it) 1 (rawInt 1) >>= _) _ _ s
  refine wpAny_bind (wpAny_setField_rec hit (by simp) fun h1 hit1 sb1 => ?_)
  have hit1' : IsCmb h1 it p 1 old ks := by simpa using hit1
  have hz : h1.objs.size = s.heap.objs.size := sb1.1
  have hp1 : h1.IsTuple p items := hp.extBut sb1.extBut hpi
  rw [nums_back _ (fun _ _ => rfl)]
  refine hand_out (s := { s with heap := h1 }) hit1' hp1 hk fun h' q1 q2 q3 => ⟨_, rfl, wpAny_pure ?_⟩
  have hz' : ({ s with heap := h1 } : Shared).heap.objs.size = s.heap.objs.size := hz
  rw [hz'] at q1 q2 ⊢
  exact hQ h' q1 q2 fun b o nb q => q3 b o nb (sb1.extBut _ _ nb q)
theorem itStop_end {α : Type} {it : Addr} {h0 : Heap} {Q : α → Shared → Prop} (hh : A.handled = none) (k : Heap.ExtBut it h0 s.heap)
    (hE : ∀ h' e, Heap.ExtBut it h0 h' → (∃ o, h'.get? e = some o ∧ o.cls = .type "StopIteration") → E (.ref e) { s with heap := h' }) :
    wpAny (model prog w) A (Builtin.Itertools.itStop : Sem α) Q E s := by
  unfold Builtin.Itertools.itStop
  show wpAny _ _ (newExc (.type "StopIteration") [] >>= _) _ _ _
  refine wpAny_bind ?_
  simp only [newExc, newTuple]
  refine wpAny_bind (wpAny_newObj_type ?_ (by size_fits))
  refine wpAny_bind (m := firstArgMember _ _) (wpAny_of_eq (a := Value.none) (by first | rfl | (simp only [firstArgMember]; rfl)) ?_)
  refine wpAny_newObj_type ?_ (by size_fits)
  simp only [raiseNew]
  refine wpAny_bind (wpAny_handled ?_)
  rw [hh]
  refine wpAny_bind (wpAny_pure (wpAny_throw ?_))
  exact hE _ _ ((k.push _).push _) ⟨_, Heap.get?_push_size _ rfl, rfl⟩
theorem item_next {it p : Addr} {items : Array Value} {old : Value} {ks ks' : List Nat} {Q : Option Value → Shared → Prop} (hit : IsCmb s.heap it p 1 old ks) (hp : s.heap.IsTuple p items) (hpi : p ≠ it) (hn : nxC items.size ks = some ks') (hk : ks'.length ≤ 1000)
    (hQ : ∀ h', IsCmb h' it p 1 (.ref s.heap.objs.size) ks' → h'.get? s.heap.objs.size = some { cls := .type "tuple", data := .seq (pickV items ks').toArray } → (∀ b o, b ≠ it → s.heap.get? b = some o → h'.get? b = some o) → Q (some (.ref s.heap.objs.size)) { s with heap := h' }) :
    wpAny (model prog w) A (pyNext (.ref it)) Q E s := by
  have hT : s.TypeIs (.ref it) "itertools.combinations" := ⟨_, hit, rfl⟩
  obtain ⟨op, hop, hcp, np, hdp⟩ := id hp
  unfold pyNext
  refine wpAny_bind (wpAny_attempt (wpAny_callSpecial?_slot (name := Str.ofString "__next__") hT slot_cmb_next
    (wpAny_call_entry slot_cmb_next hT entry_cmb_next ?_ (args_cmb_next _))))
  show wpAny _ _ (field (.ref it) 0 >>= _) _ _ s
  refine wpAny_bind (wpAny_field hit rfl (x := .ref p) rfl ?_)
  show wpAny _ _ ((load it >>= _) >>= _) _ _ s
  refine wpAny_bind (wpAny_bind (wpAny_load hit (wpAny_pure ?_)))
  show wpAny _ _ ((field (.ref it) 1 >>= _) >>= _) _ _ s
  refine wpAny_bind (wpAny_bind (wpAny_field hit rfl (x := rawInt 1) rfl (wpAny_pure ?_)))
  rw [nums_back _ (fun _ _ => rfl)]
  show wpAny _ _ (Builtin.Itertools.itPoolItems (.ref p) >>= _) _ _ s
  refine wpAny_bind ?_
  unfold Builtin.Itertools.itPoolItems
  refine wpAny_bind (wpAny_seqItems hop hdp (wpAny_pure ?_))
  split
  rotate_left
  · rename_i hs
    have e : nxC items.size ks = none := Eq.trans (by kernel_rfl) hs
    rw [hn] at e
    cases e
  rename_i next hs
  have e : nxC items.size ks = some next := Eq.trans (by kernel_rfl) hs
  obtain rfl : ks' = next := Option.some.inj (hn.symm.trans e)
  show wpAny _ _ (Builtin.Itertools.itSetNumbersFrom (.ref it) 3 ks' >>= _) _ _ s
  refine wpAny_bind ?_
  show wpAny _ _ (updateFields it _) _ _ s
  have hlen : (ks'.map fun (n : Nat) => rawInt n).length ≤ 1000 := by simpa using hk
  refine wpAny_updateFields hit rfl ?_ (by simp [Array.size_extract]; have : (1003 : Nat) ≤ sizeLine := by decide
                                           omega)
  have hit1 := Heap.get?_update_self (Obj.mapFields fun fs => fs.extract 0 3 ++ (ks'.map fun (n : Nat) => rawInt n).toArray) hit rfl
  have hit1' : IsCmb (s.heap.update it (Obj.mapFields fun fs => fs.extract 0 3 ++ (ks'.map fun (n : Nat) => rawInt n).toArray)) it p 1 old ks' := by
    have e : Obj.mapFields (fun fs => fs.extract 0 3 ++ (ks'.map fun (n : Nat) => rawInt n).toArray) { cls := Value.type "itertools.combinations", dict := none, data := cmbF p 1 old ks, slots := #[] } = { cls := Value.type "itertools.combinations", dict := none, data := cmbF p 1 old ks', slots := #[] } := by
      simp [Obj.mapFields, cmbF]
    rw [e] at hit1
    exact hit1
  have sb1 : Heap.SameBut it s.heap (s.heap.update it (Obj.mapFields fun fs => fs.extract 0 3 ++ (ks'.map fun (n : Nat) => rawInt n).toArray)) := Heap.SameBut.update ..
  generalize s.heap.update it (Obj.mapFields fun fs => fs.extract 0 3 ++ (ks'.map fun (n : Nat) => rawInt n).toArray) = h1 at hit1' sb1
  have hz : h1.objs.size = s.heap.objs.size := sb1.1
  have hp1 : h1.IsTuple p items := hp.extBut sb1.extBut hpi
  refine hand_out (s := { s with heap := h1 }) hit1' hp1 (by have : (1000 : Nat) ≤ sizeLine := by decide
                                                             omega) fun h' q1 q2 q3 => ⟨_, rfl, wpAny_pure ?_⟩
  have hz' : ({ s with heap := h1 } : Shared).heap.objs.size = s.heap.objs.size := hz
  rw [hz'] at q1 q2 ⊢
  exact hQ h' q1 q2 fun b o nb q => q3 b o nb (sb1.extBut _ _ nb q)
theorem item_end {it p : Addr} {items : Array Value} {old : Value} {ks : List Nat} {Q : Option Value → Shared → Prop} (hh : A.handled = none) (hit : IsCmb s.heap it p 1 old ks) (hp : s.heap.IsTuple p items) (hn : nxC items.size ks = none)
    (hQ : ∀ h', Heap.ExtBut it s.heap h' → Q none { s with heap := h' }) : wpAny (model prog w) A (pyNext (.ref it)) Q E s := by
  have hT : s.TypeIs (.ref it) "itertools.combinations" := ⟨_, hit, rfl⟩
  obtain ⟨op, hop, hcp, np, hdp⟩ := id hp
  unfold pyNext
  refine wpAny_bind (wpAny_attempt (wpAny_callSpecial?_slot (name := Str.ofString "__next__") hT slot_cmb_next
    (wpAny_call_entry slot_cmb_next hT entry_cmb_next ?_ (args_cmb_next _))))
  show wpAny _ _ (field (.ref it) 0 >>= _) _ _ s
  refine wpAny_bind (wpAny_field hit rfl (x := .ref p) rfl ?_)
  show wpAny _ _ ((load it >>= _) >>= _) _ _ s
  refine wpAny_bind (wpAny_bind (wpAny_load hit (wpAny_pure ?_)))
  show wpAny _ _ ((field (.ref it) 1 >>= _) >>= _) _ _ s
  refine wpAny_bind (wpAny_bind (wpAny_field hit rfl (x := rawInt 1) rfl (wpAny_pure ?_)))
  rw [nums_back _ (fun _ _ => rfl)]
  show wpAny _ _ (Builtin.Itertools.itPoolItems (.ref p) >>= _) _ _ s
  refine wpAny_bind ?_
  unfold Builtin.Itertools.itPoolItems
  refine wpAny_bind (wpAny_seqItems hop hdp (wpAny_pure ?_))
  split
  · rename_i next hs
    have e : nxC items.size ks = some next := Eq.trans (by kernel_rfl) hs
    rw [hn] at e
    cases e
  show wpAny _ _ (setField (.ref it) 1 (rawInt 2) >>= _) _ _ s
  refine wpAny_bind (wpAny_setField_rec hit (by simp) fun h1 hit1 sb1 => ?_)
  refine itStop_end (s := { s with heap := h1 }) (h0 := s.heap) (by first | exact hh | rfl) sb1.extBut fun h' e k ho => ?_
  obtain ⟨o, ho, hc⟩ := ho
  refine wpAny_bind (wpAny_isInstance (T := "StopIteration") (b := true) ⟨o, ho, hc⟩ isSubtype_stop ?_)
  exact wpAny_pure (hQ _ k)
end
end DLC
-- DL25d
set_option maxRecDepth 100000
set_option maxHeartbeats 4000000
/-! DL25d: enumerate of tuples, combinations: turns. -/
namespace DLC
open PySem PySem.Spec PyProof.Rows L2
/-- the tuples cs, each a new one -/
def Itcm (cs : List (List V)) : It := ⟨fun i _ => i < cs.length, fun i H v H' => ∃ T x, v = .ref T ∧ H T = none ∧ cs[i]? = some x ∧ H' = upd H T (.tup x), fun i _ => i = cs.length⟩
def pickX (xs : List V) (ks : List Nat) : List V := ks.map fun i => xs.getD i .non
theorem vals_getD {xs : List V} {us : List Value} (r : Vals xs us) (i : Nat) : RelV (xs.getD i .non) (us.toArray.getD i .none) := by
  cases q : xs[i]? with
  | none =>
    have e := r.none_of q
    simp [Array.getD_eq_getD_getElem?, List.getD_eq_getElem?_getD, q, e]
    rfl
  | some x =>
    obtain ⟨u, e, ru⟩ := r.get q
    simp [Array.getD_eq_getD_getElem?, List.getD_eq_getElem?_getD, q, e]
    exact ru
theorem vals_pick {xs : List V} {us : List Value} (r : Vals xs us) : ∀ ks : List Nat, Vals (pickX xs ks) (pickV us.toArray ks)
  | [] => .nil
  | k :: ks => .cons (vals_getD r k) (vals_pick r ks)
/-- how the object stands at turn i -/
def StC (it p : Addr) (us : List Value) (n r : Nat) (i : Nat) (h : Heap) : Prop := p ≠ it ∧ h.IsTuple p us.toArray ∧ match i with
  | 0 => IsCmb h it p 0 .none (List.range r)
  | j + 1 => ∃ old ks, (combs n r)[j]? = some ks ∧ IsCmb h it p 1 old ks
theorem turn_cmb {P : Program} {w : World} {K : PySem.W.Frag} {tg : Expr} {it p : Addr} {us : List Value} {xs : List V} {r : Nat} (rv : Vals xs us) (hn : us.length < 8) (hr : r ≤ us.length) :
    Turn P w K tg (Itcm ((combs us.length r).map (pickX xs))) [it, p] it (StC it p us us.length r) where
  mem := by simp
  obj := fun i h st b hb => by
    obtain ⟨_, ⟨o, ho, hc, n, hd⟩, st⟩ := st
    have e' : b = it ∨ b = p := by simpa using hb
    rcases e' with z | z
    · rw [z]
      cases i with
      | zero => exact ⟨_, st, fun v q => nomatch q⟩
      | succ j => obtain ⟨old, ks, _, st⟩ := st; exact ⟨_, st, fun v q => nomatch q⟩
    · rw [z]; exact ⟨o, ho, fun v q => by rw [hd] at q; cases q⟩
  keep := fun i h h' st k => by
    obtain ⟨ne, ht, st⟩ := st
    refine ⟨ne, ht.at fun o q => k p (by simp) o q, ?_⟩
    cases i with
    | zero => exact k it (by simp) _ st
    | succ j => obtain ⟨old, ks, e, st⟩ := st; exact ⟨old, ks, e, k it (by simp) _ st⟩
  item := by
    intro X hP hw hK hc i pins s σ H E I hf st hg
    subst hP hw hK
    obtain ⟨ne, ht, st⟩ := st
    have hg' : i < (combs us.length r).length := by have := hg; simpa [Itcm] using this
    obtain ⟨ks', hks⟩ : ∃ ks', (combs us.length r)[i]? = some ks' := ⟨_, List.getElem?_eq_getElem hg'⟩
    have hl : ks'.length ≤ 1000 := by
      have e := combs_len us.length hn r (by omega) i hg'
      rw [List.getD_eq_getElem?_getD, hks] at e
      simp at e; omega
    have fin : ∀ h' : Heap, IsCmb h' it p 1 (.ref s.heap.objs.size) ks' → h'.get? s.heap.objs.size = some { cls := .type "tuple", data := .seq (pickV us.toArray ks').toArray } → (∀ b o, b ≠ it → s.heap.get? b = some o → h'.get? b = some o) →
        ∃ u, some (Value.ref s.heap.objs.size) = some u ∧ wpAny (model X.prog X.w) X.A (letOwnedTupleGo tg (.ref it) u) (fun _ s2 => ∃ x H', Inv X pins σ H' s2 ∧ RelV x u ∧ (Itcm ((combs us.length r).map (pickX xs))).yld i H x H' ∧ StC it p us us.length r (i + 1) s2.heap ∧ ∀ b ∈ [it, p], H' b = none) E { s with heap := h' } := by
      intro h' q1 q2 q3
      have sz : ks'.length ≤ sizeLine := by have : (1000 : Nat) ≤ sizeLine := by decide
                                            omega
      have new : ObjOk X.prog X.w (upd H s.heap.objs.size (.tup (pickX xs ks'))) h' s.heap.objs.size (.tup (pickX xs ks')) :=
        ⟨by simpa [pickX] using sz, pickV us.toArray ks', vals_pick rv ks', ⟨_, q2, rfl, _, rfl⟩⟩
      have I1 : Inv X pins σ (upd H s.heap.objs.size (.tup (pickX xs ks'))) { s with heap := h' } :=
        I.turnedNew (t' := s.toks) (ch := [it]) (fun b ob hb q => q3 b ob (fun z => hb (by simp [z])) q) (fun b hb => hf b (by simp at hb; simp [hb])) (Nat.le_refl _) new
      refine ⟨_, rfl, go_of (s := { s with heap := h' }) q1 rfl rfl (by decide) ⟨.ref s.heap.objs.size, _, I1, rfl, ⟨_, _, rfl, I.hok.fresh (Nat.le_refl _), by simp [hks], rfl⟩, ⟨ne, ht.at fun o q => q3 p o ne q, _, ks', hks, q1⟩, fun b hb => ?_⟩⟩
      have hb' : b < s.heap.objs.size := by
        have e' : b = it ∨ b = p := by simpa using hb
        rcases e' with z | z
        · rw [z]
          cases i with
          | zero => exact Heap.lt_size st
          | succ j => obtain ⟨old, ks, _, st⟩ := st; exact Heap.lt_size st
        · rw [z]; obtain ⟨o, q, _⟩ := ht; exact Heap.lt_size q
      rw [upd_ne (Nat.ne_of_lt hb')]
      exact (hf b hb).1
    cases i with
    | zero =>
      have e := combs_first us.length hn r (by omega)
      rw [hks] at e
      obtain rfl := Option.some.inj e
      exact item_first st ht ne (by have : (1000 : Nat) ≤ sizeLine := by decide
                                    omega) fin
    | succ j =>
      obtain ⟨old, ks, hj, st⟩ := st
      have e := combs_next us.length hn r (by omega) j (by omega)
      rw [List.getD_eq_getElem?_getD, hj, hks] at e
      exact item_next st ht ne (by simpa using e) hl fin
  done := by
    intro X hP hw hK hc i pins s σ H E I hf st hg
    subst hP hw hK
    obtain ⟨ne, ht, st⟩ := st
    have hg' : i = (combs us.length r).length := by have := hg; simpa [Itcm] using this
    cases i with
    | zero =>
      have e := combs_first us.length hn r (by omega)
      rw [List.getElem?_eq_none (by omega)] at e
      cases e
    | succ j =>
      obtain ⟨old, ks, hj, st⟩ := st
      have e := combs_next us.length hn r (by omega) j (by omega)
      rw [List.getD_eq_getElem?_getD, hj, List.getElem?_eq_none (by omega)] at e
      refine item_end (I.ok.hd hc) st ht (by simpa using e) fun h' k => ⟨rfl, I.turnedL (t' := s.toks) (ch := [it]) (fun c o hb q => k c o (fun q' => hb (by simp [q'])) q) fun b hb => hf b (by simp at hb; simp [hb])⟩
  self := fun A i s Q E st h => by
    obtain ⟨_, _, st⟩ := st
    cases i with
    | zero => exact iter_cmb st h
    | succ j => obtain ⟨old, ks, _, st⟩ := st; exact iter_cmb st h
def iCmb (K : PySem.W.Frag) (ta : TA) : TI := fun σ H R => ta σ H fun vs H1 => ∃ a xs, ∃ r : Nat, vs = [.ref a, .int r] ∧ SqL K H1 a xs ∧ xs.length < 8 ∧ r ≤ xs.length ∧ R (Itcm ((combs xs.length r).map (pickX xs))) H1
theorem pi_cmb {X : Cx} {tg e e2 : Expr} {x : Str} {ta : TA} {p pos : Pos} (hg : Gl X x) (hm : X.mg x = some (.type "itertools.combinations")) (hd : (x == ("__debug__" : Str)) = false) (ha : PA X [e, e2] ta)
    (hs : starEach [e, e2] X.env = (false, eval e X.env) :: starEach [e2] X.env := by rfl) (hpl : (backTo pos (starEach [e2] X.env)).any (·.1) = false := by rfl) :
    PI X tg (.Call (.Name x p) [e, e2] [] pos) (iCmb X.K ta) := by
  refine ⟨fun pins s σ H R I h => ?_⟩
  refine Call_ (ld_glob I hg hm (PyProof.Rows.callWith_type1 (thn (ha.run pos pins s σ H _ I h) fun us s1 ⟨vs, H1, I1, r1, q1⟩ => ?_) hs hpl) hd)
  obtain ⟨a, xs, r, ex, hq, hl, hr, q1⟩ := q1
  subst ex
  cases r1 with
  | cons r' rr =>
    cases rr with
    | cons r'' rr =>
      cases rr
      cases r'
      obtain ⟨t, rfl⟩ := r''
      obtain ⟨its, rv, p1, hz⟩ := I1.list hq
      have el := rv.length
      refine call_cmb p1.isList (by simp; omega) (by omega) (by simpa [← el] using hz) fun h1 h' hk q1' q2 hk2 => iter_cmb q1' ?_
      have I2 : Inv X pins σ H1 { s1 with heap := h1 } := I1.kept (t' := s1.toks) hk
      have I3 : Inv X pins σ H1 { s1 with heap := h' } := I2.kept (t' := s1.toks) hk2
      have ne : h1.objs.size ≠ h1.objs.size + 1 := by omega
      refine ⟨h1.objs.size + 1, [h1.objs.size + 1, h1.objs.size], _, _, H1, rfl, I3, turn_cmb (r := r) rv (by omega) (by omega), ⟨ne, q2, ?_⟩, fun b hb => ?_, ?_⟩
      · exact q1'
      · have hle : h1.objs.size ≤ b := by
          have e' : b = h1.objs.size + 1 ∨ b = h1.objs.size := by simpa using hb
          rcases e' with z | z
          · rw [z]; exact Nat.le_add_right _ _
          · rw [z]; exact Nat.le_refl _
        exact I2.fpOk hle (I2.hok.fresh hle)
      · rw [← el]; exact q1

/-! ### enumerate of a tuple -/
open PySem.Sem in
theorem Draws.tuple {prog : Program} {w : World} {A : Around} (hh : A.handled = none) (it l : Addr) (hne : l ≠ it) (items : Array Value) :
    Draws prog w A it [it, l] items.size (fun i v => items[i]? = some v) (fun i h => h.IsTupleIter it l i ∧ h.IsTuple l items) where
  live := fun _ _ st => let ⟨o, ho, _⟩ := st.1; ⟨o, ho⟩
  frame := fun _ _ _ st hk => ⟨st.1.at fun o e => hk it (by simp) o e, st.2.at fun o e => hk l (by simp) o e⟩
  item := fun i s Q E hi st hQ => by
    refine RZ.nextOf_tuple_item st.1 st.2 (x := items[i]) (by simp [hi]) fun h' hit' hs' => ?_
    exact hQ _ h' s.toks (by simp [hi]) ⟨hit', st.2.extBut hs'.extBut hne⟩ hs'
  done := fun s Q E st hE => RZ.nextOf_tuple_end hh st.1 st.2 (by simp) hE
/-- the tuple at a as it stands, each item in a new pair -/
def IteT (K : PySem.W.Frag) (a : Addr) : It :=
  ⟨fun i H => ∃ (xs : List V) (x : V), SqT K H a xs ∧ xs[i]? = some x, fun i H v H' => ∃ T x, v = .ref T ∧ H T = none ∧ H' = upd H T (.tup [.int (i : Nat), x]) ∧ ∀ xs, SqT K H a xs → xs[i]? = some x, fun i H => ∃ xs : List V, SqT K H a xs ∧ xs.length = i⟩
theorem turn_enumT {P : Program} {w : World} {K : PySem.W.Frag} {elts : List Expr} {kk : Nat} {tpos : Pos} (a e it : Addr) :
    Turn P w K (.Tuple elts kk tpos) (IteT K a) [e, it] e (fun i h => (∃ old, IsEnum h e it ((i : Nat) : Int) old) ∧ h.IsTupleIter it a i ∧ e ≠ it ∧ a ≠ it ∧ a ≠ e) where
  mem := by simp
  obj := fun i h st b hb => by
    obtain ⟨⟨old, he⟩, ⟨o, ho, hc, hd⟩, _⟩ := st
    have e' : b = e ∨ b = it := by simpa using hb
    rcases e' with z | z
    · rw [z]; exact ⟨_, he, fun v q => nomatch q⟩
    · rw [z]; exact ⟨o, ho, fun v q => by rw [hd] at q; cases q⟩
  keep := fun i h h' st k => let ⟨⟨old, he⟩, hi, hne⟩ := st; ⟨⟨old, k e (by simp) _ he⟩, hi.at fun o q => k it (by simp) o q, hne⟩
  item := by
    intro X hP hw hK hc i pins s σ H E I hf st hg
    subst hP hw hK
    obtain ⟨⟨old, he⟩, hit, hne, hai, hae⟩ := st
    obtain ⟨xs, x, hq, hx⟩ := hg
    obtain ⟨its, rv, p, hz⟩ := I.tuple hq
    obtain ⟨u, hu, ru⟩ := rv.get hx
    have hel : e < s.heap.objs.size := Heap.lt_size he
    have hil : it < s.heap.objs.size := by obtain ⟨_, q, _⟩ := hit; exact Heap.lt_size q
    have hlt : i < its.toArray.size := by
      have := (List.getElem?_eq_some_iff.mp hu).1
      simpa using this
    refine wpAny_pyNext_enum_itemD (Draws.tuple (A := X.A.in1) (by first | exact I.ok.hd hc | rfl) it a hai its.toArray) he ⟨hit, show s.heap.IsTuple a its.toArray from p⟩ hlt hne (by simp [hne, Ne.symm hae]) fun y h' tk hy ho st' hT hsz hk => ?_
    obtain rfl : y = u := by
      have hy' : its.toArray[i]? = some y := hy
      rw [show its.toArray[i]? = some u by simpa using hu] at hy'
      exact (Option.some.inj hy').symm
    refine ⟨_, rfl, wpAny_letOwnedTupleGo_enum (s := { s with heap := h', toks := tk + 1 }) ho fun h'' he' sb => ?_⟩
    have hT2 : h''.get? s.heap.objs.size = some { cls := .type "tuple", data := .seq #[.int i tk, y] } := (sb.2 _ (Nat.ne_of_gt hel)).trans hT
    have new : ObjOk X.prog X.w (upd H s.heap.objs.size (.tup [.int (i : Nat), x])) h'' s.heap.objs.size (.tup [.int (i : Nat), x]) :=
      ⟨by show 2 ≤ sizeLine; decide, [.int i tk, y], .cons ⟨_, rfl⟩ (.cons ru .nil), ⟨_, hT2, rfl, _, rfl⟩⟩
    have I1 : Inv X pins σ (upd H s.heap.objs.size (.tup [.int (i : Nat), x])) { s with heap := h'', toks := tk + 1 } :=
      I.turnedNew (ch := [e, it]) (fun b ob hb q => (sb.2 b (fun z => hb (by simp [z]))).trans (hk b ob (fun z => hb (by simp [z])) (fun z => hb (by simp [z])) q)) hf (Nat.le_refl _) new
    refine ⟨.ref s.heap.objs.size, _, I1, rfl, ⟨_, x, rfl, I.hok.fresh (Nat.le_refl _), rfl, fun ys hy => by rw [I.tuple_inj hy hq]; exact hx⟩, ⟨⟨y, ?_⟩, st'.1.at fun o q => (sb.2 it (Ne.symm hne)).trans q, hne, hai, hae⟩, fun b hb => ?_⟩
    · have e1 : ((i + 1 : Nat) : Int) = (i : Int) + 1 := by omega
      rw [e1]; exact he'
    · have hb' : b < s.heap.objs.size := by
        have e' : b = e ∨ b = it := by simpa using hb
        rcases e' with z | z
        · rw [z]; exact hel
        · rw [z]; exact hil
      rw [upd_ne (Nat.ne_of_lt hb')]
      exact (hf b hb).1
  done := by
    intro X hP hw hK hc i pins s σ H E I hf st hg
    subst hP hw hK
    obtain ⟨⟨old, he⟩, hit, hne, hai, hae⟩ := st
    obtain ⟨xs, hq, hx⟩ := hg
    obtain ⟨its, rv, p, hz⟩ := I.tuple hq
    obtain ⟨f0, f1, f2, f3, f4, f5⟩ := hf it (by simp)
    have hl := rv.length
    have hsz : i = its.toArray.size := by simp; omega
    subst hsz
    exact wpAny_pyNext_enum_endD (Draws.tuple (A := X.A.in1) (by first | exact I.ok.hd hc | rfl) it a hai its.toArray) he ⟨hit, show s.heap.IsTuple a its.toArray from p⟩ fun h' eb => ⟨rfl, I.turned (t' := s.toks) (fun b o hb q => eb b o hb q) f0 f1 f3 f4 f5⟩
  self := fun A i s Q E st h => let ⟨⟨_, he⟩, _⟩ := st; wpAny_pyIter_enum he h
open Sem in
theorem meets_enumerate_newT (l : Addr) (items : Array Value) (n : Nat) (dct : Option Addr) (sl : Array (Option Value)) :
    Meets (Builtin.«enumerate.__new__» ⟨[.type "enumerate", .ref l], []⟩) (fun _ R s => s.heap.get? l = some { cls := .type "tuple", dict := dct, data := .seq items n, slots := sl } ∧
      R (.ok (.ret (.ref (s.heap.push { cls := .type "tuple_iterator", data := .fields #[.ref l, .int 0 0] }).objs.size)))
        { s with heap := (s.heap.push { cls := .type "tuple_iterator", data := .fields #[.ref l, .int 0 0] }).push { cls := .type "enumerate", data := .fields #[.none, .bool false, .ref s.heap.objs.size, rawInt 0, .none, .none] } }) :=
  .of_wp fun prog w A R s h => by
    obtain ⟨hp, g, d, tk, os⟩ := s; obtain ⟨hl, h⟩ := h
    have hsub := sub_enumerate
    have hL : Heap.IsTuple (Shared.heap ⟨hp, g, d, tk, os⟩) l items := ⟨_, hl, rfl, n, rfl⟩
    wp_walk using AutoSeq1.wpAny_loadPart' hl
    refine wpAny_stack_any fun st => wpAny_pure ?_
    split
    · rename_i c _ _ _ _ _
      cases (c == Value.type "enumerate")
      · wp_walk using AutoSeq1.wpAny_loadPart' hl, wpAny_pyIter_tuple hL
        exact ⟨_, rfl, h⟩
      · wp_walk using AutoSeq1.wpAny_loadPart' hl, wpAny_pyIter_tuple hL
        exact ⟨_, rfl, h⟩
    · wp_walk using AutoSeq1.wpAny_loadPart' hl, wpAny_pyIter_tuple hL
      exact ⟨_, rfl, h⟩
theorem call_enumerate_tup {prog : Program} {w : World} {A : Around} {E : Value → Shared → Prop} {s : Shared} {l : Addr} {items : Array Value} {Q : Value → Shared → Prop} (hL : s.heap.IsTuple l items)
    (h : ∀ h', IsEnum h' (s.heap.objs.size + 1) s.heap.objs.size 0 .none → h'.IsTupleIter s.heap.objs.size l 0 → h'.objs.size = s.heap.objs.size + 2 →
      (∀ b o, s.heap.get? b = some o → h'.get? b = some o) → Q (.ref (s.heap.objs.size + 1)) { s with heap := h' }) :
    wpAny (model prog w) A (call (.type "enumerate") [.ref l]) Q E s := by
  obtain ⟨⟨c, dct, dt, sl⟩, hl, hc, n, hd⟩ := hL
  replace hc : c = .type "tuple" := hc
  replace hd : dt = .seq items n := hd
  subst hc hd
  refine callType_new F.called_enumerate (by decide) (F.typeCall_enumerate_1 _) (F.newCall_enumerate_1 _) (fun obj => F.args_object_init_2 obj _) F.entry_enumerate_new
    (meets_enumerate_newT l items n dct sl) ⟨hl, ?_⟩
  have hz : (s.heap.push { cls := .type "tuple_iterator", data := .fields #[.ref l, .int 0 0] }).objs.size = s.heap.objs.size + 1 := Heap.size_push ..
  show _ ∧ _
  rw [hz]
  have he : IsEnum ((s.heap.push { cls := .type "tuple_iterator", data := .fields #[.ref l, .int 0 0] }).push
      { cls := .type "enumerate", data := .fields #[.none, .bool false, .ref s.heap.objs.size, rawInt 0, .none, .none] }) (s.heap.objs.size + 1) s.heap.objs.size 0 .none := by
    have := Heap.get?_push_size (s.heap.push { cls := .type "tuple_iterator", data := .fields #[.ref l, .int 0 0] })
      (o := { cls := .type "enumerate", data := .fields #[.none, .bool false, .ref s.heap.objs.size, rawInt 0, .none, .none] }) rfl
    rw [hz] at this; exact this
  refine ⟨⟨_, he, rfl⟩, h _ he ⟨_, Heap.get?_push_of_some _ (Heap.get?_push_size _ rfl), rfl, rfl⟩ (by rw [Heap.size_push, hz]) fun b o x => Heap.get?_push_of_some _ (Heap.get?_push_of_some _ x)⟩
def iEnumA (K : PySem.W.Frag) (ta : TA) : TI := fun σ H R => ta σ H fun vs H1 => ∃ a, vs = [.ref a] ∧ ((∃ xs, SqL K H1 a xs ∧ R (Ite K a) H1) ∨ ∃ xs, SqT K H1 a xs ∧ R (IteT K a) H1)
theorem pi_enumA {X : Cx} {e : Expr} {ta : TA} {p pos tpos : Pos} {elts : List Expr} {kk : Nat} (hg : Gl X "enumerate") (hm : X.mg "enumerate" = none) (ha : PA X [e] ta) (hs : starEach [e] X.env = [(false, eval e X.env)] := by rfl) :
    PI X (.Tuple elts kk tpos) (.Call (.Name "enumerate" p) [e] [] pos) (iEnumA X.K ta) := by
  refine ⟨fun pins s σ H R I h => ?_⟩
  refine Call_ (ld_blt I hg hm boot_enumerate (PyProof.Rows.callWith_type1 (thn (ha.run pos pins s σ H _ I h) fun us s1 ⟨vs, H1, I1, r1, q1⟩ => ?_) hs rfl))
  obtain ⟨a, ex, q1⟩ := q1
  subst ex
  cases r1 with
  | cons r rr =>
    cases rr
    cases r
    have hff : ∀ b, b ∈ [s1.heap.objs.size + 1, s1.heap.objs.size] → FpOk X pins H1 b := fun b hb => by
      have e' : b = s1.heap.objs.size + 1 ∨ b = s1.heap.objs.size := by simpa using hb
      have hle : s1.heap.objs.size ≤ b := by
        rcases e' with z | z
        · rw [z]; exact Nat.le_add_right _ _
        · rw [z]; exact Nat.le_refl _
      exact I1.fpOk hle (I1.hok.fresh hle)
    rcases q1 with ⟨xs, hq, q⟩ | ⟨xs, hq, q⟩
    · obtain ⟨its, rv, p', hz⟩ := I1.list hq
      refine call_enumerate_list p'.isList fun h' he hit hsz hk => wpAny_pyIter_enum he ?_
      have I2 : Inv X pins σ H1 { s1 with heap := h' } := I1.kept (t' := s1.toks) hk
      exact ⟨s1.heap.objs.size + 1, [s1.heap.objs.size + 1, s1.heap.objs.size], _, _, H1, rfl, I2, turn_enum a (s1.heap.objs.size + 1) s1.heap.objs.size, ⟨⟨.none, he⟩, hit, Nat.succ_ne_self _⟩, hff, q⟩
    · obtain ⟨its, rv, p', hz⟩ := I1.tuple hq
      have hal : a < s1.heap.objs.size := by obtain ⟨o, q, _⟩ := id p'; exact Heap.lt_size q
      refine call_enumerate_tup (show s1.heap.IsTuple a its.toArray from p') fun h' he hit hsz hk => wpAny_pyIter_enum he ?_
      have I2 : Inv X pins σ H1 { s1 with heap := h' } := I1.kept (t' := s1.toks) hk
      exact ⟨s1.heap.objs.size + 1, [s1.heap.objs.size + 1, s1.heap.objs.size], _, _, H1, rfl, I2, turn_enumT a (s1.heap.objs.size + 1) s1.heap.objs.size, ⟨⟨.none, he⟩, hit, Nat.succ_ne_self _, Nat.ne_of_lt hal, Nat.ne_of_lt (Nat.lt_succ_of_lt hal)⟩, hff, q⟩
end DLC
-- DL26
set_option maxRecDepth 100000
set_option maxHeartbeats 4000000
/-! DL26: enumerate, zip, combinations, list(range(..)). -/
namespace DL
open PySem PySem.Spec PyProof.Rows L2

/-- the walks that make a new tuple at each turn -/
theorem dw_new {T : Stt} {G1 L : Hp} {ds : List D} {J : It} (f : Nat → Option (List D)) (hd : ∀ i xs, f i = some xs → ds[i]? = some (.tup xs))
    (go : ∀ i H, i < ds.length → Le G1 H → J.go i H) (st : ∀ H, Le G1 H → J.stop ds.length H)
    (y : ∀ i H x H', i < ds.length → Le G1 H → J.yld i H x H' → ∃ p vs xs, x = .ref p ∧ H p = none ∧ H' = upd H p (.tup vs) ∧ f i = some xs ∧ VRels T G1 vs xs) : DWalk T J G1 L ds where
  goes := fun i H hi l _ => go i H hi l
  stops := fun H l _ => st H l
  yields := fun i H x H' hi l _ yy => by
    obtain ⟨p, vs, xs, rfl, hn, rfl, hf, r⟩ := y i H x H' hi l yy
    refine ⟨_, hd i xs hf, fun G g gh => ?_⟩
    have hG : G p = none := gh.none hn
    have sG : Same G (upd G p (.tup vs)) := upd_same_none hG
    refine ⟨upd G p (.tup vs), sG, fun a u e => ?_, upd_same_none hn, fun a u e => ?_, .tup (.inl upd_same) ((r.same g).same sG)⟩
    · by_cases z : a = p
      · subst z; rw [upd_same] at e; cases e; exact .inl upd_same
      · rw [upd_ne z] at e
        rcases gh a u e with q | ⟨q, ob, q2⟩ | ⟨n, w, q, q2, q3⟩
        · exact .inl (by rw [upd_ne z]; exact q)
        · exact .inr (.inl ⟨q, ob, by rw [upd_ne z]; exact q2⟩)
        · exact .inr (.inr ⟨n, w, q, by rw [upd_ne z]; exact q2, q3⟩)
    · by_cases z : a = p
      · subst z; rw [upd_same] at e; cases e; exact .inr (.inr ⟨vs, rfl⟩)
      · rw [upd_ne z] at e; exact .inl e

/-! ### enumerate -/
def enumD (ds : List D) : List D := (List.range ds.length).map fun i => .tup [.int (i : Nat), ds.getD i .non]
theorem enumD_get {ds : List D} {i : Nat} {d : D} (h : ds[i]? = some d) : (enumD ds)[i]? = some (.tup [.int (i : Nat), d]) := by
  have hi := (List.getElem?_eq_some_iff.mp h).1
  simp [enumD, hi, List.getD_eq_getElem?_getD]
  rw [List.getElem?_eq_some_iff] at h
  exact h.2
theorem enumD_len (ds : List D) : (enumD ds).length = ds.length := by simp [enumD]
def I.enum (g : FA) : FI := fun env => (g env).bind fun ds e => match ds with
  | [.tup xs] => .ok (enumD xs) e
  | [.lst xs] => .ok (enumD xs) e
  | _ => .stk
section
variable {X : Cx} {tg : Expr} {pos p : Pos}
theorem VRels.pair {T : Stt} {G : Hp} {vs : List V} {d e : D} (r : VRels T G vs [d, e]) : ∃ u v, vs = [u, v] ∧ VRel T G u d ∧ VRel T G v e := by
  cases r with
  | cons r1 r => cases r with
    | cons r2 r => cases r; exact ⟨_, _, rfl, r1, r2⟩
theorem VRels.sole {T : Stt} {G : Hp} {vs : List V} {d : D} (r : VRels T G vs [d]) : ∃ u, vs = [u] ∧ VRel T G u d := by
  cases r with
  | cons r1 r => cases r; exact ⟨_, rfl, r1⟩
theorem di_enum {e : Expr} {elts : List Expr} {kk : Nat} {tpos : Pos} {g : FA} (hm : X.mg "enumerate" = none) (ha : DA X [e] g) (hg : Gl X "enumerate" := by rfl) (hs : starEach [e] X.env = [(false, eval e X.env)] := by rfl) :
    DI X (.Tuple elts kk tpos) (.Call (.Name "enumerate" p) [e] [] pos) (I.enum g) := by
  refine ⟨fun B W tk => ⟨fun pins s σ H R Iv h => (DLC.pi_enumA hg hm (ha.run B W tk) hs).run pins s σ H R Iv ?_⟩⟩
  obtain ⟨G, env, S, h⟩ := h
  refine ⟨G, env, S, ?_⟩
  unfold I.enum at h
  cases q : g env with
  | stk => simp [q, oE] at h
  | exc x e' => simp only [q, Out.bind_exc] at h; exact h
  | ok ds e1 =>
    simp only [q, Out.bind_ok] at h
    refine fun G1 H1 S1 l1 vs r1 => ?_
    split at h
    · rename_i ys
      obtain ⟨v, rfl, rv⟩ := r1.sole
      cases rv with
      | tup ht rs =>
        rename_i a vs
        refine ⟨a, rfl, .inr ⟨vs, ht.sq S1.gh, h G1 H1 S1 l1 _ H1 B (BExt.refl B) S1 ?_⟩⟩
        refine dw_new (fun i => (vs[i]?).bind fun _ => some [.int (i : Nat), ys.getD i .non]) (fun i xs hf => ?_) (fun i H hi l => ?_) (fun H l => ?_) (fun i H x H' hi l y => ?_)
        rotate_left
        · rw [enumD_len, ← rs.length] at hi
          exact ⟨vs, vs[i], ht.sq l, by simp⟩
        · exact ⟨vs, ht.sq l, by rw [enumD_len]; exact rs.length⟩
        · obtain ⟨p, x', rfl, hn, rfl, hx⟩ := y
          have hx := hx vs (ht.sq l)
          obtain ⟨d, hd, rd⟩ := rs.get hx
          refine ⟨p, _, _, rfl, hn, rfl, by simp [hx]; rfl, .cons (.int _) (.cons ?_ .nil)⟩
          rw [hd]
          exact rd
        · cases hx : vs[i]? with
          | none => simp [hx] at hf
          | some x =>
            simp [hx] at hf
            subst hf
            obtain ⟨d, hd, rd⟩ := rs.get hx
            rw [enumD_get hd, hd]
            rfl
    · rename_i ys
      obtain ⟨v, rfl, rv⟩ := r1.sole
      cases rv with
      | lst ht rs =>
        rename_i a vs
        refine ⟨a, rfl, .inl ⟨vs, SqL.of (S1.gh.nd ht True.intro), h G1 H1 S1 l1 _ H1 B (BExt.refl B) S1 ?_⟩⟩
        refine dw_new (fun i => (vs[i]?).bind fun _ => some [.int (i : Nat), ys.getD i .non]) (fun i xs hf => ?_) (fun i H hi l => ?_) (fun H l => ?_) (fun i H x H' hi l y => ?_)
        rotate_left
        · rw [enumD_len, ← rs.length] at hi
          exact ⟨vs, vs[i], SqL.of (l.nd ht True.intro), by simp⟩
        · exact ⟨vs, SqL.of (l.nd ht True.intro), by rw [enumD_len, rs.length]; exact Nat.le_refl _⟩
        · obtain ⟨p, x', rfl, hn, rfl, hx⟩ := y
          have hx := hx vs (SqL.of (l.nd ht True.intro))
          obtain ⟨d, hd, rd⟩ := rs.get hx
          refine ⟨p, _, _, rfl, hn, rfl, by simp [hx]; rfl, .cons (.int _) (.cons ?_ .nil)⟩
          rw [hd]
          exact rd
        · cases hx : vs[i]? with
          | none => simp [hx] at hf
          | some x =>
            simp [hx] at hf
            subst hf
            obtain ⟨d, hd, rd⟩ := rs.get hx
            rw [enumD_get hd, hd]
            rfl
    · exact h.elim
/-! ### zip of two tuples -/
def zipD (xs ys : List D) : List D := List.zipWith (fun x y => .tup [x, y]) xs ys
def I.zip (g : FA) : FI := fun env => (g env).bind fun ds e => match ds with
  | [.tup xs, .tup ys] => .ok (zipD xs ys) e
  | [.lst xs, .lst ys] => .ok (zipD xs ys) e
  | _ => .stk
theorem zipD_get {xs ys : List D} {i : Nat} {x y : D} (hx : xs[i]? = some x) (hy : ys[i]? = some y) : (zipD xs ys)[i]? = some (.tup [x, y]) := by
  simp [zipD, List.getElem?_zipWith, hx, hy]
theorem zipD_len (xs ys : List D) : (zipD xs ys).length = min xs.length ys.length := by simp [zipD]
theorem dw_zip {T : Stt} {G1 L : Hp} {J : It} {us vs : List V} {xs ys : List D} (r : VRels T G1 us xs) (s : VRels T G1 vs ys) (go : ∀ i H, i < us.length → i < vs.length → Le G1 H → J.go i H) (st : ∀ H i, (us.length ≤ i ∨ vs.length ≤ i) → Le G1 H → J.stop i H)
    (yl : ∀ i H x H', Le G1 H → J.yld i H x H' → ∃ p u v, x = .ref p ∧ H p = none ∧ H' = upd H p (.tup [u, v]) ∧ us[i]? = some u ∧ vs[i]? = some v) : DWalk T J G1 L (zipD xs ys) := by
  refine dw_new (fun i => match xs[i]?, ys[i]? with | some a, some b => some [a, b] | _, _ => none) (fun i zs hf => ?_) (fun i H hi l => ?_) (fun H l => ?_) (fun i H x H' hi l y => ?_)
  · cases hx : xs[i]? with
    | none => simp [hx] at hf
    | some x => cases hy : ys[i]? with
      | none => simp [hx, hy] at hf
      | some y =>
        simp [hx, hy] at hf
        subst hf
        exact zipD_get hx hy
  · rw [zipD_len, ← r.length, ← s.length] at hi
    exact go i H (by omega) (by omega) l
  · refine st H _ ?_ l
    rw [zipD_len, ← r.length, ← s.length]
    omega
  · obtain ⟨p, u, v, rfl, hn, rfl, hu, hv⟩ := yl i H x H' l y
    obtain ⟨a, ha, ra⟩ := r.get hu
    obtain ⟨b, hb, rb⟩ := s.get hv
    exact ⟨p, _, _, rfl, hn, rfl, by simp [ha, hb], .cons ra (.cons rb .nil)⟩
theorem di_zip {e e2 : Expr} {elts : List Expr} {kk : Nat} {tpos : Pos} {g : FA} (hm : X.mg "zip" = none) (ha : DA X [e, e2] g) (hg : Gl X "zip" := by rfl)
    (hs : starEach [e, e2] X.env = (false, eval e X.env) :: starEach [e2] X.env := by rfl) (hpl : (backTo pos (starEach [e2] X.env)).any (·.1) = false := by rfl) :
    DI X (.Tuple elts kk tpos) (.Call (.Name "zip" p) [e, e2] [] pos) (I.zip g) := by
  refine ⟨fun B W tk => ⟨fun pins s σ H R Iv h => (RZ.pi_zipA hg hm (ha.run B W tk) hs hpl).run pins s σ H R Iv ?_⟩⟩
  obtain ⟨G, env, S, h⟩ := h
  refine ⟨G, env, S, ?_⟩
  unfold I.zip at h
  cases q : g env with
  | stk => simp [q, oE] at h
  | exc x e' => simp only [q, Out.bind_exc] at h; exact h
  | ok ds e1 =>
    simp only [q, Out.bind_ok] at h
    refine fun G1 H1 S1 l1 vs r1 => ?_
    split at h
    · obtain ⟨v, w, rfl, rv, rw_⟩ := r1.pair
      cases rv with
      | tup ht rs => cases rw_ with
        | tup ht2 rs2 =>
          refine ⟨_, _, _, _, rfl, .inr ⟨ht.sq S1.gh, ht2.sq S1.gh, h G1 H1 S1 l1 _ H1 B (BExt.refl B) S1 ?_⟩⟩
          refine dw_zip rs rs2 (fun i H h1 h2 l => ⟨_, _, _, _, ht.sq l, ht2.sq l, List.getElem?_eq_getElem h1, List.getElem?_eq_getElem h2⟩) (fun H i hz l => ⟨_, _, ht.sq l, ht2.sq l, hz⟩) (fun i H x H' l y => ?_)
          obtain ⟨p, u, v, rfl, hn, rfl, hu, hv⟩ := y
          exact ⟨p, u, v, rfl, hn, rfl, hu _ (ht.sq l), hv _ (ht2.sq l)⟩
    · obtain ⟨v, w, rfl, rv, rw_⟩ := r1.pair
      cases rv with
      | lst ht rs => cases rw_ with
        | lst ht2 rs2 =>
          refine ⟨_, _, _, _, rfl, .inl ⟨SqL.of (S1.gh.nd ht True.intro), SqL.of (S1.gh.nd ht2 True.intro), h G1 H1 S1 l1 _ H1 B (BExt.refl B) S1 ?_⟩⟩
          refine dw_zip rs rs2 (fun i H h1 h2 l => ⟨_, _, _, _, SqL.of (l.nd ht True.intro), SqL.of (l.nd ht2 True.intro), List.getElem?_eq_getElem h1, List.getElem?_eq_getElem h2⟩) (fun H i hz l => ⟨_, _, SqL.of (l.nd ht True.intro), SqL.of (l.nd ht2 True.intro), hz⟩) (fun i H x H' l y => ?_)
          obtain ⟨p, u, v, rfl, hn, rfl, hu, hv⟩ := y
          exact ⟨p, u, v, rfl, hn, rfl, hu _ (SqL.of (l.nd ht True.intro)), hv _ (SqL.of (l.nd ht2 True.intro))⟩
    · exact h.elim
/-! ### combinations -/
def cmbD (xs : List D) (r : Nat) : List D := (DLC.combs xs.length r).map fun ks => .tup (ks.map fun i => xs.getD i .non)
def I.cmb (g : FA) : FI := fun env => (g env).bind fun ds e => match ds with
  | [.lst xs, .int r] => if xs.length < 8 ∧ 0 ≤ r ∧ r.toNat ≤ xs.length then .ok (cmbD xs r.toNat) e else .stk
  | _ => .stk
theorem pick_rel {T : Stt} {G : Hp} {vs : List V} {xs : List D} (r : VRels T G vs xs) : ∀ ks : List Nat, VRels T G (DLC.pickX vs ks) (ks.map fun i => xs.getD i .non)
  | [] => .nil
  | k :: ks => .cons (by
      cases q : vs[k]? with
      | none =>
        have e : xs[k]? = none := by rw [List.getElem?_eq_none_iff] at q ⊢; rw [← r.length]; exact q
        simp only [List.getD_eq_getElem?_getD, q, e]
        exact .non
      | some v =>
        obtain ⟨d, e, rd⟩ := r.get q
        simp only [List.getD_eq_getElem?_getD, q, e]
        exact rd) (pick_rel r ks)
theorem di_cmb {x : Str} {e e2 : Expr} {g : FA} (hm : X.mg x = some (.type "itertools.combinations")) (ha : DA X [e, e2] g) (hd : (x == ("__debug__" : Str)) = false := by decide) (hg : Gl X x := by rfl)
    (hs : starEach [e, e2] X.env = (false, eval e X.env) :: starEach [e2] X.env := by rfl) (hpl : (backTo pos (starEach [e2] X.env)).any (·.1) = false := by rfl) :
    DI X tg (.Call (.Name x p) [e, e2] [] pos) (I.cmb g) := by
  refine ⟨fun B W tk => ⟨fun pins s σ H R Iv h => (DLC.pi_cmb hg hm hd (ha.run B W tk) hs hpl).run pins s σ H R Iv ?_⟩⟩
  obtain ⟨G, env, S, h⟩ := h
  refine ⟨G, env, S, ?_⟩
  unfold I.cmb at h
  cases q : g env with
  | stk => simp [q, oE] at h
  | exc x e' => simp only [q, Out.bind_exc] at h; exact h
  | ok ds e1 =>
    simp only [q, Out.bind_ok] at h
    refine fun G1 H1 S1 l1 vs r1 => ?_
    split at h
    · split at h
      · rename_i xs r hb
        obtain ⟨v, w, rfl, rv, rw_⟩ := r1.pair
        cases rw_
        cases rv with
        | lst ht rs =>
          rename_i a vs
          have hl := rs.length
          refine ⟨a, vs, r.toNat, by rw [Int.toNat_of_nonneg hb.2.1], SqL.of (S1.gh.nd ht True.intro), by omega, by omega, h G1 H1 S1 l1 _ H1 B (BExt.refl B) S1 ?_⟩
          rw [hl]
          refine dw_new (fun i => ((DLC.combs xs.length r.toNat)[i]?).map fun ks => ks.map fun i => xs.getD i .non) (fun i zs hf => ?_) (fun i H hi l => ?_) (fun H l => ?_) (fun i H x H' hi l y => ?_)
          · simp only [cmbD, List.getElem?_map]
            cases q : (DLC.combs xs.length r.toNat)[i]? with
            | none => simp [q] at hf
            | some ks =>
              rw [q] at hf
              simp only [Option.map_some, Option.some.injEq] at hf
              subst hf
              rfl
          · show i < (List.map _ _).length
            simpa [cmbD] using hi
          · show _ = (List.map _ _).length
            simp [cmbD]
          · obtain ⟨p, z, rfl, hn, hz, rfl⟩ := y
            rw [List.getElem?_map] at hz
            cases q : (DLC.combs xs.length r.toNat)[i]? with
            | none => simp [q] at hz
            | some ks =>
              rw [q] at hz
              simp only [Option.map_some, Option.some.injEq] at hz
              subst hz
              exact ⟨p, _, _, rfl, hn, rfl, rfl, pick_rel rs ks⟩
      · exact h.elim
    · exact h.elim
/-! ### list(range(..)) -/
def E.lrng (f : FE) : FD := fun env => (f env).bind fun a e => match rd e a with
  | some (.int j) => if -(2 ^ 62) ≤ j ∧ j ≤ 2 ^ 24 then .ok (.lst (rngD 0 j.toNat)) e else .stk
  | _ => .stk
theorem rgV_rel {T : Stt} {G : Hp} (lo : Int) (n : Nat) : VRels T G ((List.range n).map fun i => V.int (lo + (i : Nat))) (rngD lo n) := by
  unfold rngD
  induction List.range n with
  | nil => exact .nil
  | cons k ks ih => exact .cons (.int _) ih
theorem df_lrng {a : Expr} {f : FE} {p2 pos2 : Pos} (hc : X.calm = true) (hm : X.mg "list" = none) (hm2 : X.mg "range" = none) (ha : DE X a f) (hg : Gl X "list" := by rfl) (hg2 : Gl X "range" := by rfl)
    (na : starEach [a] X.env = (false, eval a X.env) :: starEach [] X.env := by rfl) (na2 : starEach [.Call (.Name "range" p2) [a] [] pos2] X.env = (false, eval (.Call (.Name "range" p2) [a] [] pos2) X.env) :: starEach [] X.env := by rfl) :
    DF X (.Call (.Name "list" p) [.Call (.Name "range" p2) [a] [] pos2] [] pos) (E.lrng f) := by
  refine ⟨fun B W tk => (L2.pe_listRg hc hg hm (L2.prg_1 hg2 hm2 (ha.run B W tk) na) na2).imp fun σ H Q h => ?_⟩
  obtain ⟨G, env, S, h⟩ := h
  refine ⟨G, env, S, ?_⟩
  unfold E.lrng at h
  cases q : f env with
  | stk => simp [q, oE] at h
  | exc x e' => simp only [q, Out.bind_exc] at h; exact h
  | ok b e1 =>
    simp only [q, Out.bind_ok] at h
    refine fun G1 H1 S1 l1 v r1 => ?_
    split at h
    · rename_i j hr
      split at h
      · rename_i hb
        obtain rfl := (S1.orel r1 hr).int
        refine ⟨j, rfl, ⟨by omega, by omega, by omega, by omega, by omega⟩, fun p hp => ?_⟩
        obtain ⟨S2, n1, n2, n3⟩ := S1.fresh (o := .lst (rgV 0 j)) hp
        refine h _ _ S2 l1 p n1 n2 n3 ⟨_, upd_same, ?_⟩
        unfold rgV
        rw [Int.sub_zero]
        exact rgV_rel 0 _
      · exact h.elim
    · exact h.elim
end
end DL
-- DL27a
set_option maxRecDepth 100000
set_option maxHeartbeats 4000000
/-! DL27a: sorted of tuples of ints, of any lengths, at the library's level. -/
namespace DLS
open PySem PyProof.Rows Srt SrtO TS
section
variable {prog : Program} {w : World} {A : Around} {E : Value → Shared → Prop} {s : Shared}
theorem lex_any {b fin : Bool} {Q : Bool → Shared → Prop} : ∀ {xs ys : List Value} {ns ms : List Int} (i : Nat), IntsAre xs ns → IntsAre ys ms → fin = decide (ns.length < ms.length) → Q (HT.lexLt ns ms) s → PySem.W.KatLex prog w A b fin Q (xs.zip ys) i s
  | _, _, _, _, i, .nil, .nil, hf, h => PySem.W.kat_nil (by rw [hf]; exact h)
  | _, _, _, _, i, .nil, .cons q u hy, hf, h => PySem.W.kat_nil (by
      have e : fin = true := by rw [hf]; simp
      rw [e]; exact h)
  | _, _, _, _, i, .cons p t hx, .nil, hf, h => PySem.W.kat_nil (by
      have e : fin = false := by rw [hf]; simp
      rw [e]; exact h)
  | _, _, _, _, i, .cons (vs := xs) (ns := ns) p t hx, .cons (vs := ys) (ns := ms) q u hy, hf, h => by
    show PySem.W.KatLex prog w A b fin Q ((Value.int p t, Value.int q u) :: xs.zip ys) i s
    rw [HT.lexLt_cons] at h
    refine PySem.W.kat_cons (wpAny_eqBool_int ?_)
    by_cases e : p = q
    · subst e
      rw [beq_self_eq_true]
      rw [if_pos rfl] at h
      exact PySem.W.kat_yes (lex_any (i + 1) hx hy (by rw [hf]; simp) h)
    · rw [show (p == q) = false from beq_eq_false_iff_ne.mpr e]
      rw [if_neg e] at h
      exact PySem.W.kat_no (oneLt_ints _ h)
/-- what is sorted: tuples of ints -/
def AllT (h : Heap) (vs : List Value) : Prop := ∀ v ∈ vs, TupInts h v (intsOf h v)
theorem AllT.keeps {h h' : Heap} {vs : List Value} (x : AllT h vs) (k : ∀ b o, h.get? b = some o → o.cls = .type "tuple" → h'.get? b = some o) : AllT h' vs ∧ ∀ v ∈ vs, intsOf h' v = intsOf h v := by
  have y : ∀ v ∈ vs, intsOf h' v = intsOf h v := fun v hv => ((x v hv).keeps k).ints
  exact ⟨fun v hv => by rw [y v hv]; exact (x v hv).keeps k, y⟩
theorem cmp_tuples {vs : List Value} (x : AllT s.heap vs) : Cmp prog w A s (tuples' true) (fun p => p.1 ∈ vs) (lt2 fun v u => HT.lexLt (intsOf s.heap v) (intsOf s.heap u)) := by
  intro p q hm hm'
  show wpAny (model prog w) A (keyLt' (tuples' true) p.1 q.1) (fun r s' => s' = s ∧ r = HT.lexLt (intsOf s.heap p.1) (intsOf s.heap q.1)) (fun _ _ => False) s
  have h1 := x _ hm
  have h2 := x _ hm'
  generalize intsOf s.heap p.1 = ns at h1 ⊢
  generalize intsOf s.heap q.1 = ms at h2 ⊢
  obtain ⟨a, xs, e, ⟨o, ho, hc, n, hd⟩, i1⟩ := h1
  obtain ⟨b, ys, e', ⟨o', ho', hc', n', hd'⟩, i2⟩ := h2
  rw [e, e']
  refine PySem.W.kat_lt ho hd ho' hd' (lex_any 0 i1 i2 ?_ ⟨rfl, rfl⟩)
  rw [← i1.length, ← i2.length]
  simp
theorem cmp_one {vs : List Value} (hu : A.units < cLine) (x : AllT s.heap vs) : Cmp prog w A s oneType' (fun p => p.1 ∈ vs) (lt2 fun v u => HT.lexLt (intsOf s.heap v) (intsOf s.heap u)) := by
  intro p q hm hm'
  show wpAny (model prog w) A (keyLt' oneType' p.1 q.1) (fun r s' => s' = s ∧ r = HT.lexLt (intsOf s.heap p.1) (intsOf s.heap q.1)) (fun _ _ => False) s
  have h1 := x _ hm
  have h2 := x _ hm'
  generalize intsOf s.heap p.1 = ns at h1 ⊢
  generalize intsOf s.heap q.1 = ms at h2 ⊢
  obtain ⟨a, xs, e, ⟨⟨cls, dd, data, sl⟩, ho, hc, n, hd⟩, i1⟩ := h1
  obtain ⟨b, ys, e', ⟨⟨cls2, dd2, data2, sl2⟩, ho', hc', n', hd'⟩, i2⟩ := h2
  simp only at hc hd hc' hd'
  subst hc hd hc' hd'
  rw [e, e', keyLt'_oneType, oneLt'_eq]
  simp only [if_true]
  refine wpAny_bind (wpAny_cRoomFor hu ?_)
  refine wpAny_bind (wpAny_callSpecialIfBound?_slot (name := Str.ofString "__lt__") ⟨_, ho, rfl⟩ PySem.F.slot_tuple_lt (call_meets PySem.F.slot_tuple_lt ⟨_, ho, rfl⟩ PySem.F.entry_tuple_lt (PySem.F.args_tuple_lt_2 _ _) (HT.tuple_lt_ints a b xs ys n n' dd dd2 sl sl2 ns ms i1 i2) ⟨ho, ho', ?_⟩))
  exact wpAny_truthy_bool ⟨rfl, rfl⟩
theorem kind_tuples {vs : List Value} (h0 : 0 < vs.length) (x : AllT s.heap vs) (ne : ∀ v ∈ vs, intsOf s.heap v ≠ []) {Q : SortKind → Shared → Prop} (h : Q (tuples' true) s) : wpAny (model prog w) A (keyKind' vs.toArray) Q E s := by
  have main : ∀ us : List Value, (∀ v ∈ us, v ∈ vs) → ∃ fs, PySem.W.KatTups s.heap us fs ∧ fs.length = us.length ∧ ∀ f, f ∈ fs → ∃ n t, f = Value.int n t := by
    intro us
    induction us with
    | nil => intro _; exact ⟨[], PySem.W.KatTups.nil, rfl, fun f hf => by simp at hf⟩
    | cons v us ih =>
      intro hs
      obtain ⟨fs, k, hl, hi⟩ := ih fun u hu => hs u (List.mem_cons_of_mem _ hu)
      have hv := hs v (List.mem_cons_self ..)
      have n1 := ne v hv
      have t1 := x v hv
      generalize intsOf s.heap v = ns at n1 t1
      obtain ⟨a, xs, rfl, ⟨o, ho, hc, n, hdt⟩, i⟩ := t1
      obtain ⟨y, ys, e⟩ : ∃ y ys, xs.toList = y :: ys := by
        cases q : xs.toList with
        | nil => rw [q] at i; cases i; exact absurd rfl n1
        | cons y ys => exact ⟨y, ys, rfl⟩
      obtain ⟨m, t, hy⟩ := i.all y (by rw [e]; exact List.mem_cons_self ..)
      refine ⟨y :: fs, PySem.W.KatTups.cons ho hc hdt ?_ k, by simp [hl], ?_⟩
      · have z := congrArg (fun l : List Value => l[0]?) e
        simpa using z
      · intro f hf
        rcases List.mem_cons.mp hf with rfl | hf
        · exact ⟨m, t, hy⟩
        · exact hi f hf
  obtain ⟨fs, k, hl, hi⟩ := main vs fun _ h => h
  refine PySem.W.kat_kind (T := Value.type "int") k (by omega) (fun f hf => ?_) rfl ?_
  · obtain ⟨n, t, rfl⟩ := hi f hf
    exact PySem.W.Looks.of_pure rfl
  · have e : (Value.type "int" != Value.type "tuple") = true := by first | decide +kernel | rfl | decide
    rw [e]; exact h
theorem firsts_mapM : ∀ {vs : List Value} {Q : List (Option Value) → Shared → Prop}, AllT s.heap vs → (∀ fs : List (Option Value), fs.length = vs.length → (∀ v us, vs = v :: us → intsOf s.heap v = [] → ∃ gs, fs = none :: gs) → Q fs s) → wpAny (model prog w) A (vs.mapM firstOfTuple') Q E s
  | [], _, _, h => by rw [List.mapM_nil]; exact wpAny_pure (h [] rfl fun v us e _ => by cases e)
  | v :: vs, Q, x, h => by
    have t1 := x v (List.mem_cons_self ..)
    rw [List.mapM_cons]
    refine wpAny_bind ?_
    rw [PySem.W.kas_first_eq]
    generalize hns : intsOf s.heap v = ns at t1
    obtain ⟨a, xs, rfl, ⟨o, ho, hc, n, hd⟩, i⟩ := t1
    refine wpAny_bind (PySem.W.Looks.here (show PySem.W.Looks _ s.heap (typeOf (.ref a)) o.cls from (PySem.W.Looks.ld ho).andThen .now) ?_)
    rw [hc, if_neg (by first | decide | simp)]
    refine wpAny_bind (listItems_at ho hd (wpAny_pure ?_))
    refine wpAny_bind (firsts_mapM (fun u hu => x u (List.mem_cons_of_mem _ hu)) fun fs hl _ => wpAny_pure (h _ (by simp [hl]) fun v' us e z => ?_))
    cases e
    rw [hns] at z
    subst z
    have e0 : xs.toList = [] := by cases i' : xs.toList with
      | nil => rfl
      | cons y ys => rw [i'] at i; cases i
    refine ⟨fs, ?_⟩
    have : xs[0]? = none := by
      have z := congrArg (fun l : List Value => l[0]?) e0
      simpa using z
    rw [this]
theorem kind_one {v : Value} {us : List Value} (x : AllT s.heap (v :: us)) (hv : intsOf s.heap v = []) {Q : SortKind → Shared → Prop} (h : Q oneType' s) : wpAny (model prog w) A (keyKind' (v :: us).toArray) Q E s := by
  rw [kat_kind_eq, List.mapM_toArray, map_eq_pure_bind]
  refine wpAny_bind (wpAny_bind (firsts_mapM x fun fs hl hn => wpAny_pure ?_))
  obtain ⟨gs, rfl⟩ := hn v us rfl hv
  rw [if_neg (by simp)]
  rw [if_neg (by simp)]
  rw [oneTypeOnly'_eq, List.mapM_toArray, map_eq_pure_bind]
  refine wpAny_bind (wpAny_bind (wpAny_bind (PySem.W.kas_mapM (r := Value.type "tuple") _ (fun v hv Q' hq => ?_) (wpAny_pure ?_))))
  · have t1 := x v hv
    generalize intsOf s.heap v = ns at t1
    obtain ⟨a, xs, rfl, ⟨o, ho, hc, n, hd⟩, i⟩ := t1
    refine PySem.W.Looks.here (show PySem.W.Looks _ s.heap (typeOf (.ref a)) o.cls from (PySem.W.Looks.ld ho).andThen .now) ?_
    rw [hc]; exact hq
  · have hall : ((List.map (fun _ => Value.type "tuple") (v :: us)).toArray.all fun x => x == Value.type "tuple") = true := by
      simp only [List.all_toArray, List.all_map, List.all_eq_true]
      intro _ _
      first | decide +kernel | rfl
    have h0 : (List.map (fun _ => Value.type "tuple") (v :: us)).toArray[0]? = some (Value.type "tuple") := by simp
    rw [h0]
    simp only [hall, if_true]
    exact wpAny_pure (wpAny_pure h)
/-- sorted(x), x anything whose items are collected -/
theorem sorted_gen {x : Value} {vs : List Value} {ltv : Value → Value → Bool} {Q : Value → Shared → Prop} (Pm : Shared → Prop) (O : Swo ltv) (hz : vs.length ≤ sizeLine)
    (hcol : ∀ (A' : Around) (E' : Value → Shared → Prop) (Q' : List Value → Shared → Prop), A'.handled = A.handled → (∀ s' : Shared, (∀ b o, s.heap.get? b = some o → s'.heap.get? b = some o) → Pm s' → Q' vs s') → wpAny (model prog w) A' (collect x) Q' E' s)
    (hS : 2 ≤ vs.length → ∀ (s₁ : Shared) (a : Addr), s₁.heap.get? a = some (seqObj "list" vs.toArray 0) → (∀ b o, s.heap.get? b = some o → b ≠ a ∧ s₁.heap.get? b = some o) → SortableO prog w A.in1.in1 s₁ a vs ltv)
    (h : ∀ (s' : Shared) (h3 : Heap) (out : List Value), Pm s' → Srtd ltv out → Stb ltv out vs → (∀ b o, s.heap.get? b = some o → s'.heap.get? b = some o) → (∀ b o, s'.heap.get? b = some o → h3.get? b = some o) → (∃ n, h3.get? s'.heap.objs.size = some (seqObj "list" out.toArray n)) → Q (.ref s'.heap.objs.size) { s' with heap := h3 }) :
    wpAny (model prog w) A (call (.builtin "sorted") [x]) Q E s := by
  refine Calls.call_function_entry kind_sorted plain_sorted entry_sorted (args_sorted1 _) ?_
  unfold Builtin.«sorted»
  refine wpAny_bind (m := checkCount "sorted" 1 1 _) (wpAny_pure ?_)
  refine wpAny_bind (hcol _ _ _ rfl fun s' hk hpm => ?_)
  refine wpAny_bind (wpAny_newList ?_ hz)
  have hoL : (s'.heap.push (seqObj "list" vs.toArray 0)).get? s'.heap.objs.size = some (seqObj "list" vs.toArray 0) := Heap.get?_push_size _ rfl
  have keep : ∀ b o, s.heap.get? b = some o → b ≠ s'.heap.objs.size ∧ (s'.heap.push (seqObj "list" vs.toArray 0)).get? b = some o := fun b o q =>
    ⟨Nat.ne_of_lt (Heap.lt_size (hk b o q)), Heap.get?_push_of_some _ (hk b o q)⟩
  refine wpAny_bind (wpAny_holding (wpAny_call_entry slot_list_sort ⟨_, hoL, rfl⟩ entry_list_sort (list_sort_ord (s := { s' with heap := s'.heap.push (seqObj "list" vs.toArray 0) }) O hoL hz (fun h2 => hS h2 { s' with heap := s'.heap.push (seqObj "list" vs.toArray 0) } _ hoL keep) fun out hs hb => ⟨_, rfl, ?_⟩) (args_list_sort _)))
  refine wpAny_pure ⟨_, rfl, h s' _ out hpm hs hb hk (fun b o q => ?_) (sortedHeap_at (vs := vs) (out := out.toArray) hoL)⟩
  have hlt := Heap.lt_size q
  show (sortedHeap (s'.heap.push (seqObj "list" vs.toArray 0)) s'.heap.objs.size vs out.toArray).get? b = some o
  rw [sortedHeap_old (Nat.ne_of_lt hlt) (by rw [size_push']; exact Nat.lt_succ_of_lt hlt)]
  exact Heap.get?_push_of_some _ q
/-- tuples of ints: none is empty, or the first one is -/
def SrtOk (l : List (List Int)) : Bool := l.all (fun x => x != []) || l.headD [0] == []
theorem sortable_tups {vs : List Value} {a : Addr} {k : Value → List Int} (hu : A.units < cLine) (h2 : 2 ≤ vs.length) (hk : ∀ v ∈ vs, TupInts s.heap v (k v)) (ok : SrtOk (vs.map k) = true) (ha : ∀ o, s.heap.get? a = some o → o.cls ≠ .type "tuple") :
    SortableO prog w A s a vs fun v u => HT.lexLt (k v) (k u) := by
  intro h' keep
  have hk' : ∀ v ∈ vs, TupInts h' v (k v) := fun v hv => (hk v hv).keeps fun b o e c => keep b o (fun z => by subst z; exact ha o e c) e
  have hx : AllT h' vs := fun v hv => by rw [(hk' v hv).ints]; exact hk' v hv
  have he : ∀ v ∈ vs, intsOf h' v = k v := fun v hv => (hk' v hv).ints
  have conv : ∀ κ, Cmp prog w A { s with heap := h' } κ (fun p => p.1 ∈ vs) (lt2 fun v u => HT.lexLt (intsOf h' v) (intsOf h' u)) → Cmp prog w A { s with heap := h' } κ (fun p => p.1 ∈ vs) (lt2 fun v u => HT.lexLt (k v) (k u)) := fun κ c p q hp hq => by
    have z := c p q hp hq
    show wpAny _ _ _ (fun r s' => s' = _ ∧ r = HT.lexLt (k p.1) (k q.1)) _ _
    rw [← he _ hp, ← he _ hq]
    exact z
  unfold SrtOk at ok
  rw [Bool.or_eq_true] at ok
  rcases ok with ok | ok
  · refine ⟨tuples' true, fun Q E hq => kind_tuples (s := { s with heap := h' }) (by omega) hx (fun v hv => ?_) hq, conv _ (cmp_tuples (s := { s with heap := h' }) hx)⟩
    rw [he v hv]
    have z := List.all_eq_true.mp ok (k v) (List.mem_map_of_mem hv)
    simpa using z
  · cases vs with
    | nil => simp at h2
    | cons v us =>
      refine ⟨oneType', fun Q E hq => kind_one (s := { s with heap := h' }) hx ?_ hq, conv _ (cmp_one (s := { s with heap := h' }) hu hx)⟩
      rw [he v (List.mem_cons_self ..)]
      simpa using ok
end
end DLS
-- DL27
set_option maxRecDepth 100000
set_option maxHeartbeats 4000000
/-! DL27: sorted of ints, of tuples of ints. -/
namespace DL
open PySem PySem.Spec PyProof.Rows L2 Srt SrtO

/-! ### the sorted list -/
def insS {α : Type} (lt : α → α → Bool) (x : α) : List α → List α
  | [] => [x]
  | y :: ys => if lt y x then y :: insS lt x ys else x :: y :: ys
def isrt {α : Type} (lt : α → α → Bool) (l : List α) : List α := l.foldr (insS lt) []
section
variable {α : Type} {lt : α → α → Bool}
theorem insS_perm (x : α) : ∀ l : List α, (insS lt x l).Perm (x :: l)
  | [] => List.Perm.refl _
  | y :: ys => by
    unfold insS
    split
    · exact ((insS_perm x ys).cons y).trans (List.Perm.swap x y ys)
    · exact List.Perm.refl _
theorem isrt_perm : ∀ l : List α, (isrt lt l).Perm l
  | [] => List.Perm.refl _
  | x :: l => (insS_perm x (isrt lt l)).trans ((isrt_perm l).cons x)
theorem insS_srtd (O : Swo lt) (x : α) : ∀ {l : List α}, Srtd lt l → Srtd lt (insS lt x l)
  | [], _ => srtd_one x
  | y :: ys, h => by
    have hp := List.pairwise_cons.mp h
    unfold insS
    split
    · rename_i hxy
      refine List.pairwise_cons.mpr ⟨fun z hz => ?_, insS_srtd O x hp.2⟩
      rcases List.mem_cons.mp ((insS_perm x ys).mem_iff.mp hz) with e | hz
      · rw [e]; exact O.asym y x hxy
      · exact hp.1 z hz
    · rename_i hxy
      have hxy' : lt y x = false := by cases q : lt y x <;> simp_all
      refine List.pairwise_cons.mpr ⟨fun z hz => ?_, h⟩
      rcases List.mem_cons.mp hz with e | hz
      · rw [e]; exact hxy'
      · exact O.tr x y z hxy' (hp.1 z hz)
theorem isrt_srtd (O : Swo lt) : ∀ l : List α, Srtd lt (isrt lt l)
  | [] => List.Pairwise.nil
  | x :: l => insS_srtd O x (isrt_srtd O l)
/-- there is one sorted list of these items, where no two differ that no test tells apart -/
theorem srtd_uniq (anti : ∀ x y, lt x y = false → lt y x = false → x = y) : ∀ {l m : List α}, l.Perm m → Srtd lt l → Srtd lt m → l = m
  | [], m, p, _, _ => by rw [List.nil_perm.mp p]
  | x :: l, [], p, _, _ => by have := List.perm_nil.mp p; cases this
  | x :: l, y :: m, p, h, k => by
    have hp := List.pairwise_cons.mp h
    have kp := List.pairwise_cons.mp k
    have e : x = y := by
      rcases List.mem_cons.mp (p.mem_iff.mp (List.mem_cons_self ..)) with e | hx
      · exact e
      · rcases List.mem_cons.mp (p.mem_iff.mpr (List.mem_cons_self ..)) with e | hy
        · exact e.symm
        · exact anti x y (kp.1 x hx) (hp.1 y hy)
    subst e
    rw [srtd_uniq anti (List.Perm.cons_inv p) hp.2 kp.2]
theorem isrt_of (O : Swo lt) (anti : ∀ x y, lt x y = false → lt y x = false → x = y) {l m : List α} (p : l.Perm m) (h : Srtd lt l) : l = isrt lt m :=
  srtd_uniq anti (p.trans (isrt_perm m).symm) h (isrt_srtd O m)
end
def ltI (x y : Int) : Bool := decide (x < y)
theorem swoI : Swo ltI := ⟨fun x y h => by simp [ltI] at *; omega, fun x y z h k => by simp [ltI] at *; omega⟩
theorem antiI (x y : Int) (h : ltI x y = false) (k : ltI y x = false) : x = y := by simp [ltI] at *; omega
theorem swoL : Swo HT.lexLt := NtL.swo_lexL id
theorem antiL : ∀ x y : List Int, HT.lexLt x y = false → HT.lexLt y x = false → x = y
  | [], [], _, _ => rfl
  | [], y :: ys, h, _ => by rw [HT.lexLt_nil_cons] at h; cases h
  | x :: xs, [], _, h => by rw [HT.lexLt_nil_cons] at h; cases h
  | x :: xs, y :: ys, h, k => by
    rw [HT.lexLt_cons] at h k
    by_cases e : x = y
    · subst e
      rw [if_pos rfl] at h k
      rw [antiL xs ys h k]
    · rw [if_neg e] at h
      rw [if_neg (Ne.symm e)] at k
      have a := of_decide_eq_false h
      have b := of_decide_eq_false k
      omega

/-! ### on data -/
def tupsI : List D → Option (List (List Int))
  | [] => some []
  | .tup ds :: r => match intsOf ds, tupsI r with
    | some is, some rs => some (is :: rs)
    | _, _ => none
  | _ :: _ => none
def dTups (l : List (List Int)) : List D := l.map fun is => .tup (is.map .int)
theorem tupsI_eq : ∀ {ds : List D} {l : List (List Int)}, tupsI ds = some l → ds = dTups l
  | [], l, h => by simp [tupsI] at h; subst h; rfl
  | d :: r, l, h => by
    cases d with
    | tup ds =>
      simp only [tupsI] at h
      cases q1 : intsOf ds with
      | none => simp [q1] at h
      | some is =>
        cases q2 : tupsI r with
        | none => simp [q1, q2] at h
        | some rs =>
          simp only [q1, q2, Option.some.injEq] at h
          subst h
          rw [intsOf_eq q1, tupsI_eq q2]
          rfl
    | _ => simp [tupsI] at h
def srtDs (ds : List D) : Option (List D) := match intsOf ds with
  | some is => some ((isrt ltI is).map .int)
  | none => match tupsI ds with
    | some l => if DLS.SrtOk l then some (dTups (isrt HT.lexLt l)) else none
    | none => none
def srtD : D → Option (List D)
  | .lst ds => srtDs ds
  | .tup ds => srtDs ds
  | _ => none
end DL
namespace L2
open PySem PySem.Spec PyProof.Rows Srt SrtO
variable {X : Cx}
/-- what is sorted: a list, a tuple -/
def SqA (K : PySem.W.Frag) (H : Hp) (a : Addr) (xs : List V) : Prop := SqL K H a xs ∨ SqT K H a xs
theorem Inv.collectA {pins : List (Addr × Obj)} {σ : L2.St} {H : Hp} {s : Shared} {a : Addr} {xs : List V} (I : Inv X pins σ H s) (h : SqA X.K H a xs) : ∃ its : List Value, Vals xs its ∧ xs.length ≤ sizeLine ∧ its.length ≤ sizeLine ∧
    ∀ (A' : Around) (E' : Value → Shared → Prop) (Q' : List Value → Shared → Prop), A'.handled = X.A.handled → (∀ s' : Shared, (∀ b o, s.heap.get? b = some o → s'.heap.get? b = some o) → (∃ h', s' = { s with heap := h' }) → Q' its s') → wpAny (model X.prog X.w) A' (collect (.ref a)) Q' E' s := by
  rcases h with h | h
  · obtain ⟨its, rv, p, hz⟩ := I.list h
    obtain ⟨o, ho, hc, n, hd⟩ := p.isList
    refine ⟨its, rv, hz, by rw [← rv.length]; exact hz, fun A' E' Q' _ q => ?_⟩
    refine wpAny_collect_seq a (.inl rfl) ho hc hd (fun h' k => ?_) (by rw [List.size_toArray, ← rv.length]; exact hz)
    exact q { s with heap := h' } k ⟨h', rfl⟩
  · obtain ⟨its, rv, p, hz⟩ := I.tuple h
    obtain ⟨o, ho, hc, n, hd⟩ := id p
    refine ⟨its, rv, hz, by rw [← rv.length]; exact hz, fun A' E' Q' _ q => ?_⟩
    refine wpAny_collect_seq a (.inr rfl) ho hc hd (fun h' k => ?_) (by rw [List.size_toArray, ← rv.length]; exact hz)
    exact q { s with heap := h' } k ⟨h', rfl⟩
theorem vals_perm {us out : List Value} (p : out.Perm us) : ∀ {xs : List V}, Vals xs us → ∃ ys : List V, Vals ys out ∧ ys.Perm xs := by
  induction p with
  | nil => intro xs r; exact ⟨xs, r, List.Perm.refl _⟩
  | cons u p ih =>
    intro xs r
    cases r with
    | cons r1 r =>
      obtain ⟨ys, r2, p2⟩ := ih r
      exact ⟨_ :: ys, .cons r1 r2, p2.cons _⟩
  | swap u v l =>
    intro xs r
    cases r with
    | cons r1 r => cases r with
      | cons r2 r => exact ⟨_, .cons r2 (.cons r1 r), List.Perm.swap _ _ _⟩
  | trans p1 p2 ih1 ih2 =>
    intro xs r
    obtain ⟨ys, r1, q1⟩ := ih2 r
    obtain ⟨zs, r2, q2⟩ := ih1 r1
    exact ⟨zs, r2, q2.trans q1⟩
/-- item by item -/
inductive Al (R : V → List Int → Prop) : List V → List (List Int) → Prop
  | nil : Al R [] []
  | cons {x : V} {xs : List V} {is : List Int} {ls : List (List Int)} (r : R x is) (rs : Al R xs ls) : Al R (x :: xs) (is :: ls)
theorem Al.mem {R : V → List Int → Prop} : ∀ {xs : List V} {ls : List (List Int)}, Al R xs ls → ∀ x ∈ xs, ∃ is, R x is
  | _, _, .nil, x, h => by cases h
  | _, _, .cons r rs, x, h => by
    rcases List.mem_cons.mp h with e | h
    · subst e; exact ⟨_, r⟩
    · exact rs.mem x h
theorem Al.len {R : V → List Int → Prop} : ∀ {xs : List V} {ls : List (List Int)}, Al R xs ls → xs.length = ls.length
  | _, _, .nil => rfl
  | _, _, .cons r rs => by simp [rs.len]
def rSrt (K : PySem.W.Frag) : List V → Hp → VK → Prop := fun vs H Q => ∃ a xs, vs = [.ref a] ∧ SqA K H a xs ∧
  ((∃ ns : List Int, xs = ns.map V.int ∧ ∀ p, H p = none → Q (.ref p) (upd H p (.lst ((DL.isrt DL.ltI ns).map V.int)))) ∨
  ∃ (R : V → List Int → Prop) (ls : List (List Int)), Al R xs ls ∧ (∀ x is, R x is → ∃ p, x = .ref p ∧ SqT K H p (is.map V.int)) ∧ DLS.SrtOk ls = true ∧
    ∀ ys p, Al R ys (DL.isrt HT.lexLt ls) → H p = none → Q (.ref p) (upd H p (.lst ys)))
theorem cr_srt (hu : X.A.units + 2 < cLine) : CallR X (.builtin "sorted") (rSrt X.K) := by
  intro pins s σ H vs us Q I r h
  obtain ⟨a, xs, rfl, hs, q⟩ := h
  obtain ⟨its, rv, hz, hz2, col⟩ := I.collectA hs
  rw [Vals.ref1 r]
  rcases q with ⟨ns, rfl, q⟩ | ⟨R, ls, al, hR, ok, q⟩
  · have hi := rv.ints
    refine DLS.sorted_gen (ltv := ltIv) (fun s' => ∃ h', s' = { s with heap := h' }) swo_int hz2 (fun A' E' Q' hh k => col A' E' Q' hh fun s' k1 k2 => k s' k1 k2) (fun h2 s₁ a' _ _ => ints_sortable hi h2) fun s' h3 out hp h1 h2 k k2 hat => ?_
    obtain ⟨h', rfl⟩ := hp
    obtain ⟨k1, k3, k4⟩ := ints_out hi h1 h2
    obtain ⟨ep, he'⟩ := hat
    have e : out.map iv = DL.isrt DL.ltI ns := DL.isrt_of DL.swoI DL.antiI k3 (k4.imp fun {x y} h => decide_eq_false (by omega))
    rw [e] at k1 k3
    have hlen : ((DL.isrt DL.ltI ns).map V.int).length ≤ sizeLine := by
      rw [List.length_map, k3.length_eq]
      rw [List.length_map] at hz
      exact hz
    have I1 : Inv X pins σ H { s with heap := h' } := I.kept (t' := s.toks) k
    exact ⟨.ref _, upd H h'.objs.size (.lst ((DL.isrt DL.ltI ns).map V.int)), I1.laid (t' := s.toks) k2 (Nat.le_refl _) ⟨hlen, out, ep, vals_of_ints k1, he'⟩, rfl, q _ (I1.hok.fresh (Nat.le_refl _))⟩
  · have tu : ∀ {xs : List V} {its : List Value} {ls : List (List Int)}, Vals xs its → Al R xs ls → its.map (TS.intsOf s.heap) = ls ∧ ∀ u ∈ its, TS.TupInts s.heap u (TS.intsOf s.heap u) := by
      intro xs its ls rv al
      clear q col hs r ok hz hz2
      induction al generalizing its with
      | nil => cases rv; exact ⟨rfl, fun u hu => by cases hu⟩
      | cons r rs ih =>
        cases rv with
        | cons r1 rv =>
          obtain ⟨e1, e2⟩ := ih rv
          obtain ⟨p, rfl, hq⟩ := hR _ _ r
          cases r1
          obtain ⟨jts, rj, pj, _⟩ := I.tuple hq
          have t1 : TS.TupInts s.heap (.ref p) _ := ⟨p, jts.toArray, rfl, pj, by simpa using rj.ints⟩
          refine ⟨by rw [List.map_cons, t1.ints, e1], fun u hu => ?_⟩
          rcases List.mem_cons.mp hu with e | hu
          · rw [e, t1.ints]; exact t1
          · exact e2 u hu
    obtain ⟨e1, e2⟩ := tu rv al
    refine DLS.sorted_gen (ltv := fun v u => HT.lexLt (TS.intsOf s.heap v) (TS.intsOf s.heap u)) (fun s' => ∃ h', s' = { s with heap := h' }) (NtL.swo_lexL _) hz2 (fun A' E' Q' hh k => col A' E' Q' hh fun s' k1 k2 => k s' k1 k2)
      (fun h2 s₁ a' ha' kk => DLS.sortable_tups (s := s₁) hu h2 (fun v hv => (e2 v hv).keeps fun b o z _ => (kk b o z).2) (by rw [e1]; exact ok) (fun o z c => by
        rw [ha'] at z
        cases z
        exact absurd (Value.type.inj c) (by decide))) fun s' h3 out hp h1 h2 k k2 hat => ?_
    obtain ⟨h', rfl⟩ := hp
    obtain ⟨ep, he'⟩ := hat
    obtain ⟨ys, ry, py⟩ := vals_perm h2.perm rv
    have e3 : out.map (TS.intsOf s.heap) = DL.isrt HT.lexLt ls := by
      refine DL.isrt_of DL.swoL DL.antiL ?_ (List.pairwise_map.mpr h1)
      rw [← e1]
      exact h2.perm.map _
    have al2 : ∀ {ys : List V} {out : List Value}, Vals ys out → (∀ y ∈ ys, y ∈ xs) → Al R ys (out.map (TS.intsOf s.heap)) := by
      intro ys out ry
      clear e3 h1 h2 he' py
      induction ry with
      | nil => intro _; exact .nil
      | cons r1 ry ih =>
        intro hs
        refine .cons ?_ (ih fun y hy => hs y (List.mem_cons_of_mem _ hy))
        obtain ⟨is, hr⟩ := al.mem _ (hs _ (List.mem_cons_self ..))
        obtain ⟨p, rfl, hq⟩ := hR _ _ hr
        cases r1
        obtain ⟨jts, rj, pj, _⟩ := I.tuple hq
        have t1 : TS.TupInts s.heap (.ref p) is := ⟨p, jts.toArray, rfl, pj, by simpa using rj.ints⟩
        rw [t1.ints]; exact hr
    have al3 := al2 ry fun y hy => py.mem_iff.mp hy
    rw [e3] at al3
    have hlen : ys.length ≤ sizeLine := by rw [py.length_eq]; exact hz
    have I1 : Inv X pins σ H { s with heap := h' } := I.kept (t' := s.toks) k
    exact ⟨.ref _, upd H h'.objs.size (.lst ys), I1.laid (t' := s.toks) k2 (Nat.le_refl _) ⟨hlen, out, ep, ry, he'⟩, rfl, q _ _ al3 (I1.hok.fresh (Nat.le_refl _))⟩
end L2
namespace DL
open PySem PySem.Spec PyProof.Rows L2 Srt SrtO
def E.srt (f : FE) : FD := fun env => (f env).bind fun a e => match rd e a with
  | some d => match srtD d with
    | some ds => .ok (.lst ds) e
    | none => .stk
  | none => .stk
theorem al_of {T : Stt} {G : Hp} : ∀ {vs : List V} {ls : List (List Int)}, VRels T G vs (dTups ls) → Al (fun v is => VRel T G v (.tup (is.map .int))) vs ls
  | _, [], .nil => .nil
  | _, is :: ls, .cons r rs => .cons r (al_of rs)
theorem of_al {T : Stt} {G : Hp} : ∀ {vs : List V} {ls : List (List Int)}, Al (fun v is => VRel T G v (.tup (is.map .int))) vs ls → VRels T G vs (dTups ls)
  | _, _, .nil => .nil
  | _, _, .cons r rs => .cons r (of_al rs)
section
variable {X : Cx} {p pos : Pos} {e : Expr}
theorem df_srt {f : FE} (hu : X.A.units + 2 < cLine) (hm : X.mg "sorted" = none) (ha : DE X e f) (hg : Gl X "sorted" := by rfl) (na : starEach [e] X.env = (false, eval e X.env) :: starEach [] X.env := by rfl) :
    DF X (.Call (.Name "sorted" p) [e] [] pos) (E.srt f) := by
  refine ⟨fun B W tk => (pe_callB (cr_srt hu) hg hm (by rfl) (pa_cons (ha.run B W tk) pa_nil na) (by decide) (by decide) na (by rfl)).imp fun σ H Q h => ?_⟩
  obtain ⟨G, env, S, h⟩ := h
  refine ⟨G, env, S, ?_⟩
  unfold E.srt at h
  cases q : f env with
  | stk => simp [q, oE] at h
  | exc x e' => simp only [q, Out.bind_exc] at h; exact h
  | ok b e1 =>
    simp only [q, Out.bind_ok] at h
    refine fun G1 H1 S1 l1 v r1 => ?_
    cases hr : rd e1 b with
    | none => simp [hr, oE] at h
    | some d =>
      simp only [hr] at h
      have o := S1.orel r1 hr
      cases hd : srtD d with
      | none => simp [hd, oE] at h
      | some ds =>
        simp only [hd] at h
        have main : ∀ (a : Addr) (vs : List V) (xs : List D), SqA X.K H1 a vs → VRels ⟨X.K, X.mg⟩ G1 vs xs → srtDs xs = some ds → v = .ref a → rSrt X.K [v] H1 Q := by
          intro a vs xs ha rs hs hv
          subst hv
          unfold srtDs at hs
          cases hi : intsOf xs with
          | some is =>
            simp only [hi, Option.some.injEq] at hs
            subst hs
            rw [intsOf_eq hi] at rs
            refine ⟨a, vs, rfl, ha, .inl ⟨is, rs.ints, fun p hp => ?_⟩⟩
            obtain ⟨S2, n1, n2, n3⟩ := S1.fresh (o := .lst ((isrt ltI is).map V.int)) hp
            exact h _ _ S2 l1 p n1 n2 n3 ⟨_, upd_same, ints_rel _⟩
          | none =>
            simp only [hi] at hs
            cases ht : tupsI xs with
            | none => simp [ht] at hs
            | some ls =>
              simp only [ht] at hs
              split at hs
              · rename_i ok
                simp only [Option.some.injEq] at hs
                subst hs
                rw [tupsI_eq ht] at rs
                refine ⟨a, vs, rfl, ha, .inr ⟨_, ls, al_of rs, fun x is r => ?_, ok, fun ys p al hp => ?_⟩⟩
                · cases r with
                  | tup h q => exact ⟨_, rfl, by rw [← q.ints]; exact h.sq S1.gh⟩
                · obtain ⟨S2, n1, n2, n3⟩ := S1.fresh (o := .lst ys) hp
                  exact h _ _ S2 l1 p n1 n2 n3 ⟨_, upd_same, of_al al⟩
              · cases hs
        cases d with
        | lst xs =>
          obtain ⟨a, vs, rfl, hl, rs⟩ := o.lst S1.gh
          exact main a vs xs (.inl (SqL.of hl)) rs hd rfl
        | tup xs =>
          obtain ⟨a, vs, rfl, hl, _, rs⟩ := o.tup S1.gh
          exact main a vs xs (.inr hl) rs hd rfl
        | _ => simp [srtD] at hd
end
end DL
-- DL28
set_option maxRecDepth 100000
set_option maxHeartbeats 4000000
/-! DL28: min, max of one list or tuple of ints; min of a list of tuples of ints. -/
namespace DLS
open PySem PyProof.Rows Srt SrtO TS
section
variable {prog : Program} {w : World} {A : Around} {E : Value → Shared → Prop} {s : Shared}
theorem iter_tupK {l : Addr} {xs : Array Value} {Q : Value → Shared → Prop} (hl : s.heap.IsTuple l xs)
    (h : ∀ s₂ : Shared, s₂ = { s with heap := s.heap.push { cls := .type "tuple_iterator", data := .fields #[.ref l, .int 0 0] } } →
      (s₂.heap.IsTupleIter s.heap.objs.size l 0 ∧ s₂.heap.IsTuple l xs) → (∀ b ∈ [s.heap.objs.size, l], b < s₂.heap.objs.size) → l ≠ s.heap.objs.size → Q (.ref s.heap.objs.size) s₂) :
    wpAny (model prog w) A (pyIter (.ref l)) Q E s := by
  have hlt : l < s.heap.objs.size := by obtain ⟨_, e, _⟩ := hl; exact Heap.lt_size e
  refine wpAny_pyIter_tuple hl (h _ rfl ⟨⟨_, Heap.get?_push_size _ rfl, rfl, rfl⟩, Heap.IsTuple.push hl _⟩ (fun b hb => ?_) (Nat.ne_of_lt hlt))
  show b < (s.heap.push _).objs.size
  rw [Heap.size_push]
  rcases List.mem_cons.mp hb with rfl | hb
  · exact Nat.lt_succ_self _
  · rcases List.mem_cons.mp hb with rfl | hb
    · exact Nat.lt_succ_of_lt hlt
    · cases hb
theorem kept_push {h' : Heap} {o0 : Obj} (hk : ∀ b o, b ∉ [s.heap.objs.size] → (s.heap.push o0).get? b = some o → h'.get? b = some o) :
    ∀ b o, s.heap.get? b = some o → h'.get? b = some o := fun b o e => by
  refine hk b o (fun hm => ?_) (Heap.get?_push_of_some _ e)
  rcases List.mem_cons.mp hm with e1 | hm
  · exact absurd (e1 ▸ Heap.lt_size e) (Nat.lt_irrefl _)
  · cases hm
theorem maxT_raw {l : Addr} {its : List Value} {ns : List Int} {Q : Value → Shared → Prop} (hh : A.handled = none) (hl : s.heap.IsTuple l its.toArray) (hi : IntsAre its ns) (hne : 0 < ns.length)
    (h : ∀ h' tk M t', (∀ b o, s.heap.get? b = some o → h'.get? b = some o) → M ∈ ns → (∀ a, a ∈ ns → a ≤ M) → Q (.int M t') { s with heap := h', toks := tk }) : wpAny (model prog w) A (call (.builtin "max") [.ref l]) Q E s := by
  have hlen := hi.length
  have hsz : its.toArray.size = ns.length := by simp [hlen]
  refine call_max_walk (iter_tupK hl fun s₂ e st hfp hlI => ?_)
  subst e
  have val : ∀ (i : Nat) (v : Value), its.toArray[i]? = some v → ∃ t, v = .int (ns.getD i 0) t := fun i v hv => by
    rw [List.getElem?_toArray] at hv
    exact hi.int_at i v hv
  refine ⟨_, _, _, _, _, _, _, rfl, Walks.tuple (A := A.in1) hh _ l hlI its.toArray, st, hfp, by omega, CmpOf.ints_gt (fun i => ns.getD i 0) val, fun v h' tk hP hk => ?_⟩
  obtain ⟨t, rfl⟩ := val _ _ hP
  obtain ⟨h1, h2⟩ := argBest_gt (fun i => ns.getD i 0) (its.toArray.size - 1)
  refine h h' tk _ t (kept_push hk) ?_ fun a ha => ?_
  · exact PySem.getD_mem (by omega)
  · obtain ⟨j, hj, rfl⟩ := PySem.mem_getD ha
    exact h2 j (by omega)
theorem minT_raw {l : Addr} {its : List Value} {ns : List Int} {Q : Value → Shared → Prop} (hh : A.handled = none) (hl : s.heap.IsTuple l its.toArray) (hi : IntsAre its ns) (hne : 0 < ns.length)
    (h : ∀ h' tk M t', (∀ b o, s.heap.get? b = some o → h'.get? b = some o) → M ∈ ns → (∀ a, a ∈ ns → M ≤ a) → Q (.int M t') { s with heap := h', toks := tk }) : wpAny (model prog w) A (call (.builtin "min") [.ref l]) Q E s := by
  have hlen := hi.length
  have hsz : its.toArray.size = ns.length := by simp [hlen]
  refine call_min_walk (iter_tupK hl fun s₂ e st hfp hlI => ?_)
  subst e
  have val : ∀ (i : Nat) (v : Value), its.toArray[i]? = some v → ∃ t, v = .int (ns.getD i 0) t := fun i v hv => by
    rw [List.getElem?_toArray] at hv
    exact hi.int_at i v hv
  refine ⟨_, _, _, _, _, _, _, rfl, Walks.tuple (A := A.in1) hh _ l hlI its.toArray, st, hfp, by omega, CmpOf.ints_lt (fun i => ns.getD i 0) val, fun v h' tk hP hk => ?_⟩
  obtain ⟨t, rfl⟩ := val _ _ hP
  obtain ⟨h1, h2⟩ := argBest_lt (fun i => ns.getD i 0) (its.toArray.size - 1)
  refine h h' tk _ t (kept_push hk) ?_ fun a ha => ?_
  · exact PySem.getD_mem (by omega)
  · obtain ⟨j, hj, rfl⟩ := PySem.mem_getD ha
    exact h2 j (by omega)
/-! min of a list of tuples of ints -/
theorem argBest_lex (f : Nat → List Int) : ∀ k, argBest (fun i j => HT.lexLt (f i) (f j)) k ≤ k ∧ ∀ j, j ≤ k → HT.lexLt (f j) (f (argBest (fun i j => HT.lexLt (f i) (f j)) k)) = false
  | 0 => ⟨Nat.le_refl _, fun j hj => by
      obtain rfl : j = 0 := by omega
      exact (DL.swoL).refl _⟩
  | k + 1 => by
    obtain ⟨h1, h2⟩ := argBest_lex f k
    simp only [argBest]
    split
    · rename_i hb
      refine ⟨Nat.le_refl _, fun j hj => ?_⟩
      by_cases e : j = k + 1
      · rw [e]; exact (DL.swoL).refl _
      · have := h2 j (by omega)
        exact DL.swoL.tr _ _ _ (DL.swoL.asym _ _ hb) this
    · rename_i hb
      refine ⟨by omega, fun j hj => ?_⟩
      by_cases e : j = k + 1
      · rw [e]; cases q : HT.lexLt (f (k + 1)) (f (argBest (fun i j => HT.lexLt (f i) (f j)) k)) <;> simp_all
      · exact h2 j (by omega)
theorem minL_raw {l : Addr} {its : List Value} {Q : Value → Shared → Prop} (hh : A.handled = none) (hu : A.units + 1 < cLine) (hl : s.heap.IsList l its.toArray) (hi : AllT s.heap its) (hne : 0 < its.length)
    (h : ∀ h' tk v, (∀ b o, s.heap.get? b = some o → h'.get? b = some o) → v ∈ its → (∀ a ∈ its, HT.lexLt (intsOf s.heap a) (intsOf s.heap v) = false) → Q v { s with heap := h', toks := tk }) : wpAny (model prog w) A (call (.builtin "min") [.ref l]) Q E s := by
  have hsz : its.toArray.size = its.length := by simp
  have hlt : l < s.heap.objs.size := by obtain ⟨_, e, _⟩ := hl; exact Heap.lt_size e
  refine call_min_walkH (wpAny_pyIter_list hl ?_)
  have hget : ∀ (i : Nat) (v : Value), its.toArray[i]? = some v → v ∈ its ∧ its.getD i .none = v := fun i v hv => by
    rw [List.getElem?_toArray] at hv
    exact ⟨List.mem_of_getElem? hv, by rw [List.getD_eq_getElem?_getD, hv]; rfl⟩
  refine ⟨s.heap.objs.size, [s.heap.objs.size, l], [s.heap.objs.size], _, its.toArray.size, _, _, s.heap, fun i j => HT.lexLt (intsOf s.heap (its.getD i .none)) (intsOf s.heap (its.getD j .none)), rfl,
    (Walks.list (A := A.in1) hh s.heap.objs.size l (Nat.ne_of_lt hlt) its.toArray).toS, ⟨⟨_, Heap.get?_push_size _ rfl, rfl, rfl⟩, hl.push _⟩, fun b hb => ?_, by omega, fun b o e hm => ?_, fun b o e => Heap.get?_push_of_some _ e, fun i j vi vj s' Q' E' hk hi' hj' hq => ?_, fun v s' hP hm => ?_⟩
  · show b < (s.heap.push _).objs.size
    rw [Heap.size_push]
    rcases List.mem_cons.mp hb with rfl | hb
    · exact Nat.lt_succ_self _
    · rcases List.mem_cons.mp hb with rfl | hb
      · exact Nat.lt_succ_of_lt hlt
      · cases hb
  · rcases List.mem_cons.mp hm with e1 | hm
    · exact absurd (e1 ▸ Heap.lt_size e) (Nat.lt_irrefl _)
    · cases hm
  · obtain ⟨m1, e1⟩ := hget i vi hi'
    obtain ⟨m2, e2⟩ := hget j vj hj'
    simp only [e1, e2] at hq
    obtain ⟨a, xs, ea, ha, ia⟩ := (hi vi m1).keeps (h' := s'.heap) fun b o z _ => hk b o z
    obtain ⟨b, ys, eb, hb, ib⟩ := (hi vj m2).keeps (h' := s'.heap) fun b o z _ => hk b o z
    have z := HT.lt_tupInts (prog := prog) (w := w) (A := A.in1) (E := E') (s := s') (Q := Q') ha hb ia ib hu hq
    rw [ea, eb]
    exact z
  · obtain ⟨m1, e1⟩ := hget _ v hP
    obtain ⟨h1, h2⟩ := argBest_lex (fun i => intsOf s.heap (its.getD i .none)) (its.toArray.size - 1)
    have z := h s'.heap s'.toks v (fun b o e => hm.heap b o (fun hm => by
      rcases List.mem_cons.mp hm with e1 | hm
      · exact absurd (e1 ▸ Heap.lt_size e) (Nat.lt_irrefl _)
      · cases hm) (Heap.get?_push_of_some _ e)) m1 (fun a ha => by
        obtain ⟨j, hj, ej⟩ := List.getElem_of_mem ha
        have q := h2 j (by omega)
        have ej' : its.getD j .none = a := by rw [List.getD_eq_getElem?_getD, List.getElem?_eq_getElem hj, ej]; rfl
        simp only [ej', e1] at q
        exact q)
    have es : s' = { s with heap := s'.heap, toks := s'.toks } := by
      obtain ⟨h1, h2, h3, h4, h5⟩ := s'
      have g1 := hm.gens
      have g2 := hm.drawn
      have g3 := hm.os
      simp only at g1 g2 g3
      subst g1 g2 g3
      rfl
    rw [es]
    exact z
end
end DLS

namespace DL
open PySem PySem.Spec PyProof.Rows L2 Srt SrtO
/-! ### on data -/
def minI : List Int → Option Int
  | [] => none
  | x :: xs => some (xs.foldl (fun a b => if b < a then b else a) x)
def maxI : List Int → Option Int
  | [] => none
  | x :: xs => some (xs.foldl (fun a b => if a < b then b else a) x)
def minL : List (List Int) → Option (List Int)
  | [] => none
  | x :: xs => some (xs.foldl (fun a b => if HT.lexLt b a then b else a) x)
theorem minI_fold : ∀ (xs : List Int) (x : Int), let m := xs.foldl (fun a b => if b < a then b else a) x; m ∈ x :: xs ∧ ∀ a ∈ x :: xs, m ≤ a
  | [], x => ⟨List.mem_cons_self .., fun a h => by simp at h; subst h; exact Int.le_refl _⟩
  | y :: ys, x => by
    obtain ⟨h1, h2⟩ := minI_fold ys (if y < x then y else x)
    simp only [List.foldl_cons]
    generalize ys.foldl _ _ = m at h1 h2 ⊢
    refine ⟨?_, fun a ha => ?_⟩
    · rcases List.mem_cons.mp h1 with e | h
      · rw [e]
        split <;> simp
      · exact List.mem_cons_of_mem _ (List.mem_cons_of_mem _ h)
    · have k := h2 _ (List.mem_cons_self ..)
      rcases List.mem_cons.mp ha with e | ha
      · subst e; split at k <;> omega
      · rcases List.mem_cons.mp ha with e | ha
        · subst e; split at k <;> omega
        · exact h2 a (List.mem_cons_of_mem _ ha)
theorem maxI_fold : ∀ (xs : List Int) (x : Int), let m := xs.foldl (fun a b => if a < b then b else a) x; m ∈ x :: xs ∧ ∀ a ∈ x :: xs, a ≤ m
  | [], x => ⟨List.mem_cons_self .., fun a h => by simp at h; subst h; exact Int.le_refl _⟩
  | y :: ys, x => by
    obtain ⟨h1, h2⟩ := maxI_fold ys (if x < y then y else x)
    simp only [List.foldl_cons]
    generalize ys.foldl _ _ = m at h1 h2 ⊢
    refine ⟨?_, fun a ha => ?_⟩
    · rcases List.mem_cons.mp h1 with e | h
      · rw [e]
        split <;> simp
      · exact List.mem_cons_of_mem _ (List.mem_cons_of_mem _ h)
    · have k := h2 _ (List.mem_cons_self ..)
      rcases List.mem_cons.mp ha with e | ha
      · subst e; split at k <;> omega
      · rcases List.mem_cons.mp ha with e | ha
        · subst e; split at k <;> omega
        · exact h2 a (List.mem_cons_of_mem _ ha)
theorem minL_fold : ∀ (xs : List (List Int)) (x : List Int), let m := xs.foldl (fun a b => if HT.lexLt b a then b else a) x; m ∈ x :: xs ∧ ∀ a ∈ x :: xs, HT.lexLt a m = false
  | [], x => ⟨List.mem_cons_self .., fun a h => by simp at h; subst h; exact swoL.refl _⟩
  | y :: ys, x => by
    obtain ⟨h1, h2⟩ := minL_fold ys (if HT.lexLt y x then y else x)
    simp only [List.foldl_cons]
    generalize ys.foldl _ _ = m at h1 h2 ⊢
    refine ⟨?_, fun a ha => ?_⟩
    · rcases List.mem_cons.mp h1 with e | h
      · rw [e]
        split <;> simp
      · exact List.mem_cons_of_mem _ (List.mem_cons_of_mem _ h)
    · have k := h2 _ (List.mem_cons_self ..)
      rcases List.mem_cons.mp ha with e | ha
      · subst e
        split at k
        · rename_i hb
          exact swoL.tr _ _ _ k (swoL.asym _ _ hb)
        · exact k
      · rcases List.mem_cons.mp ha with e | ha
        · subst e
          split at k
          · exact k
          · rename_i hb
            exact swoL.tr _ _ _ k (by cases q : HT.lexLt a x <;> simp_all)
        · exact h2 a (List.mem_cons_of_mem _ ha)
theorem minI_of {ns : List Int} {M : Int} (h1 : M ∈ ns) (h2 : ∀ a, a ∈ ns → M ≤ a) : minI ns = some M := by
  cases ns with
  | nil => cases h1
  | cons x xs =>
    obtain ⟨k1, k2⟩ := minI_fold xs x
    have a := h2 _ k1
    have b := k2 _ h1
    unfold minI
    rw [Option.some.injEq]
    omega
theorem maxI_of {ns : List Int} {M : Int} (h1 : M ∈ ns) (h2 : ∀ a, a ∈ ns → a ≤ M) : maxI ns = some M := by
  cases ns with
  | nil => cases h1
  | cons x xs =>
    obtain ⟨k1, k2⟩ := maxI_fold xs x
    have a := h2 _ k1
    have b := k2 _ h1
    unfold maxI
    rw [Option.some.injEq]
    omega
theorem minL_of {ns : List (List Int)} {M : List Int} (h1 : M ∈ ns) (h2 : ∀ a, a ∈ ns → HT.lexLt a M = false) : minL ns = some M := by
  cases ns with
  | nil => cases h1
  | cons x xs =>
    obtain ⟨k1, k2⟩ := minL_fold xs x
    unfold minL
    rw [Option.some.injEq]
    exact antiL _ _ (h2 _ k1) (k2 _ h1)
def minA (ds : List D) : Option D := match intsOf ds with
  | some is => (minI is).map .int
  | none => none
def minD : D → Option D
  | .tup ds => minA ds
  | .lst ds => match minA ds with
    | some d => some d
    | none => match tupsI ds with
      | some l => (minL l).map fun is => .tup (is.map .int)
      | none => none
  | _ => none
def maxD : D → Option D
  | .tup ds => match intsOf ds with
    | some is => (maxI is).map .int
    | none => none
  | .lst ds => match intsOf ds with
    | some is => (maxI is).map .int
    | none => none
  | _ => none
section
variable {X : Cx}
theorem VRels.mem' {T : Stt} {G : Hp} : ∀ {vs : List V} {ls : List (List Int)}, VRels T G vs (dTups ls) → ∀ v ∈ vs, ∃ is : List Int, VRel T G v (.tup (is.map .int))
  | _, [], .nil, v, h => by cases h
  | _, is :: ls, .cons r rs, v, h => by
    rcases List.mem_cons.mp h with e | h
    · subst e; exact ⟨is, r⟩
    · exact rs.mem' v h
/-- the ints of the tuples, read off the heap -/
theorem Inv_tups {pins : List (Addr × Obj)} {σ : L2.St} {G H : Hp} {s : Shared} (I : L2.Inv X pins σ H s) (l : Le G H) : ∀ {vs : List V} {its : List Value} {ls : List (List Int)}, Vals vs its → VRels ⟨X.K, X.mg⟩ G vs (dTups ls) →
    its.map (TS.intsOf s.heap) = ls ∧ DLS.AllT s.heap its ∧ ∀ u ∈ its, ∃ v, RelV v u ∧ VRel ⟨X.K, X.mg⟩ G v (.tup ((TS.intsOf s.heap u).map .int))
  | _, _, [], .nil, .nil => ⟨rfl, (fun u hu => by cases hu), (fun u hu => by cases hu)⟩
  | _, _, is :: ls, .cons r1 rv, .cons r rs => by
    obtain ⟨e1, e2, e3⟩ := Inv_tups I l rv rs
    have r' := r
    cases r with
    | tup h q =>
      have hq := h.sq l
      rw [q.ints] at hq
      cases r1
      obtain ⟨jts, rj, pj, _⟩ := I.tuple hq
      have t1 : TS.TupInts s.heap (.ref _) is := ⟨_, jts.toArray, rfl, pj, by simpa using rj.ints⟩
      refine ⟨by rw [List.map_cons, t1.ints, e1], fun u hu => ?_, fun u hu => ?_⟩
      · rcases List.mem_cons.mp hu with e | hu
        · rw [e, t1.ints]; exact t1
        · exact e2 u hu
      · rcases List.mem_cons.mp hu with e | hu
        · subst e; exact ⟨.ref _, rfl, by rw [t1.ints]; exact r'⟩
        · exact e3 u hu
theorem c_min (hc : X.calm = true) (hu : X.A.units + 1 < cLine) : Call1 X (.builtin "min") minD := by
  intro pins s σ H vs us Q I r h
  obtain ⟨v, rfl, G, d, z, l, o, hz, k⟩ := h
  cases d with
  | tup ds =>
    obtain ⟨a, vs, rfl, hq, _, rs⟩ := o.tup l
    rw [Vals.ref1 r]
    unfold minD minA at hz
    cases hi : intsOf ds with
    | none => simp [hi] at hz
    | some is =>
      simp only [hi] at hz
      rw [intsOf_eq hi] at rs
      rw [rs.ints] at hq
      obtain ⟨its, rv, hl, hsz⟩ := I.tuple hq
      have hne : 0 < is.length := by cases is with
        | nil => simp [minI] at hz
        | cons x xs => simp
      refine DLS.minT_raw (I.ok.hd hc) (show s.heap.IsTuple a its.toArray from hl) rv.ints hne fun h' tk m t' hk h1 h2 => ?_
      rw [minI_of h1 h2] at hz
      cases hz
      exact ⟨.int _, H, I.kept hk, ⟨_, rfl⟩, k.same l (.int _)⟩
  | lst ds =>
    obtain ⟨a, vs, rfl, hq, rs⟩ := o.lst l
    rw [Vals.ref1 r]
    unfold minD at hz
    simp only at hz
    cases hi : intsOf ds with
    | some is =>
      have e : ds = is.map .int := intsOf_eq hi
      rw [e] at rs
      rw [rs.ints] at hq
      obtain ⟨its, rv, hl, hsz⟩ := I.list (SqL.of hq)
      by_cases hne : 0 < is.length
      · refine L2.min_raw (I.ok.hd hc) hl.isList rv.ints hne fun h' tk m t' hk h1 h2 => ?_
        have hm : minA ds = some (.int m) := by unfold minA; simp only [hi, minI_of h1 h2]; rfl
        rw [hm] at hz
        cases hz
        exact ⟨.int _, H, I.kept hk, ⟨_, rfl⟩, k.same l (.int _)⟩
      · obtain rfl : is = [] := by cases is with
          | nil => rfl
          | cons x xs => simp at hne
        have e' : ds = [] := by simpa using e
        subst e'
        simp [minA, intsOf, minI, tupsI, minL] at hz
    | none =>
      have hm : minA ds = none := by unfold minA; simp only [hi]
      rw [hm] at hz
      simp only at hz
      cases ht : tupsI ds with
      | none => simp [ht] at hz
      | some ls =>
        simp only [ht] at hz
        rw [tupsI_eq ht] at rs
        obtain ⟨its, rv, hl, hsz⟩ := I.list (SqL.of hq)
        obtain ⟨e1, e2, e3⟩ := Inv_tups I l rv rs
        have hne : 0 < its.length := by
          cases ls with
          | nil => simp [minL] at hz
          | cons x xs => have := congrArg List.length e1; simp at this; omega
        refine DLS.minL_raw (I.ok.hd hc) hu hl.isList e2 hne fun h' tk v hk h1 h2 => ?_
        have hml : minL ls = some (TS.intsOf s.heap v) := by
          rw [← e1]
          refine minL_of (List.mem_map_of_mem h1) fun a ha => ?_
          obtain ⟨u, hu, rfl⟩ := List.mem_map.mp ha
          exact h2 u hu
        rw [hml] at hz
        cases hz
        obtain ⟨x, rx, vx⟩ := e3 v h1
        exact ⟨x, H, I.kept hk, rx, k.same l vx⟩
  | _ => simp [minD] at hz
theorem c_max (hc : X.calm = true) : Call1 X (.builtin "max") maxD := by
  intro pins s σ H vs us Q I r h
  obtain ⟨v, rfl, G, d, z, l, o, hz, k⟩ := h
  cases d with
  | tup ds =>
    obtain ⟨a, vs, rfl, hq, _, rs⟩ := o.tup l
    rw [Vals.ref1 r]
    unfold maxD at hz
    simp only at hz
    cases hi : intsOf ds with
    | none => simp [hi] at hz
    | some is =>
      simp only [hi] at hz
      rw [intsOf_eq hi] at rs
      rw [rs.ints] at hq
      obtain ⟨its, rv, hl, hsz⟩ := I.tuple hq
      have hne : 0 < is.length := by cases is with
        | nil => simp [maxI] at hz
        | cons x xs => simp
      refine DLS.maxT_raw (I.ok.hd hc) (show s.heap.IsTuple a its.toArray from hl) rv.ints hne fun h' tk m t' hk h1 h2 => ?_
      rw [maxI_of h1 h2] at hz
      cases hz
      exact ⟨.int _, H, I.kept hk, ⟨_, rfl⟩, k.same l (.int _)⟩
  | lst ds =>
    obtain ⟨a, vs, rfl, hq, rs⟩ := o.lst l
    rw [Vals.ref1 r]
    unfold maxD at hz
    simp only at hz
    cases hi : intsOf ds with
    | none => simp [hi] at hz
    | some is =>
      simp only [hi] at hz
      rw [intsOf_eq hi] at rs
      rw [rs.ints] at hq
      obtain ⟨its, rv, hl, hsz⟩ := I.list (SqL.of hq)
      have hne : 0 < is.length := by cases is with
        | nil => simp [maxI] at hz
        | cons x xs => simp
      refine L2.max_raw (I.ok.hd hc) hl.isList rv.ints hne fun h' tk m t' hk h1 h2 => ?_
      rw [maxI_of h1 h2] at hz
      cases hz
      exact ⟨.int _, H, I.kept hk, ⟨_, rfl⟩, k.same l (.int _)⟩
  | _ => simp [maxD] at hz
end
end DL
-- DL29a
set_option maxRecDepth 100000
set_option maxHeartbeats 4000000
/-! DL29a: dict comprehensions whose keys are tuples. -/
namespace L2
open PySem PySem.Spec PyProof.Rows
variable {X : Cx}
/-- D[y] = z by a comprehension: one key more, or another value -/
theorem putT_dict {pins : List (Addr × Obj)} {σ : St} {H H' : Hp} {s : Shared} {E : Value → Shared → Prop} {D : Addr} {y z : V} {u r : Value} {Q : Unit → Shared → Prop} (hu : X.A.units < cLine) (I : Inv X pins σ H s) (g : DPut H D y z H')
    (ry : RelV y u) (rz : RelV z r) (h : ∀ s', Inv X pins σ H' s' → Q () s') : wpAny (model X.prog X.w) X.A (dictSet D u r) Q E s := by
  rcases g with ⟨kvs, k, e, rfl, l, rfl⟩ | ⟨kvs, k, b, e, rfl, eb, l, rfl⟩
  · exact d_dictSet I e l ry rz h
  · cases ry
    obtain ⟨hz, hd, xs, rel, dd⟩ := dt_of I.hok e
    have l1 : xs.length ≤ sizeLine := by rw [← Paired.length rel]; exact hz
    have l2 : (putK kvs k z).length ≤ sizeLine := Nat.le_trans (length_putK kvs k z) (by omega)
    refine wpAny_dictSet_heap (hsz := l1) (show (tupleKind (mixKind X.prog X.w)).room X.A from hu) (key_of I.hok eb) dd fun h1 ⟨o, es, ep, w1, w2, w3, w4, _, w5⟩ sb => h _ ?_
    refine d_write I (by rw [e]; exact True.intro) sb ⟨o, w1⟩ ⟨l2, hd, _, (rel.put k eb rz).keeps fun c ys ec => ?_, o, es, ep, w1, w2, w3, w4, w5⟩
    rw [upd_ne (ne_of ec e (fun q => nomatch q))]
    exact ec
/-- what a walk does that fills the dict at D -/
def WkD (g : TG) (tt : TT) (tk tv : TE) (vs : List Nat) (σ : St) (J : It) (D : Addr) (W : Nat → Nat → Hp → Prop) (Q : Hp → Prop) : Prop := ∀ i m H, W i m H →
  (J.stop i H ∧ Q H) ∨ (J.go i H ∧ ∃ Nx : Hp → Prop, (∀ H', Nx H' → ∃ m', m' < m ∧ W (i + 1) m' H') ∧ ∀ x H', J.yld i H x H' → g x (wipe σ vs) H' fun σ2 H2 => wipe σ2 vs = wipe σ vs ∧ tt σ2 H2 fun b H3 =>
    if b = true then tk σ2 H3 fun y H4 => tv σ2 H4 fun z H5 => ∃ H6, DPut H5 D y z H6 ∧ Nx H6 else Nx H3)
/-- {k: v for target in iter if ..}, the keys tuples: D the new dict -/
def tDcT (wi : TI) (g : TG) (tt : TT) (tk tv : TE) (vs : List Nat) : TE := fun σ H Q => wi σ H fun J H1 => ∀ D, H1 D = none → ∃ W : Nat → Nat → Hp → Prop, (∃ m, W 0 m (upd H1 D (.dT []))) ∧ WkD g tt tk tv vs σ J D W fun H2 => Q (.ref D) H2
section
variable {kx vx tg iter : Expr} {ifs : List Expr} {scope : Scope} {own : List (Str × Nat)} {pos : Pos} {wi : TI} {g : TG} {tt : TT} {tk tv : TE}
/-- the block's turns: from a state at the head of the loop to its end -/
theorem dct_turns {σ : St} {H3 : Hp} {s3 : Shared} {ce : Env} {vs : List Nat} {J : It} {fp : List Addr} {it D : Addr} {tn : Nat → Heap → Prop} {W : Nat → Nat → Hp → Prop} {Qe : Hp → Prop} {R : Result → Shared → Prop}
    (hu : X.A.units < cLine) (hc : X.calm = true) (T : Turn X.prog X.w X.K tg J fp it tn) (pg : PG (X.blk s3 H3 scope ce fp) tg g) (pt : PTs (X.blk s3 H3 scope ce fp) ifs tt) (pk : PE (X.blk s3 H3 scope ce fp) kx tk) (pv : PE (X.blk s3 H3 scope ce fp) vx tv)
    (wk : WkD g tt tk tv vs σ J D W Qe) (fin : ∀ s' H', Inv (X.blk s3 H3 scope ce fp) [] (wipe σ vs) H' s' → Qe H' → R (.ok .next) s')
    {m0 : Nat} {s4 : Shared} (I4 : Inv (X.blk s3 H3 scope ce fp) [] (wipe σ vs) H3 s4) (st4 : tn 0 s4.heap) (nf : ∀ b ∈ fp, H3 b = none) (w0 : W 0 m0 H3) :
    codeAny (model X.prog X.w) X.A (.compLoop (.DictComp kx vx [⟨tg, iter, ifs, 0⟩] scope pos) 0 (.ref it) (.ref D) ce) R s4 := by
  -- the walker's objects are out of reach
  have away : ∀ {σ' : St} {H' : Hp} {s' : Shared}, Inv (X.blk s3 H3 scope ce fp) [] σ' H' s' → (∀ b ∈ fp, H' b = none) → ∀ b ∈ fp, FpOk (X.blk s3 H3 scope ce fp) [] H' b := fun I' n b hb =>
    ⟨n b hb, (I'.ok.exf b hb).1, I'.ok.exfs b hb, .inl hb, fun x c e => (I'.ok.exf b hb).2 x c e, fun p hp => by simp [Cx.blk] at hp⟩
  refine compLoop_anyD (fun n s' => ∃ i H', Inv (X.blk s3 H3 scope ce fp) [] (wipe σ vs) H' s' ∧ tn i s'.heap ∧ (∀ b ∈ fp, H' b = none) ∧ W i n H') ?_ m0 ⟨0, H3, I4, st4, nf, w0⟩
  rintro n s5 ⟨i, H5, I5, st5, n5, w5⟩
  rcases wk i n H5 w5 with ⟨stop, q⟩ | ⟨go, Nx, hNx, step⟩
  · refine thnF (T.done (X.blk s3 H3 scope ce fp) rfl rfl rfl hc i [] s5 _ H5 (fun _ _ => False) I5 (away I5 n5) st5 stop) fun r s6 ⟨hr, I6⟩ => ?_
    subst hr
    exact fin s6 H5 I6 q
  · refine thnF (T.item (X.blk s3 H3 scope ce fp) rfl rfl rfl hc i [] s5 _ H5 (fun _ _ => False) I5 (away I5 n5) st5 go) fun r s6 ⟨u, hr, h6⟩ => ?_
    subst hr
    refine thnF h6 fun _ s7 ⟨x, H7, I7, r7, y7, st7, n7⟩ => ?_
    refine thnF (pg.run _ s7 _ H7 x u _ (I7.pinned (away I7 n7) (T.obj _ _ st7)) r7 (step x H7 y7)) fun _ s8 ⟨σ8, H8, I8, hw, q8⟩ => ?_
    have back : ∀ {s' : Shared} {H' : Hp}, Inv (X.blk s3 H3 scope ce fp) ([] ++ pinsAt fp s7.heap) σ8 H' s' → Nx H' → ∃ m, m < n ∧ ∃ i H', Inv (X.blk s3 H3 scope ce fp) [] (wipe σ vs) H' s' ∧ tn i s'.heap ∧ (∀ b ∈ fp, H' b = none) ∧ W i m H' := fun {s' H'} I' nx => by
      obtain ⟨m', hm, w'⟩ := hNx H' nx
      have at7 : ∀ b ∈ fp, ∀ o, s7.heap.get? b = some o → s'.heap.get? b = some o ∧ H' b = none := fun b hb o e =>
        have z := I'.pin (b, o) (List.mem_append_right _ (List.mem_append_right _ (mem_pinsAt hb e)))
        ⟨z.1, z.2.1⟩
      refine ⟨m', hm, i + 1, H', (I'.unpinned (pins := [])).weak (by rw [← hw, wipe_length]) (fun j v e => (wipe_some (hw ▸ e)).1), T.keep _ _ _ st7 fun b hb o e => (at7 b hb o e).1, fun b hb => ?_, w'⟩
      obtain ⟨o, e, _⟩ := T.obj _ _ st7 b hb
      exact (at7 b hb o e).2
    refine thnF (pt.run _ s8 σ8 H8 _ I8 q8) fun b s9 ⟨H9, I9, q9⟩ => ?_
    cases b with
    | false =>
      simp only [Bool.false_eq_true, if_false] at q9 ⊢
      exact back I9 q9
    | true =>
      simp only [if_true] at q9 ⊢
      refine thnF (pk.run _ s9 σ8 H9 _ I9 q9) fun z1 s10 ⟨yk, H10, I10, r10, q10⟩ => ?_
      refine thnF (pv.run _ s10 σ8 H10 _ I10 q10) fun z2 s11 ⟨yv, H11, I11, r11, H12, dp, nx⟩ => ?_
      exact putT_dict (X := X.blk s3 H3 scope ce fp) hu I11 dp r10 r11 fun s12 I12 => back I12 nx
theorem pe_dcT (hu : X.A.units < cLine) (hc : X.calm = true) (hN : X.N.Nodup) (hi : PI X tg iter wi) (ok : BlkOk X.N X.env.scope scope own)
    (hg : ∀ (s : Shared) (H : Hp) (C : Addr) (cl : List (Str × Addr)) (fp : List Addr), PG (X.blk s H scope (compEnvC scope cl C X.env) fp) tg g) (ht : ∀ (s : Shared) (H : Hp) (C : Addr) (cl : List (Str × Addr)) (fp : List Addr), PTs (X.blk s H scope (compEnvC scope cl C X.env) fp) ifs tt)
    (hk : ∀ (s : Shared) (H : Hp) (C : Addr) (cl : List (Str × Addr)) (fp : List Addr), PE (X.blk s H scope (compEnvC scope cl C X.env) fp) kx tk)
    (he : ∀ (s : Shared) (H : Hp) (C : Addr) (cl : List (Str × Addr)) (fp : List Addr), PE (X.blk s H scope (compEnvC scope cl C X.env) fp) vx tv) (hs : ∀ x, foldedSetIterable iter X.env x = pure x := by intro _; rfl) :
    PE X (.DictComp kx vx [⟨tg, iter, ifs, 0⟩] scope pos) (tDcT wi g tt tk tv (own.map (·.2))) := by
  refine ⟨fun pins s σ H Q I h => ?_⟩
  rw [arm_eval_DictComp]
  have hfree : ∀ y ∈ scope.names, y.2 = .free → ∃ c, X.env.cells.lookup y.1 = some c := fun y hy e => (ok.free y hy e).elim (fun k => I.ok.has _ (.inl k)) fun k => I.ok.has _ (.inr k)
  refine wpAny_comprehension_free (use := none) rfl hs (closure_ok hfree) ok.kind (fun y hy e => by rw [ok.uniq y hy, e]) (thn (hi.run pins s σ H _ I h) fun xv s1 hx => thn hx fun itv s2 ⟨it, fp, tn, J, H2, e, I2, T, st2, f2, q⟩ => ?_)
  subst e
  refine wpAny_newObj_type (newEnv_comp ?_)
  obtain ⟨W, ⟨m0, w0⟩, wk⟩ := q s2.heap.objs.size (I2.hok.fresh (Nat.le_refl _))
  -- the dict stands
  have I3 : Inv X pins σ (upd H2 s2.heap.objs.size (.dT [])) { s2 with heap := s2.heap.push { cls := .type "dict", data := .dict #[] } } :=
    I2.laid (t' := s2.toks) (fun b o e => Heap.get?_push_of_some _ e) (Nat.le_refl _) (dt_empty s2.heap I2.big)
  have lt2 : ∀ b ∈ fp, b < s2.heap.objs.size := fun b hb => let ⟨o, e, _⟩ := T.obj _ _ st2 b hb; Heap.lt_size e
  have f3 : ∀ b ∈ fp, FpOk X pins (upd H2 s2.heap.objs.size (.dT [])) b := fun b hb => ⟨by rw [upd_ne (Nat.ne_of_lt (lt2 b hb))]; exact (f2 b hb).1, (f2 b hb).2⟩
  have st3 : tn 0 (s2.heap.push { cls := .type "dict", data := .dict #[] }) := T.keep _ _ _ st2 fun b _ o e => Heap.get?_push_of_some _ e
  generalize hs3 : ({ s2 with heap := s2.heap.push { cls := .type "dict", data := .dict #[] } } : Shared) = s3 at I3
  have h3 : s3.heap = s2.heap.push { cls := .type "dict", data := .dict #[] } := by rw [← hs3]
  rw [← h3] at st3
  generalize hD : s2.heap.objs.size = D at w0 wk I3 f3 hs3
  generalize hH3 : upd H2 D (.dT []) = H3 at I3 f3 w0
  have I4 := block_start I3 ok hN fun b hb => ⟨f3 b hb, by rw [h3, Heap.size_push]; exact Nat.lt_succ_of_lt (hD ▸ lt2 b hb)⟩
  have st4 : tn 0 (pushCells (s3.heap.push { cls := .type "dict", data := .dict #[] }) scope.names) := T.keep _ _ _ st3 fun b _ o e => pushCells_keeps _ _ _ _ (Heap.get?_push_of_some _ e)
  have loop := dct_turns (kx := kx) (vx := vx) (iter := iter) (pos := pos) (R := compPost (model X.prog X.w) X.A X.xe none (EP X pins σ Q) (.ref D) s3.heap.objs.size) hu hc T (hg s3 H3 s3.heap.objs.size (cellsFrom (s3.heap.objs.size + 1) scope.names (cloFrom X.env.cells scope.names [])) fp) (ht s3 H3 _ _ fp) (hk s3 H3 _ _ fp) (he s3 H3 _ _ fp) wk
    (fun s' H' I' q => by
      have I7 : Inv X pins σ H' s' := I3.call' (ch := fp) I'.os I'.base I'.hok I'.bare fun b hb => ⟨(f3 b hb).2.2.2.1, (f3 b hb).2.1, (f3 b hb).2.2.2.2.1, (f3 b hb).2.2.2.2.2⟩
      obtain ⟨m, hn, _⟩ := I'.loc
      have nC : H' s3.heap.objs.size = none := I'.free
      obtain ⟨f0, f1, f2, f3, f4, f5⟩ := I3.fpOk (H' := H') (Nat.le_refl _) nC
      exact ⟨m, hn, fun h'' sb => ⟨.ref D, H', I7.turned (t' := s'.toks) (fun b o hb e => (sb.2 b hb).trans e) f0 f1 f3 f4 f5, rfl, q⟩⟩)
    I4 st4 (fun b hb => (f3 b hb).1) w0
  exact codeAny_compStart_dict loop (T.self X.A 0 _ _ _ st4 loop)
end
end L2
-- DL29b
set_option maxRecDepth 100000
set_option maxHeartbeats 4000000
/-! DL29b: a dict with tuple keys merged into another, at the library's level. -/
namespace DLM
open PySem PySem.Spec
open Sem (wp)
section
variable {prog : Program} {w : World} {K : Type} [DecidableEq K] {knd : HeapKind prog w K} {A : Around} {E : Value → Shared → Prop} {s : Shared}
theorem dictPut_heap {d a : Addr} {xs : List (K × Addr × Value)} {k : K} {v : Value} {Q : Unit → Shared → Prop} (hu : knd.room A) (hkey : knd.is s.heap k a) (hm : s.heap.DictOfH knd d xs) (hsz : xs.length ≤ sizeLine)
    (hQ : ∀ h', h'.DictOfH knd d (storedH xs k a v) → Heap.SameBut d s.heap h' → Q () { s with heap := h' }) : wpAny (model prog w) A (dictPut d (knd.hash k) (.ref a) v) Q E s := by
  obtain ⟨o, es, ep, ho, hc, hd, he, his, hn⟩ := hm
  unfold dictPut
  refine wpAny_bind (wpAny_dictFind_heap hu hkey ho hd he his hn (fun hno => ?_) fun j p hj => ?_)
  · have hk := atKey_none_of_get hno
    have keep : ∀ {h' : Heap}, Heap.SameBut d s.heap h' → ∀ x ∈ storedH xs k a v, knd.is h' x.1 x.2.1 := fun sb x hx => by
      rw [storedH_new hk] at hx
      rcases List.mem_append.mp hx with hx | hx
      · exact knd.keeps (his x hx) ho hd sb
      · rw [List.mem_singleton.mp hx]; exact knd.keeps hkey ho hd sb
    refine wpAny_updateDictKeys (hz := by have e := size_of_entries he; omega) ho hd (hQ _ ⟨_, _, ep + 1, Heap.get?_update_self _ ho (Obj.isFreed_of_dict (Obj.data_mapDictKeys hd _)), hc.mapDictKeys _, Obj.data_mapDictKeys hd _, ?_, keep (Heap.SameBut.update ..), ?_⟩ (Heap.SameBut.update ..))
    · rw [storedH_new hk]
      simp [he, entryOfKey]
    · rw [storedH_new hk, List.map_append, List.nodup_append]
      refine ⟨hn, by simp, fun x hx y hy e => ?_⟩
      simp only [List.map_cons, List.map_nil, List.mem_singleton] at hy
      exact not_mem_keys_of_get hno (by rw [← hy, ← e]; exact hx)
  · have hk := atKey_of_get hn hj
    refine wpAny_updateDict ho hd (hQ _ ⟨_, _, ep, Heap.get?_update_self _ ho (Obj.isFreed_of_dict (Obj.data_mapDict hd _)), hc.mapDict _, Obj.data_mapDict hd _, ?_, ?_, ?_⟩ (Heap.SameBut.update ..))
    · rw [storedH_old hk]
      have := modify_map_putAt (entryOfKey knd) (fun e : DictEntry => { e with val := v }) k v (fun _ _ => rfl) hn hj
      rw [← he] at this
      obtain ⟨l⟩ := es
      simpa using this
    · rw [storedH_old hk]
      intro x hx
      obtain ⟨y, hy, rfl⟩ := List.mem_map.mp hx
      unfold putAt
      split <;> exact knd.keeps (his y hy) ho hd (Heap.SameBut.update ..)
    · rw [storedH_old hk, keys_map_putAt]; exact hn
theorem dictOfH_other {h h' : Heap} {d a : Addr} {xs : List (K × Addr × Value)} {o : Obj} {es : Array DictEntry} {ep : Nat} (hm : h.DictOfH knd a xs) (ho : h.get? d = some o) (hd : o.data = .dict es ep) (ne : a ≠ d) (sb : Heap.SameBut d h h') : h'.DictOfH knd a xs := by
  obtain ⟨o2, es2, ep2, ho2, hc2, hd2, he2, his2, hn2⟩ := hm
  exact ⟨o2, es2, ep2, (sb.2 a ne).trans ho2, hc2, hd2, he2, fun x hx => knd.keeps (his2 x hx) ho hd sb, hn2⟩
end
/-- no two of the keys have one hash -/
def HsOk {prog : Program} {w : World} {K : Type} [DecidableEq K] (knd : HeapKind prog w K) (ks : List K) : Prop := (ks.map knd.hash).Nodup
theorem filter_one {α : Type} {f : α → Int} {c : Int} : ∀ {l : List α}, (l.map f).Nodup → (l.filter fun x => f x == c).length ≤ 1
  | [], _ => Nat.zero_le _
  | x :: l, h => by
    have hp : f x ∉ l.map f ∧ (l.map f).Nodup := List.nodup_cons.mp h
    rw [List.filter_cons]
    split
    · rename_i hx
      have e : f x = c := by simpa using hx
      have z : l.filter (fun x => f x == c) = [] := List.filter_eq_nil_iff.mpr fun y hy hq => hp.1 (by
        have e2 : f y = c := by simpa using hq
        rw [e, ← e2]; exact List.mem_map_of_mem hy)
      rw [z]; simp
    · exact filter_one hp.2
section
variable {prog : Program} {w : World} {K : Type} [DecidableEq K] {knd : KeyKind prog w K} {A : Around} {E : Value → Shared → Prop}
theorem merge_tups {d a : Addr} {xs ys : List (List K × Addr × Value)} {s : Shared} {Q : Unit → Shared → Prop} (hu : (tupleKind knd).room A) (hd : s.heap.DictOfH (tupleKind knd) d xs) (ha : s.heap.DictOfH (tupleKind knd) a ys) (ne : a ≠ d) (hsys : (a == sysModules) = false)
    (hh : xs = [] → HsOk (tupleKind knd) (ys.map (·.1))) (hsz : xs.length + ys.length ≤ sizeLine) (hQ : ∀ h', h'.DictOfH (tupleKind knd) d (storedAllH xs ys) → Heap.SameBut d s.heap h' → Q () { s with heap := h' }) :
    wpAny (model prog w) A (mergeMapping d (.ref a) false) Q E s := by
  have hT : s.TypeIs (.ref a) "dict" := ha.typeIs
  unfold mergeMapping
  refine wpAny_bind (wpAny_isInstance hT F.sub_dict_dict ?_)
  simp only [if_true]
  refine wpAny_bind (wpAny_specialOf hT F.slot_dict_iter.lookup ?_)
  refine wpAny_bind (wpAny_pure ?_)
  have e1 : ((some (Value.builtin "dict.__iter__") : Option Value) == some (Value.builtin "dict.__iter__")) = true := by first | rfl | decide +kernel | simp
  rw [e1]
  dsimp only
  rw [if_neg (by rw [hsys]; decide)]
  obtain ⟨od, ed, epd, hod, hcd, hdd, hed, hisd, hnd⟩ := id hd
  obtain ⟨oa, ea, epa, hoa, hca, hda, hea, hisa, hna⟩ := id ha
  have lea := size_of_entries hea
  have led := size_of_entries hed
  refine wpAny_bind (wpAny_dictEntries hod hdd ?_)
  split
  rename_i hemp
  have hxs : xs = [] := by
    have : ed.size = 0 := by simpa [Array.isEmpty] using hemp
    exact List.eq_nil_of_length_eq_zero (by omega)
  have hhs : ((ea.toList).map (·.hash)).Nodup := by
    have z := hh hxs
    unfold HsOk at z
    rw [hea, List.map_map]
    rw [List.map_map] at z
    exact z
  refine wpAny_bind (wpAny_dictEntries hoa hda ?_)
  refine wpAny_bind (wpAny_mono (Q := fun _ s' => s' = s) ?chk (fun _ s' hs => ?_) fun _ _ x => x)
  case chk =>
    refine wpAny_forIn_array' _ (fun rest _ s' => s' = s ∧ ∀ e ∈ rest, e ∈ ea.toList) (fun _ s' => s' = s) (fun e rest b s' hI => ?_) (fun b s' hI => hI.1) ea _ ⟨rfl, fun e he => he⟩
    obtain ⟨rfl, hm⟩ := hI
    have hx := hm e (List.mem_cons_self ..)
    rw [hea] at hx
    obtain ⟨x, hx1, rfl⟩ := List.mem_map.mp hx
    have ht : Shared.TypeIs _ (.ref x.2.1) "tuple" := IsTupleKey.typeIs (hisa x hx1)
    show wpAny _ _ (specialOf (.ref x.2.1) "__eq__" >>= _) _ _ _
    refine wpAny_bind (wpAny_specialOf ht F.slot_tuple_eq.lookup ?_)
    have e2 : ((some (Value.builtin "tuple.__eq__") : Option Value) != some (Value.builtin "object.__eq__")) = true := by first | rfl | decide +kernel | simp
    rw [if_pos e2]
    have e3 : ¬ (Array.filter (fun y => y.hash == (entryOfKey (tupleKind knd) x).hash) ea).size > 1 := by
      have := filter_one (f := fun y : DictEntry => y.hash) (c := (entryOfKey (tupleKind knd) x).hash) hhs
      rw [← Array.length_toList, Array.toList_filter]
      omega
    rw [if_neg e3]
    exact wpAny_pure ⟨rfl, fun e he => hm e (List.mem_cons_of_mem _ he)⟩
  have hs2 : s = s' := hs.symm
  subst hs2
  all_goals
    refine wpAny_bind (wpAny_dictEntries hoa hda ?_)
    refine wpAny_bind (wpAny_dictEpoch hoa hda ?_)
    refine wpAny_bind (wpAny_mono (Q := fun _ s'' => ∃ h', s'' = { s with heap := h' } ∧ h'.DictOfH (tupleKind knd) d (storedAllH xs ys) ∧ Heap.SameBut d s.heap h') ?_ (fun _ s'' hs => ?_) fun _ _ x => x)
    rotate_left
    · obtain ⟨h', rfl, h1, h2⟩ := hs
      exact wpAny_pure (hQ h' h1 h2)
    refine wpAny_forIn_list _ (fun rest _ s' => ∃ (n : Nat) (h' : Heap), rest = (List.range ea.size).drop n ∧ s' = { s with heap := h' } ∧ h'.DictOfH (tupleKind knd) d (storedAllH xs (ys.take n)) ∧ Heap.SameBut d s.heap h') _ (fun i rest b s' hI => ?_) (fun b s' hI => ?_) _ _ ⟨0, s.heap, rfl, rfl, by simpa [storedAllH] using hd, Heap.SameBut.refl _ _⟩
    · obtain ⟨n, h', hr, rfl, hd2, sb⟩ := hI
      have hn : n < ea.size := by
        have := congrArg List.length hr
        simp at this
        omega
      have hi : i = n ∧ rest = (List.range ea.size).drop (n + 1) := by
        rw [List.drop_eq_getElem_cons (by simpa using hn)] at hr
        have := List.cons.inj hr
        simpa using this
      obtain ⟨rfl, rfl⟩ := hi
      have hy : ∃ y, ys[i]? = some y := ⟨_, List.getElem?_eq_getElem (by omega)⟩
      obtain ⟨y, hy⟩ := hy
      have hoa' : h'.get? a = some oa := (sb.2 a ne).trans hoa
      have hea' : ea[i]? = some (entryOfKey (tupleKind knd) y) := by rw [entry_at hea, hy]; rfl
      refine wpAny_bind (wpAny_dictEntries hoa' hda ?_)
      rw [hea']
      dsimp only
      have hmem : y ∈ ys := List.mem_of_getElem? hy
      have hk : (tupleKind knd).is h' y.1 y.2.1 := (tupleKind knd).keeps (hisa y hmem) hod hdd sb
      have len : (storedAllH xs (ys.take i)).length ≤ sizeLine := by
        have : ∀ (ps acc : List (List K × Addr × Value)), (storedAllH acc ps).length ≤ acc.length + ps.length := by
          intro ps
          induction ps with
          | nil => intro acc; exact Nat.le_refl _
          | cons p ps ih =>
            intro acc
            have z := ih (storedH acc p.1 p.2.1 p.2.2)
            have z2 := storedH_length acc p.1 p.2.1 p.2.2
            show (storedAllH (storedH acc p.1 p.2.1 p.2.2) ps).length ≤ _
            simp only [List.length_cons]
            omega
        have z := this (ys.take i) xs
        have z2 : (ys.take i).length ≤ ys.length := by rw [List.length_take]; omega
        omega
      refine wpAny_bind (wpAny_holding ?_)
      rw [if_neg (by decide)]
      show wpAny _ _ (dictPut d ((tupleKind knd).hash y.1) (.ref y.2.1) y.2.2) _ _ _
      refine dictPut_heap (knd := tupleKind knd) (k := y.1) (a := y.2.1) (v := y.2.2) (s := { s with heap := h' }) hu hk hd2 len fun h2 hd3 sb2 => ?_
      have hoa2 : h2.get? a = some oa := (sb2.2 a ne).trans hoa'
      refine wpAny_bind (wpAny_dictEpoch hoa2 hda ?_)
      rw [if_neg (by simp)]
      refine wpAny_pure ⟨i + 1, h2, rfl, rfl, ?_, sb.trans sb2⟩
      have e : ys.take (i + 1) = ys.take i ++ [y] := by rw [List.take_add_one, hy]; rfl
      rw [e]
      unfold storedAllH
      rw [List.foldl_append]
      exact hd3
    · obtain ⟨n, h', hr, rfl, hd2, sb⟩ := hI
      have hn : ea.size ≤ n := by
        have := congrArg List.length hr
        simp at this
        omega
      rw [List.take_of_length_le (by omega)] at hd2
      exact ⟨h', rfl, hd2, sb⟩
end
end DLM
-- DL29c
set_option maxRecDepth 100000
set_option maxHeartbeats 4000000
/-! DL29c: {**a, **b}, {**a, k: v}. -/
namespace L2
open PySem PySem.Spec PyProof.Rows
section
variable {prog : Program} {w : World} {A : Around} {E : Value → Shared → Prop} {s : Shared}
/-- v is merged into the dict at d, and nothing is raised -/
def MrgOk (prog : Program) (w : World) (A : Around) (d : Addr) (v : Value) (s : Shared) (R : Shared → Prop) : Prop := ∀ E' : Value → Shared → Prop, wpAny (model prog w) A (mergeMapping d v false) (fun _ s' => R s') E' s
theorem disp_two {m n : Sem Value} {Q : Value → Shared → Prop} (h : wpAny (model prog w) A m (fun v s1 => MrgOk prog w A s.heap.objs.size v s1 fun s2 => wpAny (model prog w) A n (fun u s3 => MrgOk prog w A s.heap.objs.size u s3 fun s4 => Q (.ref s.heap.objs.size) s4) E s2) E { s with heap := s.heap.push { cls := .type "dict", data := .dict #[] } }) :
    wpAny (model prog w) A (dictDisplay [(none, m), (none, n)]) Q E s := by
  unfold dictDisplay
  simp only [List.forIn_cons, List.forIn_nil]
  refine wpAny_bind (wpAny_bind (wpAny_bind (wpAny_pure ?_)))
  dsimp only
  refine wpAny_bind (wpAny_alloc ?_)
  refine wpAny_bind (wpAny_holding (wpAny_mono h (fun v s1 h1 => ?_) fun _ _ x => x))
  refine wpAny_bind (wpAny_onRaise (wpAny_tryCatch (wpAny_onRaise (wpAny_holding (wpAny_mono (h1 _) (fun _ s2 h2 => ?_) fun _ _ x => x)))))
  refine wpAny_pure ?_
  dsimp only
  refine wpAny_bind (wpAny_bind (wpAny_pure ?_))
  dsimp only
  refine wpAny_bind (wpAny_pure ?_)
  refine wpAny_bind (wpAny_holding (wpAny_mono h2 (fun u s3 h3 => ?_) fun _ _ x => x))
  refine wpAny_bind (wpAny_onRaise (wpAny_tryCatch (wpAny_onRaise (wpAny_holding (wpAny_mono (h3 _) (fun _ s4 h4 => ?_) fun _ _ x => x)))))
  refine wpAny_pure ?_
  dsimp only
  refine wpAny_pure ?_
  dsimp only
  refine wpAny_bind (wpAny_pure ?_)
  dsimp only
  exact wpAny_pure h4
theorem disp_pair {m k n : Sem Value} {Q : Value → Shared → Prop} (h : wpAny (model prog w) A m (fun v s1 => MrgOk prog w A s.heap.objs.size v s1 fun s2 => wpAny (model prog w) A (subDict [(k, n)]) (fun u s3 => MrgOk prog w A s.heap.objs.size (.ref u) s3 fun s4 => Q (.ref s.heap.objs.size) s4) E s2) E { s with heap := s.heap.push { cls := .type "dict", data := .dict #[] } }) :
    wpAny (model prog w) A (dictDisplay [(none, m), (some k, n)]) Q E s := by
  unfold dictDisplay
  simp only [List.forIn_cons, List.forIn_nil]
  refine wpAny_bind (wpAny_bind (wpAny_bind (wpAny_pure ?_)))
  dsimp only
  refine wpAny_bind (wpAny_alloc ?_)
  refine wpAny_bind (wpAny_holding (wpAny_mono h (fun v s1 h1 => ?_) fun _ _ x => x))
  refine wpAny_bind (wpAny_onRaise (wpAny_tryCatch (wpAny_onRaise (wpAny_holding (wpAny_mono (h1 _) (fun _ s2 h2 => ?_) fun _ _ x => x)))))
  refine wpAny_pure ?_
  dsimp only
  have e17 : (([] ++ [(k, n)] : List (Sem Value × Sem Value)).length == 17) = false := rfl
  rw [if_neg (by rw [e17]; decide)]
  refine wpAny_bind (wpAny_pure ?_)
  dsimp only
  refine wpAny_pure ?_
  dsimp only
  rw [if_neg (by simp)]
  refine wpAny_bind (wpAny_bind (wpAny_holding (wpAny_mono h2 (fun u s3 h3 => ?_) fun _ _ x => x)))
  refine wpAny_bind (wpAny_onRaise (wpAny_holding (wpAny_mono (h3 _) (fun _ s4 h4 => ?_) fun _ _ x => x)))
  refine wpAny_pure ?_
  dsimp only
  exact wpAny_pure h4
end

/-- the hash of a tuple of ints -/
def thI (is : List Int) : Int := reduceHash (Builtin.Tuple.tupleHashOf (is.map hashInt))
/-- tuples of ints, no two of one hash -/
def HsI (ks : List (List Key)) : Prop := ∃ is : List (List Int), ks = is.map (·.map Sum.inl) ∧ (is.map thI).Nodup
theorem hsOk_of {P : Program} {w : World} {ks : List (List Key)} (h : HsI ks) : DLM.HsOk (tupleKind (mixKind P w)) ks := by
  obtain ⟨is, rfl, h⟩ := h
  unfold DLM.HsOk
  rw [List.map_map]
  have e : is.map ((tupleKind (mixKind P w)).hash ∘ fun x => x.map Sum.inl) = is.map thI := List.map_congr_left fun k _ => by
    show reduceHash (Builtin.Tuple.tupleHashOf ((k.map Sum.inl).map (keyH w))) = thI k
    rw [List.map_map]
    rfl
  rw [e]
  exact h
/-- one dict merged into another -/
def mergeT (ks ls : List (List Key × V)) : List (List Key × V) := ls.foldl (fun acc p => putK acc p.1 p.2) ks
theorem mergeT_len : ∀ (ls ks : List (List Key × V)), (mergeT ks ls).length ≤ ks.length + ls.length
  | [], ks => Nat.le_refl _
  | p :: ls, ks => by
    have z := mergeT_len ls (putK ks p.1 p.2)
    have z2 := length_putK ks p.1 p.2
    show (mergeT (putK ks p.1 p.2) ls).length ≤ _
    simp only [List.length_cons]
    omega
theorem KT.merge {H : Hp} : ∀ {ls : List (List Key × V)} {ys : List (List Key × Addr × Value)}, KT H ls ys → ∀ {ks : List (List Key × V)} {xs : List (List Key × Addr × Value)}, KT H ks xs → KT H (mergeT ks ls) (storedAllH xs ys)
  | [], [], .nil, _, _, r => r
  | (k, v) :: ls, (k', b, u) :: ys, .cons h t, ks, xs, r => by
    obtain ⟨e, eb, rv⟩ := h
    dsimp only at e eb rv
    subst e
    exact KT.merge t (r.put k eb rv)
section
variable {X : Cx} {pins : List (Addr × Obj)} {σ : St} {H : Hp} {s : Shared}
theorem mrg_at {d a : Addr} {ks ls : List (List Key × V)} {A : Around} (hu : A.units < cLine) (I : Inv X pins σ H s) (hd : H d = some (.dT ks)) (ha : Rd H a (.dT ls)) (ne : a ≠ d) (hh : ks = [] → HsI (ls.map (·.1))) (hz : ks.length + ls.length ≤ sizeLine)
    {R : Shared → Prop} (h : ∀ s', Inv X pins σ (upd H d (.dT (mergeT ks ls))) s' → R s') : MrgOk X.prog X.w A d (.ref a) s R := by
  intro E'
  obtain ⟨_, yd, xs, rel, dd⟩ := dt_of I.hok hd
  obtain ⟨_, ya, ys, rel2, da⟩ := dt_rd I.hok ha
  have lx : ks.length = xs.length := Paired.length rel
  have ly : ls.length = ys.length := Paired.length rel2
  have keys : ∀ {ls : List (List Key × V)} {ys : List (List Key × Addr × Value)}, KT H ls ys → ys.map (·.1) = ls.map (·.1) := by
    intro ls ys r
    induction r with
    | nil => rfl
    | cons h t ih => rw [List.map_cons, List.map_cons, ih, h.1]
  refine DLM.merge_tups (knd := mixKind X.prog X.w) hu dd da ne ya (fun e => ?_) (by omega) fun h' ⟨o, es, ep, w1, w2, w3, w4, _, w5⟩ sb => h _ ?_
  · rw [keys rel2]
    exact hsOk_of (hh (List.eq_nil_of_length_eq_zero (by rw [lx, e]; rfl)))
  · refine d_write (t' := s.toks) I (by rw [hd]; exact True.intro) sb ⟨o, w1⟩ ⟨Nat.le_trans (mergeT_len ls ks) hz, yd, _, (KT.merge rel2 rel).keeps fun c ys ec => ?_, o, es, ep, w1, w2, w3, w4, w5⟩
    rw [upd_ne (ne_of ec hd (fun q => nomatch q))]
    exact ec
def tMrg2 (t1 t2 : TE) : TE := fun σ H Q => ∀ p, H p = none → t1 σ (upd H p (.dT [])) fun x H1 => H1 p = some (.dT []) ∧ ∃ a ks, x = .ref a ∧ a ≠ p ∧ Rd H1 a (.dT ks) ∧ HsI (ks.map (·.1)) ∧ ks.length ≤ sizeLine ∧
  t2 σ (upd H1 p (.dT (mergeT [] ks))) fun y H2 => H2 p = some (.dT (mergeT [] ks)) ∧ ∃ b ls, y = .ref b ∧ b ≠ p ∧ Rd H2 b (.dT ls) ∧ (mergeT [] ks = [] → HsI (ls.map (·.1))) ∧ (mergeT [] ks).length + ls.length ≤ sizeLine ∧ Q (.ref p) (upd H2 p (.dT (mergeT (mergeT [] ks) ls)))
theorem pe_mrg2 {e1 e2 : Expr} {t1 t2 : TE} {pos : Pos} (hu : X.A.units < cLine) (h1 : PE X e1 t1) (h2 : PE X e2 t2) : PE X (.Dict [none, none] [e1, e2] pos) (tMrg2 t1 t2) := by
  refine ⟨fun pins s σ H Q I h => ?_⟩
  rw [arm_eval_Dict]
  refine wpAny_bind (wpAny_standAt ?_)
  show wpAny _ _ (dictDisplay [(none, (do let x ← eval e1 X.env; standAt pos; pure x)), (none, (do let x ← eval e2 X.env; standAt pos; pure x))]) _ _ _
  have hn := I.hok.fresh (Nat.le_refl s.heap.objs.size)
  have I1 := I.laid (a := s.heap.objs.size) (o := .dT []) (h' := s.heap.push { cls := .type "dict", data := .dict #[] }) (t' := s.toks) (fun _ _ q => Heap.get?_push_of_some _ q) (Nat.le_refl _) (dt_empty s.heap I.big)
  refine disp_two (wpAny_bind (thn (h1.run pins _ σ _ _ I1 (h _ hn)) fun v s1 ⟨x, H1, I1, r1, e, a, ks, ex, ne, hr, hs, hz, q⟩ => wpAny_bind (wpAny_standAt (wpAny_pure ?_))))
  subst ex
  cases r1
  refine mrg_at hu I1 e hr ne (fun _ => hs) (by simpa using hz) fun s2 I2 => ?_
  refine wpAny_bind (thn (h2.run pins _ σ _ _ I2 q) fun v s3 ⟨y, H2, I3, r3, e', b, ls, ey, ne', hr', hs', hz', q'⟩ => wpAny_bind (wpAny_standAt (wpAny_pure ?_)))
  subst ey
  cases r3
  exact mrg_at hu I3 e' hr' ne' hs' hz' fun s4 I4 => ⟨.ref _, _, I4, rfl, q'⟩
def tMrgK (t1 tk tv : TE) : TE := fun σ H Q => ∀ p, H p = none → t1 σ (upd H p (.dT [])) fun x H1 => H1 p = some (.dT []) ∧ ∃ a ks, x = .ref a ∧ a ≠ p ∧ Rd H1 a (.dT ks) ∧ HsI (ks.map (·.1)) ∧ ks.length < sizeLine ∧
  ∀ r, upd H1 p (.dT (mergeT [] ks)) r = none → tk σ (upd (upd H1 p (.dT (mergeT [] ks))) r (.dT [])) fun y H2 => tv σ H2 fun z H3 => H3 r = some (.dT []) ∧ H3 p = some (.dT (mergeT [] ks)) ∧ r ≠ p ∧ ∃ b, ∃ k : List Int, y = .ref b ∧ H3 b = some (.tup (k.map V.int)) ∧
    Q (.ref p) (upd (upd H3 r (.dT [(k.map Sum.inl, z)])) p (.dT (putK (mergeT [] ks) (k.map Sum.inl) z)))
theorem pe_mrgK {e1 ek ev : Expr} {t1 tk tv : TE} {pos : Pos} (hu : X.A.units < cLine) (h1 : PE X e1 t1) (hk : PE X ek tk) (hv : PE X ev tv) : PE X (.Dict [none, some ek] [e1, ev] pos) (tMrgK t1 tk tv) := by
  refine ⟨fun pins s σ H Q I h => ?_⟩
  rw [arm_eval_Dict]
  refine wpAny_bind (wpAny_standAt ?_)
  show wpAny _ _ (dictDisplay [(none, (do let x ← eval e1 X.env; standAt pos; pure x)), (some (eval ek X.env), (do let x ← eval ev X.env; standAt pos; pure x))]) _ _ _
  have hn := I.hok.fresh (Nat.le_refl s.heap.objs.size)
  have I1 := I.laid (a := s.heap.objs.size) (o := .dT []) (h' := s.heap.push { cls := .type "dict", data := .dict #[] }) (t' := s.toks) (fun _ _ q => Heap.get?_push_of_some _ q) (Nat.le_refl _) (dt_empty s.heap I.big)
  refine disp_pair (wpAny_bind (thn (h1.run pins _ σ _ _ I1 (h _ hn)) fun v s1 ⟨x, H1, I1, r1, e, a, ks, ex, ne, hr, hs, hz, q⟩ => wpAny_bind (wpAny_standAt (wpAny_pure ?_))))
  subst ex
  cases r1
  refine mrg_at hu I1 e hr ne (fun _ => hs) (by simp; omega) fun s2 I2 => ?_
  generalize s.heap.objs.size = p at *
  have hn2 := I2.hok.fresh (Nat.le_refl s2.heap.objs.size)
  have I3 := I2.laid (a := s2.heap.objs.size) (o := .dT []) (h' := s2.heap.push { cls := .type "dict", data := .dict #[] }) (t' := s2.toks) (fun _ _ q => Heap.get?_push_of_some _ q) (Nat.le_refl _) (dt_empty s2.heap I2.big)
  refine PySem.wpAny_subDictH (knd := tupleKind (mixKind X.prog X.w)) hu (by simp) (evalPairs_cons (thn (hk.run pins _ σ _ _ I3 (q _ hn2)) fun u s3 ⟨y, H3, I4, r3, q3⟩ => wpAny_bind (thn (hv.run pins s3 σ H3 _ I4 q3) fun u2 s4 ⟨z, H4, I5, r4, hr2, hp2, nrp, b, k, ey, eb, q4⟩ => wpAny_bind (wpAny_standAt (wpAny_pure (evalPairs_nil ?_))))))
  subst ey
  cases r3
  have eb' : H4 b = some (.tup ((k.map Sum.inl : List Key).map kV)) := by rw [eb, List.map_map]; rfl
  obtain ⟨_, yd, xs, rel, dd⟩ := dt_of I5.hok hr2
  obtain rfl : xs = [] := by cases rel; rfl
  refine ⟨[(k.map Sum.inl, b, u2)], ⟨rfl, rfl, key_of I5.hok eb', True.intro⟩, dd, fun h' tk ⟨o, es, ep, w1, w2, w3, w4, _, w5⟩ sb => ?_⟩
  have rel2 : KT H4 [((k.map Sum.inl : List Key), z)] [((k.map Sum.inl : List Key), b, u2)] := .cons ⟨rfl, eb', r4⟩ .nil
  have I6 : Inv X pins σ (upd H4 s2.heap.objs.size (.dT [((k.map Sum.inl : List Key), z)])) { s4 with heap := h', toks := tk } := by
    refine d_write I5 (by rw [hr2]; exact True.intro) sb ⟨o, w1⟩ ⟨by show 1 ≤ sizeLine; decide, yd, _, rel2.keeps fun c ys ec => ?_, o, es, ep, w1, w2, w3, w4, w5⟩
    rw [upd_ne (ne_of ec hr2 (fun q => nomatch q))]
    exact ec
  have ml := mergeT_len ks []
  refine mrg_at hu I6 (ks := mergeT [] ks) (by rw [upd_ne (Ne.symm nrp)]; exact hp2) (.inl upd_same) nrp (fun _ => ⟨[k], rfl, by simp⟩) (by simp at *; omega) fun s5 I7 => ⟨.ref _, _, I7, rfl, ?_⟩
  exact q4
end
end L2
-- DL29
set_option maxRecDepth 100000
set_option maxHeartbeats 4000000
/-! DL29: dict comprehensions with tuple keys; {**a, **b}, {**a, k: v}. -/
namespace DL
open PySem PySem.Spec PyProof.Rows L2

/-! ### {k: v for ..}, the keys tuples -/
def loopD (tg : Tgt) (vs : List Nat) (tt : FB) (fk fv : FE) : List D → List (List Key) → List D → Ev → Out D
  | [], ks, ws, e => .ok (.dcT ks ws) (wipeE e vs)
  | d :: ds, ks, ws, e => match bindT tg d e with
    | none => .stk
    | some e1 => match tt e1 with
      | .ok true e2 => match fk e2 with
        | .ok a e3 => match frz e3 a with
          | some (y, e4) => match fv e4 with
            | .ok b e5 => match frz e5 b with
              | some (z, e6) => match keyT y with
                | some k => if ks.length < sizeLine then loopD tg vs tt fk fv ds (putD ks ws k z).1 (putD ks ws k z).2 (wipeE e6 vs) else .stk
                | none => .stk
              | none => .stk
            | _ => .stk
          | none => .stk
        | _ => .stk
      | .ok false e2 => loopD tg vs tt fk fv ds ks ws (wipeE e2 vs)
      | _ => .stk
def E.dc (it : FI) (tg : Tgt) (vs : List Nat) (tt : FB) (fk fv : FE) : FD := fun env => (it env).bind fun ds e => loopD tg vs tt fk fv ds [] [] (wipeE e vs)
section
variable {X : Cx} {kx vx tg iter : Expr} {ifs : List Expr} {scope : Scope} {own : List (Str × Nat)} {pos : Pos} {it : FI} {t : Tgt} {tt : FB} {fk fv : FE}
theorem tF_dc {T : Stt} {B : Bse} {W : WX} {vs : List Nat} (hv : ∀ j, j ∈ t.slots → j ∈ vs) {σ : St} {H : Hp} {Q : VK} (h : tF T B W (E.dc it t vs tt fk fv) σ H Q) :
    tDcT (tIt T B W it) (fun v σ H Q => ∃ B, gT T B t v σ H Q) (fun σ H Q => ∃ B, tT T B (fun _ _ _ _ => False) tt σ H Q) (fun σ H Q => ∃ B, tE T B (fun _ _ _ _ => False) fk σ H Q) (fun σ H Q => ∃ B, tE T B (fun _ _ _ _ => False) fv σ H Q) vs σ H Q := by
  obtain ⟨G, env, S, h⟩ := h
  refine ⟨G, env, S, ?_⟩
  unfold E.dc at h
  cases qi : it env with
  | stk => simp [qi, oE] at h
  | exc x e' => simp only [qi, Out.bind_exc] at h; exact h
  | ok ds e =>
    simp only [qi, Out.bind_ok] at h
    intro G1 H0 S0 l1 J H1 B' bx S1 w D hD
    obtain ⟨S2, n1, n2, n3⟩ := S1.fresh (o := .dT []) hD
    obtain ⟨b2, S3⟩ := S2.pinO (u0 := .dT []) True.intro n1.2 n2 upd_same n3
    have S4 := S3.wipe vs
    have h0 := h.mono l1 fun a e' G' H' l (k : ∀ p, (B.2 p = none ∧ B.3 p = none) → G' p = none → (∀ (j : Nat) d', e'[j]? = some (.own d') → σ[j]? ≠ some (some (.ref p))) → CRel T G' H' p a → Q (.ref p) H') => k
    have bb : ∀ u : HO, BExt B ⟨B'.1, B'.2, upd B'.3 D u, B'.4⟩ := fun u0 => ⟨bx.g, bx.h, fun a u e => by
      have e2 := bx.lk a u e
      show upd B'.3 D _ a = _
      rw [upd_ne (fun z => by rw [z, n1.2] at e2; cases e2)]; exact e2, bx.pu⟩
    refine ⟨fun i m H => m = ds.length - i ∧ i ≤ ds.length ∧ ∃ G ws kvs e, StR T ⟨B'.1, B'.2, upd B'.3 D (.dT kvs), B'.4⟩ G H (L2.wipe σ vs) e ∧ Same G1 G ∧ VRels T G (kvs.map (·.2)) ws ∧
      oE T B W σ G (loopD t vs tt fk fv (ds.drop i) (kvs.map (·.1)) ws e) (fun a e' G' H' => ∀ p, (B.2 p = none ∧ B.3 p = none) → G' p = none → (∀ (j : Nat) d', e'[j]? = some (.own d') → σ[j]? ≠ some (some (.ref p))) → CRel T G' H' p a → Q (.ref p) H'),
      ⟨ds.length, by simp, Nat.zero_le _, G1, [], [], _, S4, Same.refl G1, .nil, h0⟩, ?_⟩
    rintro i m H ⟨rfl, hi, G, ws, kvs, e, S, g, ra, h⟩
    have l : Le G1 H := Le.of_same g S.gh
    have lk : Same B'.3 H := fun a u q => (S.lk a u (by
      show upd B'.3 D _ a = _
      rw [upd_ne (fun z => by rw [z, n1.2] at q; cases q)]; exact q)).1
    obtain ⟨hDl, _, hDg⟩ := S.lk D (.dT kvs) (show upd B'.3 D _ D = _ from upd_same)
    have gD : G D = none := by
      rcases hDg with ⟨o, w', z⟩ | z
      · cases z
      · exact z.1
    by_cases hlt : i < ds.length
    · refine .inr ⟨w.goes i H hlt l lk, fun H' => ∃ G ws kvs e, StR T ⟨B'.1, B'.2, upd B'.3 D (.dT kvs), B'.4⟩ G H' (L2.wipe σ vs) e ∧ Same G1 G ∧ VRels T G (kvs.map (·.2)) ws ∧
        oE T B W σ G (loopD t vs tt fk fv (ds.drop (i + 1)) (kvs.map (·.1)) ws e) (fun a e' G' H' => ∀ p, (B.2 p = none ∧ B.3 p = none) → G' p = none → (∀ (j : Nat) d', e'[j]? = some (.own d') → σ[j]? ≠ some (some (.ref p))) → CRel T G' H' p a → Q (.ref p) H'),
        fun H' z => ⟨ds.length - (i + 1), by omega, rfl, hlt, z⟩, fun x H' y => ?_⟩
      obtain ⟨d, hd, yy⟩ := w.yields i H x H' hlt l lk y
      obtain ⟨G', g', gh', hh', ad', rx⟩ := yy G g S.gh
      have S' := S.turn g' gh' hh' ad'
      have hdr : ds.drop i = d :: ds.drop (i + 1) := by
        obtain ⟨h1, h2⟩ := List.getElem?_eq_some_iff.mp hd
        rw [← h2]
        exact List.drop_eq_getElem_cons h1
      rw [hdr, loopD] at h
      cases qb : bindT t d e with
      | none => simp [qb, oE] at h
      | some e1 =>
        simp only [qb] at h
        refine ⟨_, G', e, d, e1, S', rx, qb, fun σ2 H2' S2 ag => ?_⟩
        have hw : L2.wipe σ2 vs = L2.wipe σ vs := by
          rw [← wipe_wipe σ vs]
          exact wipe_agr ag.1 fun j hj => ag.2 j fun z => hj (hv j z)
        refine ⟨hw, _, G', e1, S2, ?_⟩
        cases qt : tt e1 with
        | stk => simp [qt, oE] at h
        | exc x e' => simp [qt, oE] at h
        | ok b e2 =>
          refine fun G2 H2 S3 l3 => ?_
          cases b with
          | false =>
            simp only [qt] at h
            refine iteF ⟨G2, ws, kvs, _, ?_, (g.trans g').trans l3, (ra.same g').same l3, (h.mono (g'.trans l3) fun _ _ _ _ _ z => z)⟩
            rw [← hw]
            exact S3.wipe vs
          | true =>
            simp only [qt] at h
            refine iteT ⟨_, G2, e2, S3, ?_⟩
            cases qf : fk e2 with
            | stk => simp [qf, oE] at h
            | exc x e' => simp [qf, oE] at h
            | ok a e3 =>
              simp only [qf] at h
              refine fun G3 H3 S5 l5 v rv => ?_
              cases qz : frz e3 a with
              | none => simp [qz, oE] at h
              | some pr =>
                obtain ⟨yd, e4⟩ := pr
                simp only [qz] at h
                obtain ⟨G4, S6, l6, rv6⟩ := S5.frz rv qz
                refine ⟨_, G4, e4, S6, ?_⟩
                cases qg : fv e4 with
                | stk => simp [qg, oE] at h
                | exc x e' => simp [qg, oE] at h
                | ok b e5 =>
                  simp only [qg] at h
                  refine fun G5 H5 S7 l7 v2 rv7 => ?_
                  cases qy : frz e5 b with
                  | none => simp [qy, oE] at h
                  | some pr =>
                    obtain ⟨zd, e6⟩ := pr
                    simp only [qy] at h
                    obtain ⟨G6, S8, l8, rv8⟩ := S7.frz rv7 qy
                    cases qk : keyT yd with
                    | none => simp [qk, oE] at h
                    | some k =>
                      simp only [qk] at h
                      split at h
                      · rename_i hlen
                        have gg : Same G G6 := ((((g'.trans l3).trans l5).trans l6).trans l7).trans l8
                        obtain ⟨hD5, _, _⟩ := S8.lk D (.dT kvs) (show upd B'.3 D _ D = _ from upd_same)
                        obtain ⟨kb, rfl, hkb⟩ := keyT_v S8.gh (.inl ((rv6.same l7).same l8)) qk
                        have ra6 := ra.same gg
                        obtain ⟨p1, p2⟩ := putK_put (k := k) ra6 rv8
                        refine ⟨upd H5 D (.dT (putK kvs k v2)), DPut.t hD5 hkb (by rw [← List.length_map (f := (·.1))]; exact hlen), G6, (putD (kvs.map (·.1)) ws k zd).2, putK kvs k v2, wipeE e6 vs, ?_, g.trans gg, p2, ?_⟩
                        · rw [← hw]
                          exact (StR.growO (u0 := .dT kvs) (u1 := .dT (putK kvs k v2)) True.intro True.intro S8 n1.1).wipe vs
                        · rw [p1]
                          exact h.mono gg fun _ _ _ _ _ z => z
                      · exact h.elim
    · have e0 : i = ds.length := by omega
      subst e0
      rw [List.drop_length, loopD] at h
      refine .inl ⟨w.stops H l lk, ?_⟩
      have S8 := S.unwipe (σ := σ) (wipe_wipe σ vs)
      refine h G H (S8.back (bb _)) (Same.refl G) D ⟨bx.h ▸ n1.1, ?_⟩ gD (fun j d' z => ?_) ⟨kvs, hDl, rfl, ra⟩
      · cases q : B.3 D with
        | none => rfl
        | some u => rw [bx.lk D u q] at n1; cases n1.2
      · obtain ⟨p, a1, a2, _⟩ := S8.own j d' z
        rw [a1]
        intro q
        cases q
        have y : upd B'.3 D (.dT kvs) D = none := a2.2
        rw [upd_same] at y
        cases y
theorem df_dc (hu : X.A.units < cLine) (hc : X.calm = true) (hN : X.N.Nodup) (hi : DI X tg iter it) (ok : BlkOk X.N X.env.scope scope own) (hv : ∀ j, j ∈ t.slots → j ∈ own.map (·.2))
    (hg : ∀ (s : Shared) (H : Hp) (C : Addr) (cl : List (Str × Addr)) (fp : List Addr), DG (X.blk s H scope (compEnvC scope cl C X.env) fp) tg t) (ht : ∀ (s : Shared) (H : Hp) (C : Addr) (cl : List (Str × Addr)) (fp : List Addr), DTs (X.blk s H scope (compEnvC scope cl C X.env) fp) ifs tt)
    (hk : ∀ (s : Shared) (H : Hp) (C : Addr) (cl : List (Str × Addr)) (fp : List Addr), DE (X.blk s H scope (compEnvC scope cl C X.env) fp) kx fk) (he : ∀ (s : Shared) (H : Hp) (C : Addr) (cl : List (Str × Addr)) (fp : List Addr), DE (X.blk s H scope (compEnvC scope cl C X.env) fp) vx fv)
    (hs : ∀ x, foldedSetIterable iter X.env x = pure x := by intro _; rfl) : DF X (.DictComp kx vx [⟨tg, iter, ifs, 0⟩] scope pos) (E.dc it t (own.map (·.2)) tt fk fv) :=
  ⟨fun B W tk => (pe_dcT hu hc hN (hi.run B W tk) ok (fun s H C cl fp => pg_any fun B => (hg s H C cl fp).run B) (fun s H C cl fp => pts_any fun B => (ht s H C cl fp).run B (fun _ _ _ _ => False) takes0)
    (fun s H C cl fp => pe_any fun B => (hk s H C cl fp).run B (fun _ _ _ _ => False) takes0) (fun s H C cl fp => pe_any fun B => (he s H C cl fp).run B (fun _ _ _ _ => False) takes0) hs).imp fun σ H Q h => tF_dc hv h⟩
end

/-! ### merged dicts -/
def mrgD : List (List Key) → List D → List (List Key) → List D → List (List Key) × List D
  | ks, vs, l :: ls, w :: ws => mrgD (putD ks vs l w).1 (putD ks vs l w).2 ls ws
  | ks, vs, _, _ => (ks, vs)
theorem mrg_rel {T : Stt} {G : Hp} : ∀ {ls : List (List Key × V)} {ws : List D} {kvs : List (List Key × V)} {ds : List D}, VRels T G (ls.map (·.2)) ws → VRels T G (kvs.map (·.2)) ds →
    (mergeT kvs ls).map (·.1) = (mrgD (kvs.map (·.1)) ds (ls.map (·.1)) ws).1 ∧ VRels T G ((mergeT kvs ls).map (·.2)) (mrgD (kvs.map (·.1)) ds (ls.map (·.1)) ws).2
  | [], _, kvs, ds, .nil, r => ⟨rfl, r⟩
  | (k, v) :: ls, w :: ws, kvs, ds, .cons r1 rs, r => by
    obtain ⟨p1, p2⟩ := putK_put (k := k) r r1
    have z := mrg_rel (ls := ls) (kvs := putK kvs k v) rs p2
    rw [p1] at z
    exact z
def intKs : List (List Key) → Option (List (List Int))
  | [] => some []
  | k :: ks => match k.mapM (fun | .inl i => some i | .inr _ => none), intKs ks with
    | some is, some r => some (is :: r)
    | _, _ => none
theorem mapM_inl : ∀ {k : List Key} {is : List Int}, k.mapM (fun | .inl i => some i | .inr _ => none) = some is → k = is.map Sum.inl
  | [], is, h => by simp at h; subst h; rfl
  | .inr x :: k, is, h => by simp at h
  | .inl i :: k, is, h => by
    rw [List.mapM_cons] at h
    cases q : k.mapM (fun | .inl i => some i | .inr _ => none : Key → Option Int) with
    | none => rw [q] at h; simp at h
    | some js =>
      rw [q] at h
      simp at h
      subst h
      rw [mapM_inl q]
      rfl
theorem intKs_eq : ∀ {ks : List (List Key)} {l : List (List Int)}, intKs ks = some l → ks = l.map (·.map Sum.inl)
  | [], l, h => by simp [intKs] at h; subst h; rfl
  | k :: ks, l, h => by
    simp only [intKs] at h
    cases q1 : k.mapM (fun | .inl i => some i | .inr _ => none : Key → Option Int) with
    | none => simp [q1] at h
    | some is =>
      cases q2 : intKs ks with
      | none => simp [q1, q2] at h
      | some r =>
        simp only [q1, q2, Option.some.injEq] at h
        subst h
        rw [mapM_inl q1, intKs_eq q2]
        rfl
/-- keys that are tuples of ints, no two of one hash -/
def hsD (ks : List (List Key)) : Bool := match intKs ks with
  | some l => decide ((l.map thI).Nodup)
  | none => false
theorem hsD_of {ks : List (List Key)} (h : hsD ks = true) : HsI ks := by
  unfold hsD at h
  cases q : intKs ks with
  | none => simp [q] at h
  | some l =>
    simp only [q, decide_eq_true_eq] at h
    exact ⟨l, intKs_eq q, h⟩
def E.mrg2 (f g : FE) : FD := fun env => (f env).bind fun a e1 => match frz e1 a with
  | some (.dcT ks vs, e2) => if hsD ks ∧ ks.length ≤ sizeLine then (g e2).bind fun b e3 => match frz e3 b with
    | some (.dcT ls ws, e4) => if ((mrgD [] [] ks vs).1 ≠ [] ∨ hsD ls = true) ∧ (mrgD [] [] ks vs).1.length + ls.length ≤ sizeLine then .ok (.dcT (mrgD (mrgD [] [] ks vs).1 (mrgD [] [] ks vs).2 ls ws).1 (mrgD (mrgD [] [] ks vs).1 (mrgD [] [] ks vs).2 ls ws).2) e4 else .stk
    | _ => .stk
    else .stk
  | _ => .stk
/-- a dict that stands in G -/
theorem dcT_at {T : Stt} {G H : Hp} {v : V} {ks : List (List Key)} {vs : List D} (l : Le G H) (r : VRel T G v (.dcT ks vs)) : ∃ a kvs, v = .ref a ∧ Rd H a (.dT kvs) ∧ kvs.map (·.1) = ks ∧ VRels T G (kvs.map (·.2)) vs ∧ G a = some (.dT kvs) := by
  cases r with
  | dcT h rs => exact ⟨_, _, rfl, l.rd (fun _ z => nomatch z) (.inl h), rfl, rs, h⟩
section
variable {X : Cx} {pos : Pos} {e1 e2 : Expr}
theorem df_mrg2 {f g : FE} (hu : X.A.units < cLine) (h1 : DE X e1 f) (h2 : DE X e2 g) : DF X (.Dict [none, none] [e1, e2] pos) (E.mrg2 f g) := by
  refine ⟨fun B W tk => (pe_mrg2 hu (pe_any fun B => h1.run B W tk) (pe_any fun B => h2.run B W tk)).imp fun σ H Q h => ?_⟩
  obtain ⟨G, env, S, h⟩ := h
  intro p hp
  obtain ⟨S1, n1, n2, n3⟩ := S.fresh (o := .dT []) hp
  obtain ⟨b2, S2⟩ := S1.pinO (u0 := .dT []) True.intro n1.2 n2 upd_same n3
  have bb : ∀ u : HO, BExt B ⟨B.1, B.2, upd B.3 p u, B.4⟩ := fun u0 => ⟨rfl, rfl, fun a u e => by
    show upd B.3 p _ a = _
    rw [upd_ne (fun z => by rw [z, n1.2] at e; cases e)]; exact e, rfl⟩
  have pinned : ∀ {G' H' : Hp} {u : HO} {σ' : St} {e' : Ev}, Pin u → StR ⟨X.K, X.mg⟩ ⟨B.1, B.2, upd B.3 p u, B.4⟩ G' H' σ' e' → H' p = some u ∧ G' p = none := fun {G' H' u σ' e'} pu S => by
    obtain ⟨z1, _, z2⟩ := S.lk p u (show upd B.3 p _ p = _ from upd_same)
    refine ⟨z1, ?_⟩
    rcases z2 with ⟨o, w', z⟩ | z
    · subst z; exact pu.elim
    · exact z.1
  refine ⟨⟨B.1, B.2, upd B.3 p (.dT []), B.4⟩, G, env, S2, ?_⟩
  unfold E.mrg2 at h
  cases q : f env with
  | stk => simp [q, oE] at h
  | exc x e' => simp only [q, Out.bind_exc] at h; exact fun cls d G' H' S' l' => h cls d G' H' (S'.back (bb _)) l'
  | ok a e1 =>
    simp only [q, Out.bind_ok] at h
    refine fun G1 H1 S3 l1 v1 r1 => ?_
    cases qf : frz e1 a with
    | none => simp [qf, oE] at h
    | some pr =>
      obtain ⟨d, e2⟩ := pr
      simp only [qf] at h
      split at h
      · rename_i ks vs e2' he
        cases he
        split at h
        · rename_i hh
          obtain ⟨G2, S4, l2, rv⟩ := S3.frz r1 qf
          obtain ⟨hp1, gp⟩ := pinned (u := .dT []) True.intro S4
          obtain ⟨a', kvs, rfl, hr, hk, hvs, hga⟩ := dcT_at S4.gh rv
          have hne : a' ≠ p := fun z => by rw [z, gp] at hga; cases hga
          obtain ⟨m1, m2⟩ := mrg_rel (kvs := []) (ds := []) hvs .nil
          rw [hk] at m1 m2
          refine ⟨hp1, a', kvs, rfl, hne, hr, by rw [hk]; exact hsD_of hh.1, by rw [← List.length_map (f := (·.1)), hk]; exact hh.2, ⟨B.1, B.2, upd B.3 p (.dT (mergeT [] kvs)), B.4⟩, G2, e2, StR.growO (u0 := .dT []) True.intro True.intro S4 n1.1, ?_⟩
          cases q2 : g e2 with
          | stk => simp [q2, oE] at h
          | exc x e' => simp only [q2, Out.bind_exc] at h; exact fun cls d G' H' S' l' => h cls d G' H' (S'.back (bb _)) ((l1.trans l2).trans l')
          | ok b e3 =>
            simp only [q2, Out.bind_ok] at h
            refine fun G3 H3 S5 l3 v2 r2 => ?_
            cases qg : frz e3 b with
            | none => simp [qg, oE] at h
            | some pr =>
              obtain ⟨d2, e4⟩ := pr
              simp only [qg] at h
              split at h
              · rename_i ls ws e4' he
                cases he
                split at h
                · rename_i hh2
                  obtain ⟨G4, S6, l4, rv2⟩ := S5.frz r2 qg
                  obtain ⟨hp2, gp2⟩ := pinned (u := .dT (mergeT [] kvs)) True.intro S6
                  obtain ⟨b', lvs, rfl, hr2, hk2, hvs2, hgb⟩ := dcT_at S6.gh rv2
                  have hne2 : b' ≠ p := fun z => by rw [z, gp2] at hgb; cases hgb
                  have m2' := (m2.same l3).same l4
                  obtain ⟨m3, m4⟩ := mrg_rel (kvs := mergeT [] kvs) hvs2 m2'
                  simp only [List.map_nil] at m1 m2 m2' m3 m4
                  rw [m1, hk2] at m3 m4
                  refine ⟨hp2, b', lvs, rfl, hne2, hr2, fun z => ?_, ?_, ?_⟩
                  · rw [hk2]
                    rcases hh2.1 with y | y
                    · rw [← m1, z] at y; exact (y rfl).elim
                    · exact hsD_of y
                  · have z1 := congrArg List.length m1
                    have z2 := congrArg List.length hk2
                    rw [List.length_map] at z1 z2
                    rw [z1, z2]; exact hh2.2
                  · have S7 := StR.growO (u0 := .dT (mergeT [] kvs)) (u1 := .dT (mergeT (mergeT [] kvs) lvs)) True.intro True.intro S6 n1.1
                    refine h G4 _ (S7.back (bb _)) (((l1.trans l2).trans l3).trans l4) p n1 gp2 (fun j d' e z => ?_) ⟨_, upd_same, m3, m4⟩
                    obtain ⟨p2, a1, a2, a3, a4⟩ := S6.own j d' e
                    rw [a1] at z
                    cases z
                    have y : upd B.3 p (.dT (mergeT [] kvs)) p = none := a2.2
                    rw [upd_same] at y
                    cases y
                · exact h.elim
              · exact h.elim
        · exact h.elim
      · exact h.elim
theorem StR.pinned {T : Stt} {B : Bse} {G' H' : Hp} {p : Addr} {u : HO} {σ' : St} {e' : Ev} (pu : Pin u) (S : StR T B G' H' σ' e') (hb : B.3 p = some u) : H' p = some u ∧ G' p = none := by
  obtain ⟨z1, _, z2⟩ := S.lk p u hb
  refine ⟨z1, ?_⟩
  rcases z2 with ⟨o, w', z⟩ | z
  · subst z; exact pu.elim
  · exact z.1
def E.mrgK (f fk fv : FE) : FD := fun env => (f env).bind fun a e1 => match frz e1 a with
  | some (.dcT ks vs, e2) => if hsD ks ∧ ks.length < sizeLine then (fk e2).bind fun b e3 => match frz e3 b with
    | some (y, e4) => (fv e4).bind fun c e5 => match frz e5 c with
      | some (z, e6) => match keyT y with
        | some k => match intKs [k] with
          | some _ => .ok (.dcT (putD (mrgD [] [] ks vs).1 (mrgD [] [] ks vs).2 k z).1 (putD (mrgD [] [] ks vs).1 (mrgD [] [] ks vs).2 k z).2) e6
          | none => .stk
        | none => .stk
      | none => .stk
    | none => .stk
    else .stk
  | _ => .stk
theorem df_mrgK {ek ev : Expr} {f fk fv : FE} (hu : X.A.units < cLine) (h1 : DE X e1 f) (hk : DE X ek fk) (hv : DE X ev fv) : DF X (.Dict [none, some ek] [e1, ev] pos) (E.mrgK f fk fv) := by
  refine ⟨fun B W tk => (pe_mrgK hu (pe_any fun B => h1.run B W tk) (pe_any fun B => hk.run B W tk) (pe_any fun B => hv.run B W tk)).imp fun σ H Q h => ?_⟩
  obtain ⟨G, env, S, h⟩ := h
  intro p hp
  obtain ⟨S1, n1, n2, n3⟩ := S.fresh (o := .dT []) hp
  obtain ⟨b2, S2⟩ := S1.pinO (u0 := .dT []) True.intro n1.2 n2 upd_same n3
  have bb : ∀ u : HO, BExt B ⟨B.1, B.2, upd B.3 p u, B.4⟩ := fun u0 => ⟨rfl, rfl, fun a u e => by
    show upd B.3 p _ a = _
    rw [upd_ne (fun z => by rw [z, n1.2] at e; cases e)]; exact e, rfl⟩
  refine ⟨⟨B.1, B.2, upd B.3 p (.dT []), B.4⟩, G, env, S2, ?_⟩
  unfold E.mrgK at h
  cases q : f env with
  | stk => simp [q, oE] at h
  | exc x e' => simp only [q, Out.bind_exc] at h; exact fun cls d G' H' S' l' => h cls d G' H' (S'.back (bb _)) l'
  | ok a e1 =>
    simp only [q, Out.bind_ok] at h
    refine fun G1 H1 S3 l1 v1 r1 => ?_
    cases qf : frz e1 a with
    | none => simp [qf, oE] at h
    | some pr =>
      obtain ⟨d, e2⟩ := pr
      simp only [qf] at h
      split at h
      · rename_i ks vs e2' he
        cases he
        split at h
        · rename_i hh
          obtain ⟨G2, S4, l2, rv⟩ := S3.frz r1 qf
          obtain ⟨hp1, gp⟩ := StR.pinned (u := .dT []) True.intro S4 upd_same
          obtain ⟨a', kvs, rfl, hr, hk, hvs, hga⟩ := dcT_at S4.gh rv
          have hne : a' ≠ p := fun z => by rw [z, gp] at hga; cases hga
          obtain ⟨m1, m2⟩ := mrg_rel (kvs := []) (ds := []) hvs .nil
          rw [hk] at m1 m2
          refine ⟨hp1, a', kvs, rfl, hne, hr, by rw [hk]; exact hsD_of hh.1, by rw [← List.length_map (f := (·.1)), hk]; exact hh.2, fun r hrn => ?_⟩
          have S5 := StR.growO (u0 := .dT []) (u1 := .dT (mergeT [] kvs)) True.intro True.intro S4 n1.1
          obtain ⟨S6, k1, k2, k3⟩ := S5.fresh (o := .dT []) hrn
          obtain ⟨b3, S7⟩ := S6.pinO (u0 := .dT []) True.intro k1.2 k2 upd_same k3
          have hrp : r ≠ p := fun z => by
            have y : upd B.3 p (.dT (mergeT [] kvs)) r = none := k1.2
            rw [z, upd_same] at y
            cases y
          have k12 : B.3 r = none := by
            have y : upd B.3 p (.dT (mergeT [] kvs)) r = none := k1.2
            rw [upd_ne hrp] at y
            exact y
          have bc : ∀ u u' : HO, BExt B ⟨B.1, B.2, upd (upd B.3 p u) r u', B.4⟩ := fun u0 u1 => ⟨rfl, rfl, fun a u e => by
            show upd (upd B.3 p _) r _ a = _
            rw [upd_ne (fun z => by rw [z, k12] at e; cases e), upd_ne (fun z => by rw [z, n1.2] at e; cases e)]; exact e, rfl⟩
          refine ⟨⟨B.1, B.2, upd (upd B.3 p (.dT (mergeT [] kvs))) r (.dT []), B.4⟩, G2, e2, S7, ?_⟩
          cases q2 : fk e2 with
          | stk => simp [q2, oE] at h
          | exc x e' => simp only [q2, Out.bind_exc] at h; exact fun cls d G' H' S' l' => h cls d G' H' (S'.back (bc _ _)) ((l1.trans l2).trans l')
          | ok b e3 =>
            simp only [q2, Out.bind_ok] at h
            refine fun G3 H3 S8 l3 v2 r2 => ?_
            cases qg : frz e3 b with
            | none => simp [qg, oE] at h
            | some pr =>
              obtain ⟨y, e4⟩ := pr
              simp only [qg] at h
              obtain ⟨G4, S9, l4, rv2⟩ := S8.frz r2 qg
              refine ⟨⟨B.1, B.2, upd (upd B.3 p (.dT (mergeT [] kvs))) r (.dT []), B.4⟩, G4, e4, S9, ?_⟩
              cases q3 : fv e4 with
              | stk => simp [q3, oE] at h
              | exc x e' => simp only [q3, Out.bind_exc] at h; exact fun cls d G' H' S' l' => h cls d G' H' (S'.back (bc _ _)) ((((l1.trans l2).trans l3).trans l4).trans l')
              | ok c e5 =>
                simp only [q3, Out.bind_ok] at h
                refine fun G5 H5 S10 l5 v3 r3 => ?_
                cases qz : frz e5 c with
                | none => simp [qz, oE] at h
                | some pr =>
                  obtain ⟨z, e6⟩ := pr
                  simp only [qz] at h
                  cases qk : keyT y with
                  | none => simp [qk, oE] at h
                  | some k =>
                    simp only [qk] at h
                    cases qi : intKs [k] with
                    | none => simp [qi, oE] at h
                    | some l =>
                      simp only [qi] at h
                      have ei := intKs_eq qi
                      obtain ⟨is, rfl, rfl⟩ : ∃ is, l = [is] ∧ k = is.map Sum.inl := by
                        cases l with
                        | nil => simp at ei
                        | cons is l => cases l with
                          | nil => simp at ei; exact ⟨is, rfl, ei⟩
                          | cons _ _ => simp at ei
                      obtain ⟨G6, S11, l6, rv3⟩ := S10.frz r3 qz
                      obtain ⟨hr5, gr5⟩ := StR.pinned (u := .dT []) (p := r) True.intro S11 upd_same
                      obtain ⟨hp5, gp5⟩ := StR.pinned (u := .dT (mergeT [] kvs)) (p := p) True.intro S11 (by show upd (upd B.3 p _) r _ p = _; rw [upd_ne (Ne.symm hrp)]; exact upd_same)
                      obtain ⟨kb, rfl, hkb⟩ := keyT_v S11.gh (.inl ((rv2.same l5).same l6)) qk
                      have m2' := (((m2.same l3).same l4).same l5).same l6
                      obtain ⟨p1, p2⟩ := putK_put (k := (is.map Sum.inl : List Key)) m2' rv3
                      simp only [List.map_nil] at m1 m2 m2' p1 p2
                      rw [m1] at p1 p2
                      refine ⟨hr5, hp5, hrp, kb, is, rfl, by rw [hkb, List.map_map]; rfl, ?_⟩
                      -- both are grown, both pins are taken off
                      have S12 := StR.growO (B := ⟨B.1, B.2, upd B.3 p (.dT (mergeT [] kvs)), B.4⟩) (p := r) (u0 := .dT []) (u1 := .dT [((is.map Sum.inl : List Key), v3)]) True.intro True.intro S11 k1.1
                      have hsw : upd (upd B.3 p (.dT (mergeT [] kvs))) r (.dT [((is.map Sum.inl : List Key), v3)]) = upd (upd B.3 r (.dT [((is.map Sum.inl : List Key), v3)])) p (.dT (mergeT [] kvs)) := by
                        funext a
                        by_cases e1 : a = r
                        · subst e1; rw [upd_same, upd_ne hrp, upd_same]
                        · rw [upd_ne e1]
                          by_cases e2 : a = p
                          · subst e2; rw [upd_same, upd_same]
                          · rw [upd_ne e2, upd_ne e2, upd_ne e1]
                      have S12' : StR ⟨X.K, X.mg⟩ ⟨B.1, B.2, upd (upd B.3 r (.dT [((is.map Sum.inl : List Key), v3)])) p (.dT (mergeT [] kvs)), B.4⟩ G6 (upd H5 r (.dT [((is.map Sum.inl : List Key), v3)])) σ e6 := by
                        rw [← hsw]; exact S12
                      have S13 := StR.growO (B := ⟨B.1, B.2, upd B.3 r (.dT [((is.map Sum.inl : List Key), v3)]), B.4⟩) (p := p) (u0 := .dT (mergeT [] kvs)) (u1 := .dT (putK (mergeT [] kvs) (is.map Sum.inl) v3)) True.intro True.intro S12' n1.1
                      have bd : ∀ u u' : HO, BExt B ⟨B.1, B.2, upd (upd B.3 r u) p u', B.4⟩ := fun u0 u1 => ⟨rfl, rfl, fun a u e => by
                        show upd (upd B.3 r _) p _ a = _
                        rw [upd_ne (fun z => by rw [z, n1.2] at e; cases e), upd_ne (fun z => by rw [z, k12] at e; cases e)]; exact e, rfl⟩
                      refine h G6 _ (S13.back (bd _ _)) (((((l1.trans l2).trans l3).trans l4).trans l5).trans l6) p n1 gp5 (fun j d' e z => ?_) ⟨_, upd_same, p1, p2⟩
                      obtain ⟨p2, a1, a2, a3, a4⟩ := S12'.own j d' e
                      rw [a1] at z
                      cases z
                      have y : upd (upd B.3 r (.dT [((is.map Sum.inl : List Key), v3)])) p (.dT (mergeT [] kvs)) p = none := a2.2
                      rw [upd_same] at y
                      cases y
        · exact h.elim
      · exact h.elim
end
end DL
-- DL30
set_option maxRecDepth 100000
set_option maxHeartbeats 4000000
/-! DL30: dicts of the module whose keys are texts and whose values are ints. -/
namespace DL
open PySem PySem.Spec PyProof.Rows L2
def lkS (tbl : List (Str × Int)) (z : Str) : Option Int := (tbl.find? fun q => decide (q.1 = z)).map (·.2)
/-- the module's dict x -/
structure GDict (X : Cx) (x : Str) (tbl : List (Str × Int)) : Prop where
  ex : ∃ p es n, X.mg x = some (.ref p) ∧ KDict X.K X.w p es n ∧ ∀ z, match lkS tbl z with
    | some i => ∃ t, PySem.W.nsIn X.K p z = some (some (.int i t))
    | none => PySem.W.nsIn X.K p z = some none
def ginD (tbl : List (Str × Int)) : D → Option D
  | .str z => some (.bl (lkS tbl z).isSome)
  | _ => none
def gixD (tbl : List (Str × Int)) : D → Option D
  | .str z => (lkS tbl z).map .int
  | _ => none
section
variable {X : Cx} {x : Str} {tbl : List (Str × Int)} {a : Expr} {f : FE} {pos p : Pos}
theorem de_gin (g : GDict X x tbl) (ha : DE X a f) (hg : Gl X x := by rfl) (hd : (x == ("__debug__" : Str)) = false := by decide) (hm : behindInMarks .In (.Name x p) = false := by first | exact nobehind _ (by decide) (by decide) | rfl) :
    DE X (.Compare a [.In] [.Name x p] pos) (E.c1 (ginD tbl) f) := by
  obtain ⟨d, es, n, e1, e2, e3⟩ := g.ex
  refine ⟨fun B W tk => (pe_cmpR (op_in_kd e2) (ha.run B W tk) (pe_glob (v := .ref d) hg e1 rfl hd) hm).imp fun σ H Q h => ?_⟩
  obtain ⟨G, env, S, h2⟩ := tE_u1 h
  refine ⟨G, env, S, h2.mono (Same.refl G) fun a' e' G' H' l k v r => ?_⟩
  obtain ⟨G2, dd, z, l2, o, hz, kk⟩ := k v r
  cases dd with
  | str zz =>
    obtain rfl := o.str
    simp only [ginD, Option.some.injEq] at hz
    subst hz
    have y := e3 zz
    cases q : lkS tbl zz with
    | none =>
      rw [q] at y
      exact ⟨zz, none, rfl, rfl, y, kk.same l2 (by rw [q]; exact .bl _)⟩
    | some i =>
      rw [q] at y
      obtain ⟨t, y⟩ := y
      exact ⟨zz, some (.int i t), rfl, rfl, y, kk.same l2 (by rw [q]; exact .bl _)⟩
  | _ => simp [ginD] at hz
theorem de_gix (g : GDict X x tbl) (ha : DE X a f) (hs : PlainIx a := by intro _ _; rfl) (hg : Gl X x := by rfl) (hd : (x == ("__debug__" : Str)) = false := by decide) :
    DE X (.Subscript (.Name x p) a pos) (E.c1 (gixD tbl) f) := by
  obtain ⟨d, es, n, e1, e2, e3⟩ := g.ex
  refine ⟨fun B W tk => (pe_ix ix_kdict (pe_glob (v := .ref d) hg e1 rfl hd) (ha.run B W tk) hs).imp fun σ H Q h => ?_⟩
  obtain ⟨G, env, S, h2⟩ := tE_u1 h
  show tE _ _ _ f σ H _
  refine ⟨G, env, S, h2.mono (Same.refl G) fun a' e' G' H' l k v r => ?_⟩
  obtain ⟨G2, dd, z, l2, o, hz, kk⟩ := k v r
  cases dd with
  | str zz =>
    obtain rfl := o.str
    have y := e3 zz
    simp only [gixD] at hz
    cases q : lkS tbl zz with
    | none => simp [q] at hz
    | some i =>
      rw [q] at y hz
      obtain ⟨t, y⟩ := y
      simp only [Option.map_some, Option.some.injEq] at hz
      subst hz
      exact ⟨d, zz, .int i, rfl, rfl, ⟨es, n, _, e2.at_, e2.lit, y, ⟨t, rfl⟩⟩, kk.same l2 (.int i)⟩
  | _ => simp [gixD] at hz
end
end DL
-- DL31
set_option maxRecDepth 100000
set_option maxHeartbeats 4000000
/-! DL31: list.count of bools; methods called by name; appending to a list that stands in the store. -/
namespace DL
open PySem PySem.Spec PyProof.Rows L2

/-! ### [..].count(True) -/
def cntD : D → D → Option D
  | .lst ds, .bl b => match blsOf ds with
    | some bs => some (.int (bs.count b : Nat))
    | none => none
  | _, _ => none
def rCntB (K : PySem.W.Frag) : V → List V → Hp → VK → Prop := fun x xs H Q => ∃ (p : Addr) (bs : List Bool) (k : Bool), x = .ref p ∧ xs = [.bl k] ∧ SqL K H p (bs.map V.bl) ∧ Q (.int (bs.count k : Nat)) H
section
variable {X : Cx}
theorem mt_cntB : MtR X "list.count" (rCntB X.K) := by
  intro pins s σ H x xs v us Q I rx rxs h
  obtain ⟨p, bs, k, rfl, rfl, hs, q⟩ := h
  cases rx
  obtain ⟨u, rfl, ru⟩ := rxs.one
  cases ru
  obtain ⟨its, rv, ⟨⟨cls, dd, data, sl⟩, n, ho, hc, hdn, hd⟩, hlen⟩ := I.list hs
  simp only at hc hd
  subst hc hd
  have e := rv.bls
  subst e
  refine call_meets PySem.F.slot_list_count ⟨_, ho, rfl⟩ PySem.F.entry_list_count (PySem.F.args_list_count_2 _ _)
    (SeqAt.list_countAt p _ n dd sl (.bool k) (fun | .bool b => b == k | _ => false)) ⟨ho, fun y hy => ?_, ?_⟩
  · have hy' : y ∈ bs.map Value.bool := by simpa using hy
    obtain ⟨b, _, rfl⟩ := List.mem_map.mp hy'
    exact SeqAt.EqAt.bool_bool b k
  · have ec : (bs.map Value.bool).toArray.toList.countP (fun | .bool b => b == k | _ => false) = bs.count k := by
      rw [List.toList_toArray, List.countP_map]
      rfl
    refine ⟨.int (bs.count k : Nat), H, I.tok _, ⟨s.toks, ?_⟩, q⟩
    show Value.int ((List.countP _ (bs.map Value.bool).toArray.toList : Nat) : Int) s.toks = Value.int ((bs.count k : Nat) : Int) s.toks
    rw [ec]
variable {o e : Expr} {f g : FE} {apos cpos : Pos}
def E.cnt (f : FE) (b : Bool) : FE := fun env => (f env).bind fun a e1 => match rd e1 a with
  | some (.lst ds) => match blsOf ds with
    | some bs => .ok (.dv (.int (bs.count b : Nat))) e1
    | none => .stk
  | _ => .stk
theorem de_cnt {b : Bool} {j : Nat} {p2 : Pos} (ho : DE X o f) (hbase : attributeBase o "count" X.env (eval o X.env) = eval o X.env := by rfl)
    (mk : ∀ {to ta : TE}, PE X o to → PE X (.Constant (.bool b) j p2) ta → PE X (.Call (.Attribute o "count" apos) [.Constant (.bool b) j p2] [] cpos) (tBM X.K "list" (rCntB X.K) to (tCons ta tNil)) := by
      intro to ta h1 h2; exact pe_bm PySem.F.plainAttrs_list PySem.F.slot_list_count PySem.F.type_list_count mt_cntB h1 (pa_cons h2 pa_nil)) :
    DE X (.Call (.Attribute o "count" apos) [.Constant (.bool b) j p2] [] cpos) (E.cnt f b) := by
  refine ⟨fun B W tk => (mk (ho.run B W tk) pe_bl).imp fun σ H Q h => ?_⟩
  obtain ⟨G, env, S, h⟩ := h
  refine ⟨G, env, S, ?_⟩
  unfold E.cnt at h
  cases q : f env with
  | stk => simp [q, oE] at h
  | exc x e' => simp only [q, Out.bind_exc] at h; exact h
  | ok a e1 =>
    simp only [q, Out.bind_ok] at h
    refine fun G1 H1 S1 l1 v1 r1 => ?_
    split at h
    · rename_i ds hr
      cases hb : blsOf ds with
      | none => simp [hb, oE] at h
      | some bs =>
        simp only [hb] at h
        obtain ⟨p, vs, rfl, hh, rs⟩ := (S1.orel r1 hr).lst S1.gh
        rw [blsOf_eq hb] at rs
        rw [rs.bls] at hh
        exact ⟨.inl ⟨rfl, _, SqL.of hh⟩, p, bs, b, rfl, rfl, SqL.of hh, h G1 H1 S1 l1 _ (.int _)⟩
    · exact h.elim
end
/-! ### appending to a list of the store -/
def S.appM (fo f : FE) : FS := fun env => (fo env).toS fun a e1 => match a with
  | .dv (.ptr n) => match stoOf e1 with
    | some M => match M[n]? with
      | some (.lst _) => (f e1).toS fun b e2 => match frz e2 b with
        | some (d, e3) => match stoOf e3 with
          | some M3 => match M3[n]? with
            | some (.lst xs) => if xs.length < sizeLine then .nx (setSto e3 (M3.set n (.lst (xs ++ [d])))) else .stk
            | _ => .stk
          | none => .stk
        | none => .stk
      | _ => .stk
    | none => .stk
  | _ => .stk
section
variable {X : Cx} {o e : Expr} {p2 cpos pos : Pos}
theorem ds_appM {fo f : FE} (ho : DE X o fo) (hf : DE X e f) (hbase : attributeBase o "append" X.env (eval o X.env) = eval o X.env := by rfl)
    (mk : ∀ {to ta : TE}, PE X o to → PE X e ta → PE X (.Call (.Attribute o "append" p2) [e] [] cpos) (tBM X.K "list" rAppend to (tCons ta tNil)) := by
      intro to ta h1 h2; exact pe_bm PySem.F.plainAttrs_list PySem.F.slot_list_append PySem.F.type_list_append mt_append h1 (pa_cons h2 pa_nil))
    (hs : swapsWith (.Call (.Attribute o "append" p2) [e] [] cpos) none pos.line X.env = pure false := by rfl) :
    DS X (.Expr (.Call (.Attribute o "append" p2) [e] [] cpos) pos) (S.appM fo f) := by
  refine ⟨fun B W tk ps => (ps_expr (mk (ho.run B W tk) (hf.run B W tk)) hs).imp fun De σ H q => ?_⟩
  obtain ⟨G, env, Sr, q⟩ := q
  unfold S.appM at q
  refine ⟨G, env, Sr, oS_toS q fun a e1 G1 H1 S1 l1 k v r => ?_⟩
  split at k
  · rename_i n
    cases hM : stoOf e1 with
    | none => simp [hM, oS] at k
    | some M =>
      simp only [hM] at k
      split at k
      · rename_i xs0 hd0
        obtain ⟨p, rfl, hp, hc⟩ := S1.stoAt hM hd0 r
        rcases hc with hc | ⟨_, _, _, _, _, _, z, _⟩ | ⟨_, z, _⟩
        · obtain ⟨vs0, hh0, rr0⟩ := hc
          refine ⟨.inl ⟨rfl, _, SqL.of hh0⟩, G1, e1, S1, oS_toS k fun b e2 G2 H2 S2 l2 k2 v2 r2 => ?_⟩
          cases qf : frz e2 b with
          | none => simp [qf, oS] at k2
          | some pr =>
            obtain ⟨d, e3⟩ := pr
            simp only [qf] at k2
            obtain ⟨G3, S3, l3, rv⟩ := S2.frz r2 qf
            cases hM3 : stoOf e3 with
            | none => simp [hM3, oS] at k2
            | some M3 =>
              simp only [hM3] at k2
              split at k2
              · rename_i xs hd3
                split at k2
                · rename_i hl
                  obtain ⟨p3, e3', hp3, hc3⟩ := S3.stoAt hM3 hd3 ((r.same l2).same l3)
                  cases e3'
                  rcases hc3 with hc3 | ⟨_, _, _, _, _, _, z, _⟩ | ⟨_, z, _⟩
                  · obtain ⟨vs, hh, rr⟩ := hc3
                    refine ⟨p, vs, v2, rfl, rfl, hh, by rw [rr.length]; exact hl, ?_⟩
                    exact k2 σ G3 _ (S3.updP hM3 hp3 (.inl ⟨_, upd_same, rr.append (.cons rv .nil)⟩)) l3
                  · cases z
                  · cases z
                · exact k2.elim
              · exact k2.elim
        · cases z
        · cases z
      · exact k.elim
  · exact k.elim
end

/-! ### methods by name -/
/-- a method that is called by names alone; pm: the values in the order of the parameters -/
structure MethK (P : Program) (w : World) (K : PySem.W.Frag) (mg : Str → Option Value) (base : Heap) (c m : Str) (k : Nat) (ks : List Str) (pm : List D → List D) (F : FM) : Prop where
  ex : ∃ C f fd ps, mg c = some (.ref C) ∧ Cls K C ∧ Meth K C m f ∧ (∃ (pv : List Value → List Value) (pV : List V → List V), (∀ (s : Shared) (a : Addr) (ws : List Value), K.In s.heap → (pv ws).length + 1 = ps.length → BindsTo s fd ⟨[Value.ref a], ks.zip ws⟩ (ps.zip (Value.ref a :: pv ws))) ∧
    (∀ vs us, Vals vs us → Vals (pV vs) (pv us)) ∧ ∀ G vs ds, VRels ⟨K, mg⟩ G vs ds → VRels ⟨K, mg⟩ G (pV vs) (pm ds)) ∧ FnOk P w K mg base (L2.CX P w) k f fd ps (spM ⟨K, mg⟩ F)
def callFK (F : FM) (n : Nat) (pm : List D → List D) (g : FA) (e1 : Ev) : Out EV := (g e1).bind fun vs e2 => match stoOf e2 with
  | some M2 => match F M2 (.ptr n :: pm vs) with
    | .ok z M' => .ok (.dv z) (setSto e2 M')
    | .exc x M' => .exc x (setSto e2 M')
    | .stk => .stk
  | none => .stk
def E.methK (c m : Str) (F : FM) (pm : List D → List D) (fo : FE) (g : FA) : FE := fun env => (fo env).bind fun a e1 => match a with
  | .dv (.ptr n) => if keysO c m n (stoOf e1) = true then callFK F n pm g e1 else .stk
  | _ => .stk
theorem run_fnKW {X : Cx} {CX : CXT} {k : Nat} {f : Addr} {fd : FuncData} {ps : List Str} {sp : Sp} {E : St → XK} {pins : List (Addr × Obj)} {σ : St} {H : Hp} {s : Shared} {Q : VK} {us us2 : List Value} {kw : List (Str × Value)} {vs : List V} (F : FnOk X.prog X.w X.K X.mg X.base CX k f fd ps sp) (hr : Room k X.A)
    (hb : BindsTo s fd ⟨us, kw⟩ (ps.zip us2)) (hx : PassesAt CX X σ (E σ)) (I : Inv X pins σ H s) (r : Vals vs us2) (h : sp vs H Q (E σ)) : wpAny (model X.prog X.w) X.A (call (.ref f) us kw) (EP X pins σ Q) X.xe s := by
  refine wpAny_call (codeAny_mono (F.run X.A X.stack s H ⟨us, kw⟩ us2 vs Q (E σ) hr I.env0 hb r h) fun r s' hq => ?_)
  cases r with
  | error e => exact hx pins H s e s' I hq
  | ok fl =>
    cases fl with
    | ret u => exact I.after hq
    | next => exact False.elim hq
    | brk => exact False.elim hq
    | cont => exact False.elim hq
theorem callFK_ok {T : Stt} {B : Bse} {W : WX} {F : FM} {n : Nat} {pm : List D → List D} {pV : List V → List V} {g : FA} {G H : Hp} {σ : St} {e : Ev} {v : V} {R : EV → Ev → Hp → Hp → Prop} {Q : VK} (S : StR T B G H σ e) (hp : ∀ G vs ds, VRels T G vs ds → VRels T G (pV vs) (pm ds)) (r : VRel T G v (.ptr n)) (h : oE T B W σ G (callFK F n pm g e) R)
    (m : ∀ z e' G' H' u, StR T B G' H' σ e' → R (.dv z) e' G' H' → VRel T G' u z → Q u H') : tAr T B W g σ H fun vs H1 => spM T F (v :: pV vs) H1 Q (WE W σ) := by
  refine ⟨G, e, S, ?_⟩
  unfold callFK at h
  cases q : g e with
  | stk => simp [q, oE] at h
  | exc x e' => simp only [q, Out.bind_exc] at h; exact h
  | ok ds e1 =>
    simp only [q, Out.bind_ok] at h
    cases hM : stoOf e1 with
    | none => simp [hM, oE] at h
    | some M =>
      simp only [hM] at h
      refine fun G1 H1 S1 l1 vs r1 => ⟨G1, .ptr n :: pm ds, M, S1.gh, S1.bz hM, .cons (r.same l1) (hp _ _ _ r1), ?_⟩
      cases qz : F M (.ptr n :: pm ds) with
      | stk => simp [qz, oE] at h
      | ok z M' =>
        simp only [qz] at h
        exact fun u G' H' P rv => m z _ G' H' u (S1.afterM hM P) (h G' H' (S1.afterM hM P) (l1.trans P.g)) rv
      | exc x M' =>
        simp only [qz] at h
        exact fun cls d G' H' P rx => h cls d G' H' (S1.afterM hM P) (l1.trans P.g) rx
section
variable {X : Cx} {c m : Str} {o : Expr} {kws : List Keyword} {apos pos : Pos} {k : Nat} {F : FM} {fo : FE} {g : FA} {ks : List Str} {pm : List D → List D}
theorem tE_methK {T : Stt} {B : Bse} {W : WX} {σ : St} {H : Hp} {Q : VK} {pV : List V → List V} (hp : ∀ G vs ds, VRels T G vs ds → VRels T G (pV vs) (pm ds)) (h : tE T B W (E.methK c m F pm fo g) σ H Q) :
    tE T B W fo σ H fun x H1 => ∃ a C dx fs, x = .ref a ∧ T.mg c = some (.ref C) ∧ H1 a = some (.ins C dx fs) ∧ fs.lookup m = none ∧ tAr T B W g σ H1 fun vs H2 => spM T F (x :: pV vs) H2 Q (WE W σ) := by
  obtain ⟨G, env, S, h⟩ := h
  refine ⟨G, env, S, ?_⟩
  unfold E.methK at h
  cases q : fo env with
  | stk => simp [q, oE] at h
  | exc x e' => simp only [q, Out.bind_exc] at h; exact h
  | ok a e1 =>
    simp only [q, Out.bind_ok] at h
    refine fun G1 H1 S1 l1 v r1 => ?_
    split at h
    · rename_i n
      split at h
      · rename_i hk
        obtain ⟨a, C, dx, kvs, rfl, mc, hh, hl⟩ := obj_at S1 hk r1
        exact ⟨a, C, dx, kvs, rfl, mc, hh, hl, callFK_ok S1 hp r1 (h.mono l1 fun _ _ _ _ _ z => z) fun z e' G' H' u S' k rv => k u rv⟩
      · exact h.elim
    · exact h.elim
theorem de_methK {pl : Sem Bool} (D : MethK X.prog X.w X.K X.mg X.base c m k ks pm F) (hr : Room k X.A) (ho : DE X o fo) (ha : DK X kws g)
    (hall : (backToKw pos (keywordEach kws X.env)).all (·.1.isSome) = true := by rfl) (hks : (backToKw pos (keywordEach kws X.env)).filterMap (·.1) = ks := by rfl)
    (hpl : ((backTo pos (starEach [] X.env)).any (·.1) || (backToKw pos (keywordEach kws X.env)).any (·.1.isNone)) = false := by rfl)
    (ht : eval (.Call (.Attribute o m apos) [] kws pos) X.env = (do
      let ov ← eval o X.env
      standAt apos.atName
      let (f, first) ← holding [ov] (getMethod ov m pl)
      callWith pos f first (backTo pos (starEach [] X.env)) (backToKw pos (keywordEach kws X.env))) := by rfl) : DE X (.Call (.Attribute o m apos) [] kws pos) (E.methK c m F pm fo g) := by
  obtain ⟨C, f, fd, ps, hm, hc, hM, ⟨pv, pV, hb, hv, hd⟩, Fk⟩ := D.ex
  refine ⟨fun B W tk => ⟨fun pins s σ H Q I h => ?_⟩⟩
  refine PySem.W.methodCall_KW (pl := pl) (thn ((ho.run B W tk).run pins s σ H _ I (tE_methK hd h)) ?_) ht
  rintro u s1 ⟨x, H1, I1, rx, a, C', dx, fs, rfl, mc, ea, l, q⟩
  have mc' : X.mg c = some (.ref C') := mc
  rw [hm] at mc'
  cases mc'
  cases (show u = Value.ref a from rx)
  refine getmeth_ok I1 ea hc hM l ?_
  refine PySem.W.callWith_KW0 (first := [.ref a]) (h₀ := X.base) I.ok.mod.kin hM.kp hall (thn ((ha.run B W tk).run pos pins s1 σ H1 _ I1 q) ?_) hpl
  rintro ws s2 ⟨vs, H2, I2, r, q2⟩
  refine ⟨I2.kIn, ?_⟩
  have hl : (pv ws).length + 1 = ps.length := by
    have := Fk.len _ _ _ _ q2
    rw [← this, ← (hv _ _ r).length]; rfl
  rw [hks]
  exact run_fnKW (E := WE W) Fk hr (hb s2 a ws I2.kIn hl) (passAt tk σ) I2 (.cons (show RelV (.ref a) (.ref a) from rfl) (hv _ _ r)) q2
end
end DL
-- DL32
set_option maxRecDepth 100000
set_option maxHeartbeats 4000000
/-! DL32: methods and classes as they stand behind the head; words for printed proofs. -/
namespace DL
open PySem PySem.Spec PyProof.Rows L2
/-- the method m of the module's class c -/
structure MethAt (K : PySem.W.Frag) (mg : Str → Option Value) (c m q : Str) (st : Stmt) : Prop where
  ex : ∃ C f fd, mg c = some (.ref C) ∧ Cls K C ∧ Meth K C m f ∧ FunD K m q (defArgs st) (defBody st) (defScope st) [] [] f fd
/-- __init__ of the module's class c, the defaults dvs -/
structure InitAt (K : PySem.W.Frag) (mg : Str → Option Value) (c q : Str) (st : Stmt) (dvs : List D) : Prop where
  ex : ∃ C f fd dV, mg c = some (.ref C) ∧ Mk K C f ∧ (∀ G, VRels ⟨K, mg⟩ G dV dvs) ∧ FunD K "__init__" q (defArgs st) (defBody st) (defScope st) dV [] f fd
section
variable {P : Program} {w : World} {K : PySem.W.Frag} {mg : Str → Option Value} {base : Heap} {x qual : Str} {params : Arguments} {body : List Stmt} {scope : Scope} {kws : List (Str × V)} {f : Addr} {fd : FuncData}
theorem bindsKw (F : FunD K x qual params body scope [] kws f fd) {us : List Value} {kw : List (Str × Value)} {binds : List (Str × Value)} (h : ∀ (kV doc pm : Value) (an : Option Addr) (cdv ct : Value), bindArgs (PySem.W.fnOf x qual params body scope .none kV doc pm an cdv ct) ⟨us, kw⟩ = pure binds) (s : Shared) : BindsTo s fd ⟨us, kw⟩ binds := by
  obtain ⟨oc, od, dV, kV, doc, pm, an, cdv, ct, osl, rfl, lk, hcd, hD, hK⟩ := F.ex
  rcases hD with ⟨_, rfl⟩ | ⟨e, _⟩
  · exact .of_eq (h kV doc pm an cdv ct)
  · exact absurd rfl e
theorem methOk_of {c m q : Str} {st : Stmt} {ps : List Str} {k : Nat} {F : FM} (M : MethAt K mg c m q st) (h : ∀ {f fd}, FunD K m q (defArgs st) (defBody st) (defScope st) [] [] f fd → FnOk P w K mg base (L2.CX P w) k f fd ps (spM ⟨K, mg⟩ F))
    (hb : ∀ (kV doc pm : Value) (an : Option Addr) (cdv ct : Value) (us : List Value), us.length = ps.length → bindArgs (PySem.W.fnOf m q (defArgs st) (defBody st) (defScope st) .none kV doc pm an cdv ct) ⟨us, []⟩ = pure (ps.zip us)) : MethOk P w K mg base c m k F := by
  obtain ⟨C, f, fd, hm, hc, hM, Fd⟩ := M.ex
  exact ⟨⟨C, f, fd, ps, hm, hc, hM, Fd.bindsN hb, h Fd⟩⟩
theorem methK_of {c m q : Str} {st : Stmt} {ps ks : List Str} {k : Nat} {F : FM} (M : MethAt K mg c m q st) (h : ∀ {f fd}, FunD K m q (defArgs st) (defBody st) (defScope st) [] [] f fd → FnOk P w K mg base (L2.CX P w) k f fd ps (spM ⟨K, mg⟩ F))
    (hb : ∀ (kV doc pm : Value) (an : Option Addr) (cdv ct : Value) (a : Addr) (ws : List Value), ws.length + 1 = ps.length → bindArgs (PySem.W.fnOf m q (defArgs st) (defBody st) (defScope st) .none kV doc pm an cdv ct) ⟨[.ref a], ks.zip ws⟩ = pure (ps.zip (.ref a :: ws))) : MethK P w K mg base c m k ks id F := by
  obtain ⟨C, f, fd, hm, hc, hM, Fd⟩ := M.ex
  exact ⟨⟨C, f, fd, ps, hm, hc, hM, ⟨id, id, fun s a ws _ hl => bindsKw Fd (fun kV doc pm an cdv ct => hb kV doc pm an cdv ct a ws hl) s, fun _ _ r => r, fun _ _ _ r => r⟩, h Fd⟩⟩
theorem newD_of {c q : Str} {st : Stmt} {ps : List Str} {k : Nat} {F : FM} (M : InitAt K mg c q st []) (h : ∀ {f fd}, FunD K "__init__" q (defArgs st) (defBody st) (defScope st) [] [] f fd → FnOk P w K mg base (L2.CX P w) k f fd ps (spM ⟨K, mg⟩ F))
    (hb : ∀ (kV doc pm : Value) (an : Option Addr) (cdv ct : Value) (us : List Value), us.length = ps.length → bindArgs (PySem.W.fnOf "__init__" q (defArgs st) (defBody st) (defScope st) .none kV doc pm an cdv ct) ⟨us, []⟩ = pure (ps.zip us)) : NewD P w K mg base c k [] F := by
  obtain ⟨C, f, fd, dV, hm, hM, hd, Fd⟩ := M.ex
  have e := hd fun _ => none
  cases e
  exact ⟨⟨C, f, fd, ps, [], [], hm, hM, .nil, fun _ => .nil, Fd.bindsN hb, h Fd⟩⟩
theorem newK_of {c q : Str} {st : Stmt} {ps ks : List Str} {k : Nat} {F : FM} (M : InitAt K mg c q st []) (h : ∀ {f fd}, FunD K "__init__" q (defArgs st) (defBody st) (defScope st) [] [] f fd → FnOk P w K mg base (L2.CX P w) k f fd ps (spM ⟨K, mg⟩ F))
    (hb : ∀ (kV doc pm : Value) (an : Option Addr) (cdv ct : Value) (a : Addr) (ws : List Value), ws.length + 1 = ps.length → bindArgs (PySem.W.fnOf "__init__" q (defArgs st) (defBody st) (defScope st) .none kV doc pm an cdv ct) ⟨[.ref a], ks.zip ws⟩ = pure (ps.zip (.ref a :: ws))) : NewK P w K mg base c k ks id F := by
  obtain ⟨C, f, fd, dV, hm, hM, hd, Fd⟩ := M.ex
  have e := hd fun _ => none
  cases e
  exact ⟨⟨C, f, fd, ps, hm, hM, ⟨id, id, fun s a ws _ hl => bindsKw Fd (fun kV doc pm an cdv ct => hb kV doc pm an cdv ct a ws hl) s, fun _ _ r => r, fun _ _ _ r => r⟩, h Fd⟩⟩
/-- .. with defaults: n values are given, the last ones are filled up -/
theorem newDd_of {c q : Str} {st : Stmt} {ps : List Str} {k : Nat} {F : FM} {dvs : List D} (n j : Nat) (M : InitAt K mg c q st dvs) (h : ∀ {f fd dV}, FunD K "__init__" q (defArgs st) (defBody st) (defScope st) dV [] f fd → FnOk P w K mg base (L2.CX P w) k f fd ps (spM ⟨K, mg⟩ F))
    (hd0 : dvs ≠ []) (hn : n + (dvs.length - j) = ps.length)
    (hb : ∀ (T : Addr) (kV doc pm : Value) (an : Option Addr) (cdv ct : Value) (us its : List Value), us.length = n → its.length = dvs.length →
      ∃ k, bindArgs (PySem.W.fnOf "__init__" q (defArgs st) (defBody st) (defScope st) (.ref T) kV doc pm an cdv ct) ⟨us, []⟩ = seqItems? (.ref T) >>= k ∧ k (some its.toArray) = pure (ps.zip (us ++ its.drop j))) : NewD P w K mg base c k (dvs.drop j) F := by
  obtain ⟨C, f, fd, dV, hm, hM, hd, Fd⟩ := M.ex
  have hl : dV.length = dvs.length := (hd fun _ => none).length
  have ne : dV ≠ [] := fun z => by
    rw [z] at hl
    exact hd0 (List.eq_nil_of_length_eq_zero hl.symm)
  obtain ⟨ds, r, b⟩ := Fd.binds1 n j ne (by rw [hl]; exact hn) (by rw [hl]; exact hb)
  exact ⟨⟨C, f, fd, ps, ds, dV.drop j, hm, hM, r, fun G => (hd G).drop j, b, h Fd⟩⟩
end
/-- the callable parameter, in a try's body -/
theorem LamIn.tr {X : Cx} {k : Nat} {f : Addr} {sp : Sp} (L : LamIn X k f sp) (pn : List (Addr × Obj)) (xe : Value → Shared → Prop) : LamIn (X.tr pn xe) k f sp := ⟨L.1, L.2⟩
end DL
namespace DL
open PySem PySem.Spec PyProof.Rows L2
/-- the module's dict x, told without a context -/
structure GDictM (w : World) (K : PySem.W.Frag) (mg : Str → Option Value) (x : Str) (tbl : List (Str × Int)) : Prop where
  ex : ∃ p es n, mg x = some (.ref p) ∧ KDict K w p es n ∧ ∀ z, match lkS tbl z with
    | some i => ∃ t, PySem.W.nsIn K p z = some (some (.int i t))
    | none => PySem.W.nsIn K p z = some none
theorem GDictM.x {X : Cx} {x : Str} {tbl : List (Str × Int)} (g : GDictM X.w X.K X.mg x tbl) : GDict X x tbl := ⟨g.ex⟩
end DL
-- DL33
set_option maxRecDepth 100000
set_option maxHeartbeats 4000000
/-! DL33: what defs with a callable parameter do, in plain words. -/
namespace DL
open PySem PySem.Spec PyProof.Rows L2
/-- the truth of a value that is a bool -/
def boolM (M : List D) (z : D) : Option Bool := match rd [.sto M] (.dv z) with
  | some (.bl b) => some b
  | _ => none
/-- the index of the first item that the callable refuses -/
def fwGo (TH : FM) (mk : List D → D) (xs : List D) : List D → Nat → List D → MO
  | [], _, M => .ok .non M
  | d :: ds, i, M => match TH M [d, mk (xs.take i)] with
    | .ok z M' => match boolM M' z with
      | some true => fwGo TH mk xs ds (i + 1) M'
      | some false => .ok (.int (i : Nat)) M'
      | none => .stk
    | .exc x M' => .exc x M'
    | .stk => .stk
def SpFW (TH : FM) : FM := fun M ds => match ds with
  | [.tup xs] => fwGo TH .tup xs xs 0 M
  | [.lst xs] => fwGo TH .lst xs xs 0 M
  | _ => .stk
noncomputable abbrev fwBody (TH : FM) (f : Addr) (G0 : Hp) : FS := (S.seq (S.for_ (I.enum (A.cons (E.var 0) A.nil)) (.tp [(.nm 2), (.nm 3)]) (S.seq (S.ifs (Tt.not (Tt.val (E.act 1 f G0 TH (A.cons (E.var 3) (A.cons (E.sl (E.var 0) P.no (P.at (E.var 2))) A.nil))))) (S.seq (S.ret (E.var 2)) S.nop) S.nop) S.nop))
  (S.seq (S.ret (E.cst .non)) S.nop))
def enumFrom : Nat → List D → List D
  | _, [] => []
  | k, d :: ds => .tup [.int (k : Nat), d] :: enumFrom (k + 1) ds
theorem enumFrom_get : ∀ (ds : List D) (k i : Nat), (enumFrom k ds)[i]? = (ds[i]?).map fun d => .tup [.int ((k + i : Nat)), d]
  | [], k, i => by simp [enumFrom]
  | d :: ds, k, 0 => by simp [enumFrom]
  | d :: ds, k, i + 1 => by
    rw [enumFrom, List.getElem?_cons_succ, List.getElem?_cons_succ, enumFrom_get ds (k + 1) i]
    have : k + 1 + i = k + (i + 1) := by omega
    rw [this]
theorem enumD_from (ds : List D) : enumD ds = enumFrom 0 ds := by
  apply List.ext_getElem?
  intro i
  rw [enumFrom_get]
  cases h : ds[i]? with
  | none =>
    have : (enumD ds).length ≤ i := by rw [enumD_len]; exact List.getElem?_eq_none_iff.mp h
    rw [List.getElem?_eq_none this]; rfl
  | some d => rw [enumD_get h]; simp
theorem look_sto {e : Ev} {M : List D} {z : D} (h : stoOf e = some M) : look e z = rd [.sto M] (.dv z) := by
  unfold rd look
  cases z <;> first | rfl | (dsimp only; rw [h]; rfl)
/-- what a store def's end gives -/
def outM : SO → MO
  | .nx e => match stoOf e with
    | some M' => .ok .non M'
    | none => .stk
  | .rt d e => match stoOf e with
    | some M' => .ok d M'
    | none => .stk
  | .exc x e => match stoOf e with
    | some M' => .exc x M'
    | none => .stk
  | _ => .stk
theorem runM_out (n : Nat) (body : FS) (M ds : List D) : runM n body M ds = outM (body (envOf ds (n - ds.length) [.sto M])) := by
  unfold runM outM
  cases body (envOf ds (n - ds.length) [.sto M]) <;> rfl
theorem cutD_take (xs : List D) (k : Nat) : cutD xs none (some (k : Int)) = xs.take k := by
  have h0 : HT.sIx xs.length 0 none = 0 := by simp [HT.sIx]
  have h1 : HT.sIx xs.length xs.length (some (k : Int)) = min k xs.length := by
    simp [HT.sIx]
    omega
  unfold cutD
  rw [h0, h1, List.drop_zero, Nat.sub_zero]
  rw [List.take_eq_take_iff]
  omega
noncomputable abbrev fwTurn (TH : FM) (f : Addr) (G0 : Hp) : FS := (S.seq (S.ifs (Tt.not (Tt.val (E.act 1 f G0 TH (A.cons (E.var 3) (A.cons (E.sl (E.var 0) P.no (P.at (E.var 2))) A.nil))))) (S.seq (S.ret (E.var 2)) S.nop) S.nop) S.nop)
theorem fw_loop (TH : FM) (f : Addr) (G0 : Hp) (V : D) (mk : List D → D) (xs : List D) (hsl : ∀ k : Nat, sliceD V none (some (k : Int)) = some (mk (xs.take k))) (hV : ∀ e : Ev, look e V = some V) : ∀ (ds : List D) (k : Nat) (M : List D) (s2 s3 : Slot) (hs : ∀ M, s2 ≠ .sto M) (hs' : ∀ M, s3 ≠ .sto M),
    outM (match loopS (.tp [(.nm 2), (.nm 3)]) (fwTurn TH f G0) (enumFrom k ds) [.val V, .val (.adr f G0), s2, s3, .sto M] with
      | .nx e => S.seq (S.ret (E.cst .non)) S.nop e
      | o => o) = fwGo TH mk xs ds k M
  | [], k, M, s2, s3, h2, h3 => by
    simp [enumFrom, loopS, S.seq, S.ret, E.cst, frz, outM, stoOf, fwGo]
  | d :: ds, k, M, s2, s3, h2, h3 => by
    rw [enumFrom, loopS]
    have hb : bindT (.tp [(.nm 2), (.nm 3)]) (.tup [.int (k : Nat), d]) [.val V, .val (.adr f G0), s2, s3, .sto M] = some [.val V, .val (.adr f G0), .val (.int (k : Nat)), .val d, .sto M] := by
      have p2 : put1 [.val V, .val (.adr f G0), s2, s3, .sto M] 2 (.val (.int (k : Nat))) = [.val V, .val (.adr f G0), .val (.int (k : Nat)), s3, .sto M] := by
        cases s2 <;> first | rfl | exact absurd rfl (h2 _)
      have p3 : put1 [.val V, .val (.adr f G0), .val (.int (k : Nat)), s3, .sto M] 3 (.val d) = [.val V, .val (.adr f G0), .val (.int (k : Nat)), .val d, .sto M] := by
        cases s3 <;> first | rfl | exact absurd rfl (h3 _)
      simp only [bindT, bindTs, p2, p3, Option.bind]
    rw [hb]
    have hg : (A.cons (E.var 3) (A.cons (E.sl (E.var 0) P.no (P.at (E.var 2))) A.nil)) [.val V, .val (.adr f G0), .val (.int (k : Nat)), .val d, .sto M] = .ok [d, mk (xs.take k)] [.val V, .val (.adr f G0), .val (.int (k : Nat)), .val d, .sto M] := by
      have h0 : rd [.val V, .val (.adr f G0), .val (.int (k : Nat)), .val d, .sto M] (.dv V) = some V := hV _
      have h1 : rd [.val V, .val (.adr f G0), .val (.int (k : Nat)), .val d, .sto M] (.dv (.int (k : Nat))) = some (.int (k : Nat)) := rfl
      simp [A.cons, A.nil, E.var, E.sl, P.no, P.at, frz, h0, h1, hsl]
    have ha : E.act 1 f G0 TH (A.cons (E.var 3) (A.cons (E.sl (E.var 0) P.no (P.at (E.var 2))) A.nil)) [.val V, .val (.adr f G0), .val (.int (k : Nat)), .val d, .sto M] = moR [.val V, .val (.adr f G0), .val (.int (k : Nat)), .val d, .sto M] (TH M [d, mk (xs.take k)]) := by
      unfold E.act
      simp only [List.getElem?_cons_succ, List.getElem?_cons_zero, and_self, if_true, hg, Out.bind_ok]
      rfl
    rw [fwGo]
    dsimp only
    cases q : TH M [d, mk (xs.take k)] with
    | stk =>
      rw [q] at ha
      have : fwTurn TH f G0 [.val V, .val (.adr f G0), .val (.int (k : Nat)), .val d, .sto M] = .stk := by
        simp [fwTurn, S.seq, S.ifs, Tt.not, Tt.val, ha, moR]
      rw [this]
      rfl
    | exc x M' =>
      rw [q] at ha
      have : fwTurn TH f G0 [.val V, .val (.adr f G0), .val (.int (k : Nat)), .val d, .sto M] = .exc x [.val V, .val (.adr f G0), .val (.int (k : Nat)), .val d, .sto M'] := by
        simp [fwTurn, S.seq, S.ifs, Tt.not, Tt.val, ha, moR, setSto]
      rw [this]
      rfl
    | ok z M' =>
      rw [q] at ha
      have hr : rd [.val V, .val (.adr f G0), .val (.int (k : Nat)), .val d, .sto M'] (.dv z) = rd [.sto M'] (.dv z) := look_sto rfl
      have ha' : E.act 1 f G0 TH (A.cons (E.var 3) (A.cons (E.sl (E.var 0) P.no (P.at (E.var 2))) A.nil)) [.val V, .val (.adr f G0), .val (.int (k : Nat)), .val d, .sto M] = .ok (.dv z) [.val V, .val (.adr f G0), .val (.int (k : Nat)), .val d, .sto M'] := ha
      cases qb : boolM M' z with
      | none =>
        have hn : ∀ b, rd [.sto M'] (.dv z) ≠ some (.bl b) := fun b e => by simp [boolM, e] at qb
        have : fwTurn TH f G0 [.val V, .val (.adr f G0), .val (.int (k : Nat)), .val d, .sto M] = .stk := by
          simp only [fwTurn, S.seq, S.ifs, Tt.not, Tt.val, ha', Out.bind_ok, hr]
          cases hz : rd [.sto M'] (.dv z) with
          | none => rfl
          | some y => cases y <;> first | rfl | exact absurd hz (hn _)
        rw [this]
        simp only [qb]
        rfl
      | some b =>
        have hb2 : rd [.sto M'] (.dv z) = some (.bl b) := by
          unfold boolM at qb
          split at qb
          · rename_i b' hz; cases qb; exact hz
          · cases qb
        cases b with
        | true =>
          have : fwTurn TH f G0 [.val V, .val (.adr f G0), .val (.int (k : Nat)), .val d, .sto M] = .nx [.val V, .val (.adr f G0), .val (.int (k : Nat)), .val d, .sto M'] := by
            simp [fwTurn, S.seq, S.ifs, Tt.not, Tt.val, ha', hr, hb2, S.nop]
          rw [this]
          simp only [qb]
          exact fw_loop TH f G0 V mk xs hsl hV ds (k + 1) M' (.val (.int (k : Nat))) (.val d) (fun _ z => nomatch z) (fun _ z => nomatch z)
        | false =>
          have : fwTurn TH f G0 [.val V, .val (.adr f G0), .val (.int (k : Nat)), .val d, .sto M] = .rt (.int (k : Nat)) [.val V, .val (.adr f G0), .val (.int (k : Nat)), .val d, .sto M'] := by
            simp [fwTurn, S.seq, S.ifs, Tt.not, Tt.val, ha', hr, hb2, S.nop, S.ret, E.var, frz]
          rw [this]
          simp only [qb]
          rfl
theorem fw_spec (TH : FM) (f : Addr) (G0 : Hp) (M : List D) (d : D) : mkM 4 2 (fwBody TH f G0) M [d, .adr f G0] = SpFW TH M [d] := by
  unfold mkM
  rw [if_pos (by rfl), runM_out]
  show outM (fwBody TH f G0 [.val d, .val (.adr f G0), .no, .no, .sto M]) = _
  have he : ∀ (V : D) (xs : List D), d = V → (V = .tup xs ∨ V = .lst xs) → fwBody TH f G0 [.val d, .val (.adr f G0), .no, .no, .sto M] = (match loopS (.tp [(.nm 2), (.nm 3)]) (fwTurn TH f G0) (enumFrom 0 xs) [.val V, .val (.adr f G0), .no, .no, .sto M] with
      | .nx e => S.seq (S.ret (E.cst .non)) S.nop e
      | o => o) := by
    rintro V xs rfl hd
    rw [← enumD_from]
    rcases hd with rfl | rfl
    · rfl
    · rfl
  cases d with
  | tup xs =>
    rw [he _ xs rfl (.inl rfl)]
    exact fw_loop TH f G0 (.tup xs) .tup xs (fun k => by show some _ = some _; rw [cutD_take]) (fun _ => rfl) xs 0 M .no .no (fun _ z => nomatch z) (fun _ z => nomatch z)
  | lst xs =>
    rw [he _ xs rfl (.inr rfl)]
    exact fw_loop TH f G0 (.lst xs) .lst xs (fun k => by show some _ = some _; rw [cutD_take]) (fun _ => rfl) xs 0 M .no .no (fun _ z => nomatch z) (fun _ z => nomatch z)
  | _ => simp [fwBody, S.seq, S.for_, I.enum, A.cons, A.nil, E.var, frz, outM, SpFW]
end DL
namespace DL
open PySem PySem.Spec PyProof.Rows L2
section
variable {X : Cx} {elt tg iter : Expr} {ifs : List Expr} {scope : Scope} {own : List (Str × Nat)} {pos py spos : Pos} {it : FI} {t : Tgt} {tt : FB} {f : FE} {y : Str}
/-- y = [.. for ..] on one line, y a local -/
theorem ds_setLc (i : Nat) (hc : X.calm = true) (hN : X.N.Nodup) (hi : DI X tg iter it) (ok : BlkOk X.N X.env.scope scope own) (hv : ∀ j, j ∈ t.slots → j ∈ own.map (·.2))
    (hg : ∀ (s : Shared) (H : Hp) (C : Addr) (cl : List (Str × Addr)) (fp : List Addr), DG (X.blk s H scope (compEnvC scope cl C X.env) fp) tg t) (ht : ∀ (s : Shared) (H : Hp) (C : Addr) (cl : List (Str × Addr)) (fp : List Addr), DTs (X.blk s H scope (compEnvC scope cl C X.env) fp) ifs tt)
    (he : ∀ (s : Shared) (H : Hp) (C : Addr) (cl : List (Str × Addr)) (fp : List Addr), DE (X.blk s H scope (compEnvC scope cl C X.env) fp) elt f) (hy : X.N[i]? = some y := by rfl) (hyl : X.env.scope.names.lookup y = some .local := by rfl) (hk : X.env.scope.kind = .function := by rfl) (hl : (py.line == pos.line) = true := by rfl)
    (ha : (scope.names.any fun (n, k) => n == y && (k == .local || k == .cell)) = false := by rfl) (hs : ∀ x, foldedSetIterable iter X.env x = pure x := by intro _; rfl) :
    DS X (.Assign [.Name y py] (.ListComp elt [⟨tg, iter, ifs, 0⟩] scope pos) spos) (S.set i (E.fz (E.lc it t (own.map (·.2)) tt f))) :=
  ⟨fun B W tk ps => (ps_setLc hc hN hy hyl (sw_true hk hyl hl ha) (hi.run B W tk) ok (fun s H C cl fp => pg_any fun B => (hg s H C cl fp).run B) (fun s H C cl fp => pts_any fun B => (ht s H C cl fp).run B (fun _ _ _ _ => False) takes0)
    (fun s H C cl fp => pe_any fun B => (he s H C cl fp).run B (fun _ _ _ _ => False) takes0) hs).imp fun De σ H q => tF_lc (W0 := W) hv (tE_fz (tS_set q))⟩
end
end DL
-- DL34
set_option maxRecDepth 100000
set_option maxHeartbeats 4000000
/-! DL34: the end of a law with tables, whose def wants no guards around. -/
namespace DL
open PySem PySem.Spec PyProof.Rows L2
open LamX (TabB)
/-- nothing of a store is marked in H -/
def NoOwn (H : Hp) : Prop := ∀ p n, H p ≠ some (.own n)
theorem lawGT {P : Program} {w : World} {K : PySem.W.Frag} {mg mb : Str → Option Value} {C : CXT} {k : Nat} {fa a : Addr} {cs : List (Addr × Addr)} {fd : FuncData} {x : Str} {sp : Sp} {s1 : Shared} {vs : List Value} {ns : List Int}
    (inK : K.In s1.heap) (hm : s1.heap.Ns mainGlobals mg) (hb : s1.heap.Ns builtinsNs mb) (hbb : ∀ x : Str, x ≠ "__name__" → mb x = bootBuiltins x) (noL : s1.heap.NoLimit) (g0 : s1.gens = #[])
    (tE : ∀ p ∈ cs, s1.heap.get? p.2 = some { cls := .none, data := .fields #[] }) (tN : ∀ p ∈ cs, K.lookup p.2 = none) (tC : ∀ p ∈ cs, PySem.W.CodeHd s1.heap p.1 p.2)
    (bmn : ∃ (bm : Addr) (ob : Obj), mg "__builtins__" = some (.ref bm) ∧ bm ≠ builtinsNs ∧ s1.heap.get? bm = some ob ∧ ob.cls = .type "module" ∧ ob.dict = some builtinsNs ∧ ob.data = .plain)
    (ha : s1.heap.get? a = some { cls := .type "list", data := .seq vs.toArray }) (hi : IntsAre vs ns) (hl : ns.length ≤ sizeLine) (hr : Room k callerA)
    (F : ∀ base : Heap, K.In base → base.Ns mainGlobals mg → (∀ p ∈ cs, TabB base mg p.1 p.2) → FnG P w K mg base C k fa fd [x] sp) (bnd : ∀ (s : Shared) (u : Value), BindsTo s fd ⟨[u], []⟩ [(x, u)])
    (hsp : ∀ H : Hp, (∀ p ∈ cs, H p.2 = some (.tbl #[])) → NoOwn H → SqL K H a (ns.map V.int) → sp [.ref a] H (fun v _ => v = .bl true) fun _ _ _ => False)
    (hC : ∀ H e s', C [] H s1 (fun _ _ _ => False) e s' → False) :
    codeAny (model P w) callerA (.call (.ref fa) ⟨[.ref a], []⟩) (fun r s' => r = .ok (.ret (.bool true)) ∧ OldK s1.heap s'.heap ∧ s'.os = s1.os ∧ AllBare s'.gens) s1 := by
  let ts : List Addr := cs.map (·.2)
  have inT : ∀ b ∈ ts, s1.heap.get? b = some { cls := .none, data := .fields #[] } ∧ K.lookup b = none := fun b hb => by
    obtain ⟨p, hp, rfl⟩ := List.mem_map.mp hb
    exact ⟨tE p hp, tN p hp⟩
  have atT : ∀ p ∈ cs, p.2 ∈ ts := fun p hp => List.mem_map.mpr ⟨p, hp, rfl⟩
  have aT : a ∉ ts := fun z => by
    have q := (inT a z).1
    rw [ha] at q
    cases congrArg Obj.data (Option.some.inj q)
  suffices go : ∀ H : Hp, (∀ b, b ∈ ts → H b = some (.tbl #[])) → (∀ b, b ∉ ts → H b = none ∨ ∃ o xs, H b = some (.frz o (.lst xs))) → SqL K H a (ns.map V.int) → HOk P w H s1.heap → (∀ b, b ∉ ts → H b ≠ none → b = a ∧ K.lookup a = none) →
      codeAny (model P w) callerA (.call (.ref fa) ⟨[.ref a], []⟩) (fun r s' => r = .ok (.ret (.bool true)) ∧ OldK s1.heap s'.heap ∧ s'.os = s1.os ∧ AllBare s'.gens) s1 by
    cases hk : K.lookup a with
    | some o =>
      have e := inK a o hk
      rw [ha] at e
      cases e
      refine go (fun b => if b ∈ ts then some (.tbl #[]) else none) (fun b h => if_pos h) (fun b h => .inl (if_neg h)) (.inr ⟨_, vs.toArray, _, hk, rfl, rfl, rfl, ?_, ?_⟩) (fun b u z => ?_) (fun b h z => absurd (if_neg h) z)
      · rw [List.size_toArray, hi.length]; exact hl
      · simpa using vals_ints hi
      · dsimp only at z
        split at z
        · rename_i h; cases z; exact (inT b h).1
        · cases z
    | none =>
      let o0 : Obj := { cls := .type "list", data := .seq vs.toArray }
      have atA : (if a ∈ ts then some (HO.tbl #[]) else if a = a then some (HO.frz o0 (.lst (ns.map V.int))) else none) = some (.frz o0 (.lst (ns.map V.int))) := (if_neg aT).trans (if_pos rfl)
      refine go (fun b => if b ∈ ts then some (.tbl #[]) else if b = a then some (.frz o0 (.lst (ns.map V.int))) else none) (fun b h => if_pos h) (fun b h => ?_) (.inl (.inr ⟨o0, atA⟩)) (fun b u z => ?_) (fun b h z => ?_)
      · skip
        rw [if_neg h]
        rcases Classical.em (b = a) with q | q
        · exact .inr ⟨o0, _, if_pos q⟩
        · exact .inl (if_neg q)
      · dsimp only at z
        split at z
        · rename_i h; cases z; exact (inT b h).1
        · split at z
          · rename_i h
            cases z
            subst h
            exact ⟨ha, by rw [List.length_map]; exact hl, vs, _, vals_ints hi, ha⟩
          · cases z
      · skip
        rw [if_neg h] at z
        rcases Classical.em (b = a) with q | q
        · exact ⟨q, hk⟩
        · exact (z (if_neg q)).elim
  intro H hT hO hS hok hA
  have keep : ∀ {b : Addr} {o : Obj}, s1.heap.get? b = some o → H b = none → (hidT s1.heap H).get? b = some o := fun e n => hidT_get e n
  have offA : ∀ {b : Addr} {o : Obj}, s1.heap.get? b = some o → (∀ us n, o.data ≠ .seq us n) → (∀ us : Array Value, us = #[] → o.data ≠ .fields us) → H b = none := fun {b o} e n1 n2 => by
    cases q : H b with
    | none => rfl
    | some u =>
      rcases Classical.em (b ∈ ts) with z | z
      · rw [(inT b z).1] at e
        cases e
        exact (n2 _ rfl rfl).elim
      · obtain ⟨z1, _⟩ := hA b z (by rw [q]; exact nofun)
        rw [z1, ha] at e
        cases e
        exact (n1 _ _ rfl).elim
  have nsB : ∀ {b : Addr} {m : Str → Option Value}, s1.heap.Ns b m → (hidT s1.heap H).Ns b m := fun {b m} z => by
    obtain ⟨o, es, ep, e, d, r⟩ := z
    exact ⟨o, es, ep, keep e (offA e (fun _ _ q => by rw [d] at q; cases q) fun _ _ q => by rw [d] at q; cases q), d, r⟩
  have inB : K.In (hidT s1.heap H) := fun b o e => keep (inK b o e) <| by
    cases q : H b with
    | none => rfl
    | some u =>
      rcases Classical.em (b ∈ ts) with z | z
      · rw [(inT b z).2] at e; cases e
      · obtain ⟨z1, z2⟩ := hA b z (by rw [q]; exact nofun)
        rw [z1, z2] at e
        cases e
  have tB : ∀ p ∈ cs, TabB (hidT s1.heap H) mg p.1 p.2 := fun p hp => by
    refine ⟨?_, ?_, fun z => ?_⟩
    · obtain ⟨o, us, f1, f2, f3, f4, f5, f6, f7, e1, r1, r2, r3, rest⟩ := tC p hp
      exact ⟨o, us, f1, f2, f3, f4, f5, f6, f7, keep e1 (offA e1 (fun _ _ q => by rw [r2] at q; cases q) fun us z q => by rw [r2] at q; cases q; subst z; simp at r3), r1, r2, r3, rest⟩
    · obtain ⟨bm, ob, b1, b2, b3, b4, b5, b6⟩ := bmn
      refine ⟨bm, ob, b1, b2, fun q => ?_, fun q => ?_, keep b3 (offA b3 (fun _ _ q => by rw [b6] at q; cases q) fun _ _ q => by rw [b6] at q; cases q), b4, b5, b6⟩
      · obtain ⟨o, es, ep, e, hd, _⟩ := hm
        rw [q, e] at b3
        cases b3
        rw [hd] at b6
        cases b6
      · rw [q, tE p hp] at b3
        cases b3
        cases b6
    · obtain ⟨o, es, ep, e, hd, _⟩ := hm
      rw [z, tE p hp] at e
      cases e
      cases hd
  have md : Mod K mg (hidT s1.heap H) := ⟨inB, nsB hm, ⟨mb, nsB hb, hbb⟩, noL.elim fun mc z => ⟨mc, nsB z.1, z.2⟩⟩
  have e0 : Env0 P w K mg (hidT s1.heap H) callerA [] s1 H := ⟨rfl, md, fun b o e => of_hidT e, Nat.le_of_eq (hidT_size _ _), trivial, (fun b z => by cases z), hok, .of_eq g0⟩
  have nO : NoOwn H := fun p n z => by
    rcases Classical.em (p ∈ ts) with q | q
    · rw [hT p q] at z; cases z
    · rcases hO p q with y | ⟨_, _, y⟩ <;> rw [y] at z <;> cases z
  have rn := (F _ inB (nsB hm) tB).run callerA [] s1 H ⟨[.ref a], []⟩ [.ref a] [.ref a] _ _ rfl hr e0 (bnd s1 (.ref a)) (.cons rfl .nil) (hsp H (fun p hp => hT _ (atT p hp)) nO hS)
  refine codeAny_mono rn ?_
  intro r s' h
  cases r with
  | error e => exact (hC H e s' h).elim
  | ok fl =>
    cases fl with
    | next => exact h.elim
    | brk => exact h.elim
    | cont => exact h.elim
    | ret u =>
      obtain ⟨v, H', os, bare, un, hok', rv, q⟩ := h
      obtain rfl : v = .bl true := q
      obtain rfl : u = Value.bool true := rv
      have old : ∀ b o, b ∉ ts → s1.heap.get? b = some o → s'.heap.get? b = some o := fun b o nb e => by
        rcases hO b nb with z | ⟨ob, xs, z⟩
        · exact un.keep b o e z (fun z => nomatch z) (fun z => nomatch z)
        · have h1 := (hok b _ z).1
          have h2 := (hok' b _ (un.frzs b ob _ z)).1
          rw [e] at h1
          cases h1
          exact h2
      have new : ∀ b ∈ ts, ∃ more : Array Value, s'.heap.get? b = some { cls := .none, data := .fields more } := fun b hb => by
        obtain ⟨more, z⟩ := un.tbls b #[] (hT b hb)
        exact ⟨_, hok' b _ z⟩
      refine ⟨rfl, ⟨fun b o e => ?_, fun b o e => ?_⟩, os, bare⟩
      · rcases Classical.em (b ∈ ts) with z | z
        · obtain ⟨more, y⟩ := new b z
          obtain ⟨p, hp, ep⟩ := List.mem_map.mp z
          subst ep
          rw [tE p hp] at e
          cases e
          exact .inr (.inl ⟨((tC p hp).tab (tE p hp)).isCodeTable, rfl, #[], more, rfl, by rw [Array.empty_append]; exact y⟩)
        · exact .inl (old b o z e)
      · rcases Classical.em (b ∈ ts) with z | z
        · obtain ⟨more, y⟩ := new b z
          exact ⟨_, y⟩
        · exact ⟨o, old b o z e⟩
theorem walkGT {l : PySem.W.OpenLaw} {n k : Nat} {q : Program} {loose : List Str} {XP : (Str → Option Value) → Heap → Prop} {YP : World → Heap → Prop} {d : DefRec} {x : Str}
    (hn : l.most = some n) (hn2 : n ≤ sizeLine) (hdf : d.params.defaults = []) (hr : Room k callerA)
    (F : ∀ (w : World) (mg : Str → Option Value) (fa : Addr) (h : Heap), YP w h → h.Ns mainGlobals mg → mg d.name = some (.ref fa) → ∃ (K : PySem.W.Frag) (fd : FuncData) (cs : List (Addr × Addr)) (sp : Sp), K.In h ∧
      (∀ p ∈ cs, h.get? p.2 = some { cls := .none, data := .fields #[] }) ∧ (∀ p ∈ cs, K.lookup p.2 = none) ∧ (∀ p ∈ cs, PySem.W.CodeHd h p.1 p.2) ∧ (∀ (s : Shared) (u : Value), BindsTo s fd ⟨[u], []⟩ [(x, u)]) ∧
      (∀ (H : Hp) (a : Addr) (ns : List Int), ns.length ≤ n → (∀ z ∈ ns, Builtin.Int.intBits z ≤ 1048576) → (∀ p ∈ cs, H p.2 = some (.tbl #[])) → NoOwn H → SqL K H a (ns.map V.int) → sp [.ref a] H (fun v _ => v = .bl true) fun _ _ _ => False) ∧
      ∀ base : Heap, K.In base → base.Ns mainGlobals mg → (∀ p ∈ cs, TabB base mg p.1 p.2) → FnG l.prog w K mg base (L2.CX l.prog w) k fa fd [x] sp)
    (hC : ∀ (w : World) (H : Hp) (s : Shared) (e : Value) (s' : Shared), L2.CX l.prog w [] H s (fun _ _ _ => False) e s' → False) : PySem.W.WalkO q loose XP YP l.row.toRowW d [] (fun f vs => PySem.call f vs) := by
  refine Att.attach_callB hn hdf ?_
  intro w s0 s1 mg mb fa o pm cd doc a vs ns G Y ho hd hcd hmg hobj hints hlen hbits hg
  obtain ⟨K, fd, cs, sp, inK, tE, tN, tC, hb, hsp, hF⟩ := F w mg fa _ Y G.T.g hmg
  exact lawGT inK G.T.g G.T.b G.T.builtins G.T.nolimit hg tE tN tC G.T.bmain hobj hints (Nat.le_trans hlen hn2) hr hF hb (fun H hT hO hS => hsp H a ns hlen hbits hT hO hS) fun H e s' => hC w H s1 e s'
/-- the store that a law begins with: the tables ps of the defs xs -/
theorem sto0 {T : Stt} {H : Hp} {ps : List Addr} {xs : List Str} (hl : ps.length = xs.length) (nd : ps.Nodup) (hT : ∀ p ∈ ps, H p = some (.tbl #[])) (hO : NoOwn H) (hx : ∀ (n : Nat) (p : Addr) (x : Str), ps[n]? = some p → xs[n]? = some x → TabOf T.K T.mg x p) :
    ∃ G, Le G H ∧ StoR T Bz G H (xs.map D.tab) ∧ ∀ {a : Addr} {is : List V}, SqL T.K H a is → (∀ p ∈ ps, p ≠ a) → SqL T.K G a is := by
  let G : Hp := fun b => if b ∈ ps then some (.own (ps.idxOf b)) else H b
  have g1 : ∀ b, b ∈ ps → G b = some (.own (ps.idxOf b)) := fun b h => if_pos h
  have g2 : ∀ b, b ∉ ps → G b = H b := fun b h => if_neg h
  refine ⟨G, fun b u e => ?_, ⟨rfl, fun n d e => ?_, fun p n e => ?_, fun p q n e1 e2 => ?_⟩, fun {a is} h na => ?_⟩
  · rcases Classical.em (b ∈ ps) with z | z
    · rw [g1 b z] at e
      cases e
      exact .inr (.inr ⟨_, _, rfl, hT b z, fun _ y => nomatch y⟩)
    · rw [g2 b z] at e
      exact .inl e
  · rw [List.getElem?_map] at e
    cases hx1 : xs[n]? with
    | none => rw [hx1] at e; cases e
    | some x =>
      rw [hx1] at e
      cases e
      have lt : n < ps.length := by rw [hl]; exact (List.getElem?_eq_some_iff.mp hx1).1
      have hp : ps[n]? = some ps[n] := List.getElem?_eq_getElem lt
      have mem : ps[n] ∈ ps := List.getElem_mem lt
      refine ⟨ps[n], ?_, rfl, rfl, .inr (.inr ⟨x, rfl, hx n _ x hp hx1, #[], hT _ mem, trivial, fun pos cv z => by cases z⟩)⟩
      rw [g1 _ mem, nd.idxOf_getElem n lt]
  · rcases Classical.em (p ∈ ps) with z | z
    · rw [g1 p z] at e
      cases e
      rw [List.length_map, ← hl]
      exact List.idxOf_lt_length_of_mem z
    · rw [g2 p z] at e
      exact (hO p n e).elim
  · have m1 : p ∈ ps := by
      rcases Classical.em (p ∈ ps) with z | z
      · exact z
      · rw [g2 p z] at e1; exact (hO p n e1).elim
    have m2 : q ∈ ps := by
      rcases Classical.em (q ∈ ps) with z | z
      · exact z
      · rw [g2 q z] at e2; exact (hO q n e2).elim
    rw [g1 p m1] at e1
    rw [g1 q m2] at e2
    cases e1
    have e3 : ps.idxOf q = ps.idxOf p := by injection (Option.some.inj e2)
    have l1 := List.idxOf_lt_length_of_mem m1
    have l2 := List.idxOf_lt_length_of_mem m2
    have a1 : ps[ps.idxOf p] = p := List.getElem_idxOf l1
    have a2 : ps[ps.idxOf q] = q := List.getElem_idxOf l2
    rw [← a1, ← a2]
    congr 1
    exact e3.symm
  · have ea : G a = H a := g2 a fun z => na a z rfl
    rcases h with h | h
    · left
      unfold Rd at h ⊢
      rw [ea]
      exact h
    · exact .inr h
end DL
-- DL35
set_option maxRecDepth 100000
set_option maxHeartbeats 4000000
/-! DL35: more facts of the head: Web, classes with fields, methods, dicts of the module, tables of code objects. -/
namespace DL
open PySem PySem.Spec PyProof.Rows L2 He
section
variable {fa : List Fa} {fn : List DefD} {K : PySem.W.Frag} {h : Heap} {mg : Str → Option Value} {base : Heap} {P : Program} {w : World}
/-! ### dicts of the module -/
def rowS (e : DictEntry) : Option (Str × Int) := match e.key, e.val with
  | .str x _, .int i _ => some (x, i)
  | _, _ => none
def dicS (K : PySem.W.Frag) (a : Addr) (tbl : List (Str × Int)) : Bool := match K.lookup a with
  | some ⟨_, _, .dict es _, _⟩ => decide (es.toList.map rowS = tbl.map some)
  | _ => false
theorem rowS_find (z : Str) : ∀ {l : List DictEntry} {tbl : List (Str × Int)}, l.map rowS = tbl.map some → match lkS tbl z with
    | some i => ∃ e t, l.find? (·.key.isStr z) = some e ∧ e.val = .int i t
    | none => l.find? (·.key.isStr z) = none ∧ l.any (·.refKey) = false
  | [], [], _ => ⟨rfl, rfl⟩
  | [], _ :: _, q => by cases q
  | _ :: _, [], q => by cases q
  | e :: r, (x, i) :: t, q => by
    have q2 : rowS e :: r.map rowS = some (x, i) :: t.map some := q
    injection q2 with q3 q4
    have ih := rowS_find z q4
    obtain ⟨k, hs, v⟩ := e
    unfold rowS at q3
    split at q3
    · rename_i x' tk i' tv hk hv
      cases q3
      dsimp only at hk hv
      subst hk hv
      unfold lkS at ih ⊢
      rw [List.find?_cons, List.find?_cons]
      by_cases e : x = z
      · subst e
        simp only [decide_true, Value.isStr, beq_self_eq_true, Option.map_some]
        exact ⟨_, _, rfl, rfl⟩
      · have e2 : (x == z) = false := by
          cases y : x == z with
          | false => rfl
          | true => exact (e (eq_of_beq y)).elim
        simp only [e, decide_false, Value.isStr, e2]
        revert ih
        cases (List.find? (fun q => decide (q.1 = z)) t).map (·.2) with
        | some j => exact id
        | none => exact fun ih => ⟨ih.1, by rw [List.any_cons, ih.2]; rfl⟩
    · cases q3
theorem gdictM_of (X : K.In h) (G : h.Ns mainGlobals mg) {x : Str} {tbl : List (Str × Int)} (h1 : (Fa.glo x).ok K = true) (D : ∃ es n, KDict K w (ga K x) es n) (h2 : dicS K (ga K x) tbl = true) : GDictM w K mg x tbl := by
  obtain ⟨es, n, D⟩ := D
  refine ⟨⟨_, es, n, glo_ok X G h1, D, fun z => ?_⟩⟩
  unfold dicS at h2
  rw [D.at_] at h2
  have q := rowS_find z (of_decide_eq_true h2)
  revert q
  unfold PySem.W.nsIn
  rw [D.at_]
  cases lkS tbl z with
  | some i =>
    rintro ⟨e, t, q1, q2⟩
    refine ⟨t, ?_⟩
    dsimp only
    rw [q1]
    exact congrArg (fun v => some (some v)) q2
  | none =>
    rintro ⟨q1, q2⟩
    dsimp only
    rw [q1, q2]
    rfl
/-! ### classes -/
theorem objT_of (X : K.In h) (G : h.Ns mainGlobals mg) {c : Str} {fs : List Str} (h1 : (Fa.glo c).ok K = true) (h2 : (Fa.cls c).ok K = true) (h3 : ∀ f ∈ fs, (Fa.noat c f).ok K = true) : ObjT K mg c fs := ⟨⟨_, glo_ok X G h1, cls_ok h2, fun f hf => noat_ok (h3 f hf)⟩⟩
theorem webT_of (T : ObjT K mg "Web" ["people", "friends", "foes", "kept"]) : WebT K mg := by
  obtain ⟨C, h1, h2, h3⟩ := T.ex
  exact ⟨⟨C, h1, h2, h3 _ (by simp), h3 _ (by simp), h3 _ (by simp), h3 _ (by simp)⟩⟩
def webIB (K : PySem.W.Frag) : Bool := eqO (PySem.W.findIn K (.ref (ga K "Web")) "__class__") (some (some (.builtin "object.__class__"))) && (eqO (PySem.W.specialIn K (.builtin "object.__class__") "__get__") (some (some (.builtin "getset_descriptor.__get__"))) &&
  (decide (PySem.W.takesIn K (.builtin "object.__class__") = some true) && (decide (PySem.W.mroIn K (ga K "Web") (.type "object") = some true) && ((["int", "bool", "str", "tuple"] : List String).all (fun t => decide (PySem.W.kitOne K (.ref (ga K "Web")) (.type t) = some false)) &&
  ((["NoneType", "int", "bool", "str", "tuple", "list", "dict"] : List String).all (fun t => decide (PySem.W.kitOne K (.type t) (.ref (ga K "Web")) = some false)) && decide (PySem.W.kitOne K (.ref (ga K "Web")) (.ref (ga K "Web")) = some true))))))
theorem webI_of (X : K.In h) (G : h.Ns mainGlobals mg) (h1 : (Fa.glo "Web").ok K = true) (h2 : (Fa.cls "Web").ok K = true) (e : webIB K = true) : WebI K mg := by
  obtain ⟨e1, e⟩ := ba e
  obtain ⟨e2, e⟩ := ba e
  obtain ⟨e3, e⟩ := ba e
  obtain ⟨e4, e⟩ := ba e
  obtain ⟨e5, e⟩ := ba e
  obtain ⟨e6, e7⟩ := ba e
  exact ⟨⟨_, glo_ok X G h1, cls_ok h2, eqO_ok e1, eqO_ok e2, of_decide_eq_true e3, of_decide_eq_true e4, fun t ht => of_decide_eq_true (List.all_eq_true.mp e5 t ht), fun t ht => of_decide_eq_true (List.all_eq_true.mp e6 t ht), of_decide_eq_true e7⟩⟩
def exmB (K : PySem.W.Frag) (cs : List Str) : Bool := cs.all fun c => cs.all fun b => decide (PySem.W.exmOne K (.ref (ga K c)) (.ref (ga K b)) = some (subE c b))
theorem errX_of (X : K.In h) (G : h.Ns mainGlobals mg) {cs fs : List Str} (e : errB K cs fs = true) (x : exmB K cs = true) : ErrX K mg cs := by
  have at_ : ∀ c ∈ cs, mg c = some (.ref (ga K c)) := fun c hc => PySem.W.mg_of X G (eqO_ok (ba (List.all_eq_true.mp e c hc)).1)
  refine ⟨fun c hc b hb C D hC hD => ?_, fun c hc => ⟨_, at_ c hc⟩⟩
  rw [at_ c hc] at hC; cases hC
  rw [at_ b hb] at hD; cases hD
  exact of_decide_eq_true (List.all_eq_true.mp (List.all_eq_true.mp x c hc) b hb)
theorem excT_of {c f : Str} (x : ExcI P w K mg base c f) : ExcT P w K mg base c f := by
  obtain ⟨C, fI, fd, h1, h2, h3, h4, h5, h6, h7, h8⟩ := x.ex
  exact ⟨⟨C, fI, fd, h1, h2, h4, h5, h6, h7⟩⟩
theorem methAt_of (X : K.In h) (G : h.Ns mainGlobals mg) {c m q : Str} {st : Stmt} {fd : FuncData} (h1 : (Fa.glo c).ok K = true) (h2 : (Fa.cls c).ok K = true) (h3 : (Fa.meth c m).ok K = true) (F : FunD K m q (defArgs st) (defBody st) (defScope st) [] [] (ma K (ga K c) m) fd) : MethAt K mg c m q st :=
  ⟨⟨_, _, fd, glo_ok X G h1, cls_ok h2, meth_ok h3, F⟩⟩
theorem initAt_of (X : K.In h) (G : h.Ns mainGlobals mg) {c q : Str} {st : Stmt} {fd : FuncData} {dV : List V} {dvs : List D} (h1 : (Fa.glo c).ok K = true) (h3 : (Fa.mkr c).ok K = true) (hd : ∀ G, VRels ⟨K, mg⟩ G dV dvs) (F : FunD K "__init__" q (defArgs st) (defBody st) (defScope st) dV [] (ma K (ga K c) "__init__") fd) : InitAt K mg c q st dvs :=
  ⟨⟨_, _, fd, dV, glo_ok X G h1, mkr_ok h3, hd, F⟩⟩
/-- an empty tuple of the module's -/
def tup0B (K : PySem.W.Frag) (a : Addr) : Bool := match K.lookup a with
  | some ⟨.type c, _, .seq its _, _⟩ => decide (c = "tuple") && its.toList.isEmpty
  | _ => false
theorem tup0_of {T : Stt} {a : Addr} (e : tup0B T.K a = true) (G : Hp) : VRel T G (.ref a) (.tup []) := by
  unfold tup0B at e
  split at e
  · rename_i c d its n sl hk
    obtain ⟨e1, e2⟩ := ba e
    have e3 : its.toList = [] := List.isEmpty_iff.mp e2
    refine .tup (vs := []) (.inr ⟨rfl, _, its, n, hk, congrArg Value.type (of_decide_eq_true e1), rfl, ?_, ?_⟩) .nil
    · have : its.size = its.toList.length := by simp
      rw [this, e3]
      exact Nat.zero_le _
    · rw [e3]; exact .nil
  · cases e
/-! ### tables -/
theorem codeOf_of {x q : Str} {st : Stmt} {dvs : List V} {kws : List (Str × V)} {fd : FuncData} (hm : mg x = some (.ref (ga K x))) (F : FunD K x q (defArgs st) (defBody st) (defScope st) dvs kws (ga K x) fd) : CodeOf K mg x (.ref (cT K (x, none)).1) := by
  obtain ⟨oc, od, dV, kV, doc, pm, an, cdv, ct, osl, rfl, lk, hcd, _, _⟩ := F.ex
  obtain ⟨c, rfl⟩ := codeIn_ref hcd
  refine ⟨_, oc, od, _, osl, hm, lk, ?_⟩
  exact congrArg Value.ref (codeOf_eq (p := (x, none)) lk rfl).symm
theorem tabH_of {x q : Str} {st : Stmt} {dvs : List V} {kws : List (Str × V)} {fd : FuncData} (hm : mg x = some (.ref (ga K x))) (F : FunD K x q (defArgs st) (defBody st) (defScope st) dvs kws (ga K x) fd) (hc : PySem.W.codeHdIn K (cT K (x, none)).1 (cT K (x, none)).2 = true) (B : LamX.TabB base mg (cT K (x, none)).1 (cT K (x, none)).2) : TabH K mg base x :=
  ⟨⟨_, _, codeOf_of hm F, B, hc⟩⟩
theorem TabH.of {x : Str} {c p : Addr} (H : TabH K mg base x) (e : CodeOf K mg x (.ref c)) (hc : PySem.W.codeHdIn K c p = true) : TabOf K mg x p := by
  obtain ⟨f, oc, od, fd, osl, a1, a2, a3⟩ := e
  exact ⟨f, oc, od, fd, osl, c, a1, a2, a3, hc⟩
theorem tabOf_of {x : Str} {c p : Addr} (e : CodeOf K mg x (.ref c)) (hc : PySem.W.codeHdIn K c p = true) : TabOf K mg x p := by
  obtain ⟨f, oc, od, fd, osl, a1, a2, a3⟩ := e
  exact ⟨f, oc, od, fd, osl, c, a1, a2, a3, hc⟩
def tyglB (K : PySem.W.Frag) (x : Str) (t : String) : Bool := eqO (PySem.W.nsIn K mainGlobals x) (some (some (.type t)))
theorem tygl_of (X : K.In h) (G : h.Ns mainGlobals mg) {x : Str} {t : String} (e : tyglB K x t = true) : mg x = some (.type t) := PySem.W.mg_of X G (eqO_ok e)
def ndTabB (K : PySem.W.Frag) (tf : List Defn) : Bool := decide ((tf.map fun p => (cT K p).2).Nodup)
end
end DL
-- DL36
set_option maxRecDepth 100000
set_option maxHeartbeats 4000000
/-! DL36: texts: split, join, index, signs walked, a sign in a text. -/
namespace DL
open PySem PySem.Spec PyProof.Rows L2
/-! ### methods of texts with one argument -/
def E.sm (op : D → D → Option D) (f g : FE) : FE := fun env => (f env).bind fun a e1 => match rd e1 a with
  | some (.str x) => (g e1).bind fun b e2 => match rd e2 b with
    | some y => match op (.str x) y with
      | some z => .ok (.dv z) e2
      | none => .stk
    | none => .stk
  | _ => .stk
theorem tE_sm {T : Stt} {B : Bse} {W : WX} {op : D → D → Option D} {f g : FE} {r : V → List V → Hp → VK → Prop} {σ : St} {H : Hp} {Q : VK}
    (hr : ∀ (x : Str) (y z : D) (G H : Hp) (v : V) (Q : VK), op (.str x) y = some z → Le G H → ORel T G H v y → (∀ v', VRel T G v' z → Q v' H) → r (.str x) [v] H Q)
    (h : tE T B W (E.sm op f g) σ H Q) : tM1 r (tE T B W f) (tE T B W g) σ H Q := by
  obtain ⟨G, env, S, h⟩ := h
  refine ⟨G, env, S, ?_⟩
  unfold E.sm at h
  cases q : f env with
  | stk => simp [q, oE] at h
  | exc x e' => simp only [q, Out.bind_exc] at h; exact h
  | ok a e1 =>
    simp only [q, Out.bind_ok] at h
    refine fun G1 H1 S1 l1 v1 r1 => ?_
    split at h
    · rename_i x qa
      obtain rfl := (S1.orel r1 qa).str
      refine ⟨⟨x, rfl⟩, G1, e1, S1, ?_⟩
      cases q2 : g e1 with
      | stk => simp [q2, oE] at h
      | exc x e' =>
        simp only [q2, Out.bind_exc] at h
        exact fun cls d G' H' S' l' => h cls d G' H' S' (l1.trans l')
      | ok b e2 =>
        simp only [q2, Out.bind_ok] at h
        refine fun G2 H2 S2 l2 v2 r2 => ?_
        cases qb : rd e2 b with
        | none => simp [qb, oE] at h
        | some y =>
          simp only [qb] at h
          cases qz : op (.str x) y with
          | none => simp [qz, oE] at h
          | some z =>
            simp only [qz] at h
            exact hr x y z G2 H2 v2 Q qz S2.gh (S2.orel r2 qb) fun v' rv => h G2 H2 S2 (l1.trans l2) v' rv
    · exact h.elim
def strsOf : List D → Option (List Str)
  | [] => some []
  | .str x :: r => (strsOf r).map (x :: ·)
  | _ :: _ => none
theorem strsOf_eq : ∀ {ds : List D} {ys : List Str}, strsOf ds = some ys → ds = ys.map .str
  | [], ys, h => by cases h; rfl
  | d :: r, ys, h => by
    cases d with
    | str x =>
      simp only [strsOf] at h
      cases q : strsOf r with
      | none => rw [q] at h; cases h
      | some zs =>
        rw [q] at h
        cases h
        rw [strsOf_eq q]
        rfl
    | _ => simp [strsOf] at h
theorem VRels.strs6 {T : Stt} {G : Hp} : ∀ {ys : List Str} {vs : List V}, VRels T G vs (ys.map D.str) → vs = ys.map V.str
  | [], vs, r => by cases r; rfl
  | y :: ys, vs, r => by
    have r2 : VRels T G vs (D.str y :: ys.map D.str) := r
    cases r2 with
    | cons r rs =>
      cases r
      rw [VRels.strs6 rs]
      rfl
def joinD : D → D → Option D
  | .str a, .lst ds => match strsOf ds with
    | some ys => if (ys.map (·.length)).sum + ys.length * a.length ≤ 16777216 then some (.str (Txt.join a ys)) else none
    | none => none
  | _, _ => none
def idxSD : D → D → Option D
  | .str a, .str b => match Builtin.Str.occurrences a b 0 a.length 1 with
    | i :: _ => some (.int (i : Nat))
    | [] => none
  | _, _ => none
section
variable {X : Cx} {o e : Expr} {f g : FE} {apos pos : Pos}
theorem de_join (ho : DE X o f) (he : DE X e g) (hs : starEach [e] X.env = [(false, eval e X.env)] := by rfl) (hbase : attributeBase o "join" X.env (eval o X.env) = eval o X.env := by rfl) (hline : (apos.endLine == pos.line) = true := by rfl) :
    DE X (.Call (.Attribute o "join" apos) [e] [] pos) (E.sm joinD f g) := by
  refine ⟨fun B W tk => (pe_join (ho.run B W tk) (he.run B W tk) hs hbase hline).imp fun σ H Q h => tE_sm (fun x y z G H v Q hz l oy k => ?_) h⟩
  unfold joinD at hz
  split at hz
  · rename_i a ds e1
    cases e1
    split at hz
    · rename_i ys hy
      split at hz
      · rename_i hl
        cases hz
        obtain ⟨p, vs, rfl, hh, rs⟩ := oy.lst l
        rw [strsOf_eq hy] at rs
        rw [rs.strs6] at hh
        exact ⟨x, p, ys, rfl, rfl, .inl (SqL.of hh), hl, k _ (.str _)⟩
      · cases hz
    · cases hz
  · cases hz
theorem de_idxS (ho : DE X o f) (he : DE X e g) (mk : ∀ {to te : TE}, PE X o to → PE X e te → PE X (.Call (.Attribute o "index" apos) [e] [] pos) (tM1 (fun x xs H Q => ∃ a b i rest, x = .str a ∧ xs = [.str b] ∧ Builtin.Str.occurrences a b 0 a.length 1 = i :: rest ∧ Q (.int (i : Nat)) H) to te) := by
      intro to te h1 h2; exact pe_m1 PySem.F.slot_str_index PySem.F.type_str_index mt_sindex h1 h2 (by rfl) (by rfl) (by rfl)) :
    DE X (.Call (.Attribute o "index" apos) [e] [] pos) (E.sm idxSD f g) := by
  refine ⟨fun B W tk => (mk (ho.run B W tk) (he.run B W tk)).imp fun σ H Q h => tE_sm (fun x y z G H v Q hz l oy k => ?_) h⟩
  unfold idxSD at hz
  split at hz
  · rename_i a b e1
    cases e1
    obtain rfl := oy.str
    split at hz
    · rename_i i rest hi
      cases hz
      exact ⟨x, b, i, rest, rfl, rfl, hi, k _ (.int _)⟩
    · cases hz
  · cases hz
/-! ### split -/
def E.split (f g : FE) : FD := fun env => (f env).bind fun a e1 => match rd e1 a with
  | some (.str x) => (g e1).bind fun b e2 => match rd e2 b with
    | some (.str y) => if (y.length == 0) = false ∧ x.length + 2 ≤ sizeLine then .ok (.lst ((Txt.split x y).map .str)) e2 else .stk
    | _ => .stk
  | _ => .stk
theorem VRels.ofStrs {T : Stt} {G : Hp} : ∀ (ys : List Str), VRels T G (ys.map V.str) (ys.map D.str)
  | [] => .nil
  | y :: ys => .cons (.str y) (VRels.ofStrs ys)
theorem df_split (ho : DE X o f) (he : DE X e g) (hs : starEach [e] X.env = [(false, eval e X.env)] := by rfl) (hbase : attributeBase o "split" X.env (eval o X.env) = eval o X.env := by rfl) (hline : (apos.endLine == pos.line) = true := by rfl) :
    DF X (.Call (.Attribute o "split" apos) [e] [] pos) (E.split f g) := by
  refine ⟨fun B W tk => (pe_split (ho.run B W tk) (he.run B W tk) hs hbase hline).imp fun σ H Q h => ?_⟩
  obtain ⟨G, env, S, h⟩ := h
  refine ⟨G, env, S, ?_⟩
  unfold E.split at h
  cases q : f env with
  | stk => simp [q, oE] at h
  | exc x e' => simp only [q, Out.bind_exc] at h; exact h
  | ok a e1 =>
    simp only [q, Out.bind_ok] at h
    refine fun G1 H1 S1 l1 v1 r1 => ?_
    split at h
    · rename_i x qa
      obtain rfl := (S1.orel r1 qa).str
      refine ⟨⟨x, rfl⟩, G1, e1, S1, ?_⟩
      cases q2 : g e1 with
      | stk => simp [q2, oE] at h
      | exc x e' =>
        simp only [q2, Out.bind_exc] at h
        exact fun cls d G' H' S' l' => h cls d G' H' S' (l1.trans l')
      | ok b e2 =>
        simp only [q2, Out.bind_ok] at h
        refine fun G2 H2 S2 l2 v2 r2 => ?_
        split at h
        · rename_i y qb
          obtain rfl := (S2.orel r2 qb).str
          split at h
          · rename_i hl
            refine ⟨x, y, rfl, rfl, hl.1, hl.2, fun p hp => ?_⟩
            obtain ⟨S3, n1, n2, n3⟩ := S2.fresh (o := .lst ((Txt.split x y).map V.str)) hp
            exact h _ _ S3 (l1.trans l2) p n1 n2 n3 ⟨_, upd_same, VRels.ofStrs _⟩
          · exact h.elim
        · exact h.elim
    · exact h.elim
end
/-! ### the signs of a text, walked -/
def I.chars (f : FE) : FI := fun env => (f env).bind fun a e1 => match rd e1 a with
  | some (.str x) => .ok (x.cps.toList.map fun c => .str ⟨#[c]⟩) e1
  | _ => .stk
theorem dw_chars {T : Stt} {G1 L : Hp} (x : Str) : DWalk T (Its x) G1 L (x.cps.toList.map fun c => .str ⟨#[c]⟩) where
  goes := fun i H hi _ _ => by show i < x.cps.size; simpa using hi
  stops := fun H _ _ => by show x.cps.size ≤ _; simp
  yields := fun i H v H' hi _ _ y => by
    obtain ⟨e, c, hc, ev⟩ := y
    subst e ev
    exact ⟨.str ⟨#[c]⟩, by simp [hc], fun G g gh => ⟨G, Same.refl G, gh, Same.refl _, fun a u e => .inl e, .str _⟩⟩
section
variable {X : Cx} {tg e : Expr} {f : FE}
theorem di_chars (he : DE X e f) : DI X tg e (I.chars f) := by
  refine ⟨fun B W tk => ⟨fun pins s σ H R Iv h => (pi_str (he.run B W tk)).run pins s σ H R Iv ?_⟩⟩
  obtain ⟨G, env, S, h⟩ := h
  refine ⟨G, env, S, ?_⟩
  unfold I.chars at h
  cases q : f env with
  | stk => simp [q, oE] at h
  | exc x e' => simp only [q, Out.bind_exc] at h; exact h
  | ok a e1 =>
    simp only [q, Out.bind_ok] at h
    refine fun G1 H1 S1 l1 v1 r1 => ?_
    split at h
    · rename_i x qa
      obtain rfl := (S1.orel r1 qa).str
      exact ⟨x, rfl, h G1 H1 S1 l1 _ H1 B (BExt.refl B) S1 (dw_chars x)⟩
    · exact h.elim
/-! ### a sign in a text -/
def inSD : D → D → Option D
  | .str x, .str z => match x.cps.toList with
    | [c] => some (.bl (decide (c ∈ z.cps.toList)))
    | _ => none
  | _, _ => none
theorem op_inSD : OpD X (compareOp .In) inSD := by
  intro pins s σ H x y v u Q I rx ry h2
  obtain ⟨G, d, e, z, l, ox, oy, hz, k⟩ := h2
  unfold inSD at hz
  split at hz
  · rename_i a b
    split at hz
    · rename_i c hc
      cases hz
      obtain rfl := ox.str
      obtain rfl := oy.str
      have ea : a = ⟨#[c]⟩ := by
        obtain ⟨cs⟩ := a
        have : cs = #[c] := by
          apply Array.ext'
          simpa using hc
        rw [this]
      subst ea
      exact op_in_sign pins s σ H _ _ v u Q I rx ry ⟨c, b, rfl, rfl, Kont.same k l (.bl _)⟩
    · cases hz
  · cases hz
end
end DL
-- DL37
set_option maxRecDepth 100000
set_option maxHeartbeats 4000000
/-! DL37: pop of a store list, starred parts of displays. -/
namespace DL
open PySem PySem.Spec PyProof.Rows L2
def E.popM (fo : FE) : FE := fun env => (fo env).bind fun a e1 => match a with
  | .dv (.ptr n) => match stoOf e1 with
    | some M => match M[n]? with
      | some (.lst xs) => match xs.getLast? with
        | some d => .ok (.dv d) (setSto e1 (M.set n (.lst xs.dropLast)))
        | none => .stk
      | _ => .stk
    | none => .stk
  | _ => .stk
section
variable {X : Cx} {o e : Expr} {p2 cpos pos : Pos} {es : List Expr}
theorem de_popM {fo : FE} (ho : DE X o fo) (mk : ∀ {to : TE}, PE X o to → PE X (.Call (.Attribute o "pop" p2) [] [] cpos) (tBM0 X.K "list" rPop to) := by
      intro to h1; exact pe_bm0 PySem.F.plainAttrs_list PySem.F.slot_list_pop PySem.F.type_list_pop mt_pop h1) : DE X (.Call (.Attribute o "pop" p2) [] [] cpos) (E.popM fo) := by
  refine ⟨fun B W tk => (mk (ho.run B W tk)).imp fun σ H Q h => ?_⟩
  obtain ⟨G, env, S, h⟩ := h
  refine ⟨G, env, S, ?_⟩
  unfold E.popM at h
  cases q : fo env with
  | stk => simp [q, oE] at h
  | exc x e' => simp only [q, Out.bind_exc] at h; exact h
  | ok a e1 =>
    simp only [q, Out.bind_ok] at h
    refine fun G1 H1 S1 l1 v1 r1 => ?_
    split at h
    · rename_i n
      cases hM : stoOf e1 with
      | none => simp [hM, oE] at h
      | some M =>
        simp only [hM] at h
        split at h
        · rename_i xs hd0
          cases ql : xs.getLast? with
          | none => simp [ql, oE] at h
          | some d =>
            simp only [ql] at h
            obtain ⟨p, rfl, hp, hc⟩ := S1.stoAt hM hd0 r1
            rcases hc with hc | ⟨_, _, _, _, _, _, z, _⟩ | ⟨_, z, _⟩
            · obtain ⟨vs, hh, rr⟩ := hc
              rw [List.getLast?_eq_getElem?] at ql
              obtain ⟨v, hv2, rv⟩ := rr.get' ql
              refine ⟨.inl ⟨rfl, _, SqL.of hh⟩, p, vs, v, rfl, rfl, hh, by rw [rr.length]; exact hv2, ?_⟩
              exact h G1 _ (S1.updP hM hp (.inl ⟨_, upd_same, rr.dropLast⟩)) l1 v rv
            · cases z
            · cases z
        · exact h.elim
    · exact h.elim
end
/-! ### starred parts -/
def seqOf : D → Option (List D)
  | .tup xs => some xs
  | .lst xs => some xs
  | _ => none
def A.star (f : FE) (g : FA) : FA := fun env => (f env).bind fun a e1 => match frz e1 a with
  | some (d, e2) => match seqOf d with
    | some xs => (g e2).bind fun ds e3 => .ok (xs ++ ds) e3
    | none => .stk
  | none => .stk
theorem seqOf_rel {T : Stt} {G H : Hp} {v : V} {d : D} {xs : List D} (l : Le G H) (r : VRel T G v d) (h : seqOf d = some xs) : ∃ p vs, v = .ref p ∧ (SqT T.K H p vs ∨ SqL T.K H p vs) ∧ VRels T G vs xs := by
  cases r with
  | tup ht rs => cases h; exact ⟨_, _, rfl, .inl (ht.sq l), rs⟩
  | lst ht rs => cases h; exact ⟨_, _, rfl, .inr (SqL.of (l.nd ht True.intro)), rs⟩
  | _ => cases h
theorem tA_star {T : Stt} {B : Bse} {W : WX} {f : FE} {g : FA} {σ : St} {H : Hp} {Q : List V → Hp → Prop} (h : tAr T B W (A.star f g) σ H Q) : StX.tStar T.K (tE T B W f) (tAr T B W g) σ H Q := by
  obtain ⟨G, env, S, h⟩ := h
  refine ⟨G, env, S, ?_⟩
  unfold A.star at h
  cases q : f env with
  | stk => simp [q, oE] at h
  | exc x e' => simp only [q, Out.bind_exc] at h; exact h
  | ok a e1 =>
    simp only [q, Out.bind_ok] at h
    refine fun G1 H1 S1 l1 v1 r1 => ?_
    cases qf : frz e1 a with
    | none => simp [qf, oE] at h
    | some p =>
      obtain ⟨d, e2⟩ := p
      simp only [qf] at h
      obtain ⟨G2, S2, l2, rv⟩ := S1.frz r1 qf
      cases qs : seqOf d with
      | none => simp [qs, oE] at h
      | some xs =>
        simp only [qs] at h
        obtain ⟨p, vs, ev, hs, rs⟩ := seqOf_rel S2.gh rv qs
        refine ⟨p, vs, ev, hs, G2, e2, S2, ?_⟩
        cases q2 : g e2 with
        | stk => simp [q2, oE] at h
        | exc x e' =>
          simp only [q2, Out.bind_exc] at h
          exact fun cls d G' H' S' l' => h cls d G' H' S' ((l1.trans l2).trans l')
        | ok ds e3 =>
          simp only [q2, Out.bind_ok] at h
          exact fun G3 H3 S3 l3 ws r3 => h G3 H3 S3 ((l1.trans l2).trans l3) (vs ++ ws) ((rs.same l3).append r3)
section
variable {X : Cx} {e : Expr} {es : List Expr} {p : Pos}
theorem da_star {f : FE} {g : FA} (ha : DE X e f) (hr : DA X es g) (hs : starEach (.Starred e p :: es) X.env = (true, eval e X.env) :: starEach es X.env := by rfl) : DA X (.Starred e p :: es) (A.star f g) :=
  ⟨fun B W tk => (StX.pa_star (ha.run B W tk) (hr.run B W tk) hs).imp fun σ H Q h => tA_star h⟩
end
end DL
-- DL38
set_option maxRecDepth 100000
set_option maxHeartbeats 4000000
/-! DL38: sorted(set([..])) of tuples of ints, none of them empty. -/
namespace DLS
open PySem PyProof.Rows Srt SrtO TS
section
variable {prog : Program} {w : World} {A : Around} {E : Value → Shared → Prop} {s : Shared}
/-- sorted(x), the items known when they are collected -/
theorem sorted_any {x : Value} {ltv : Value → Value → Bool} {Q : Value → Shared → Prop} (Ok : List Value → Prop) (Pm : Shared → Prop) (O : Swo ltv) (hz : ∀ vs, Ok vs → vs.length ≤ sizeLine)
    (hcol : ∀ (A' : Around) (E' : Value → Shared → Prop) (Q' : List Value → Shared → Prop), A'.handled = A.handled → (∀ (vs : List Value) (s' : Shared), Ok vs → (∀ b o, s.heap.get? b = some o → s'.heap.get? b = some o) → Pm s' → Q' vs s') → wpAny (model prog w) A' (collect x) Q' E' s)
    (hS : ∀ vs, Ok vs → 2 ≤ vs.length → ∀ (s₁ : Shared) (a : Addr), s₁.heap.get? a = some (seqObj "list" vs.toArray 0) → (∀ b o, s.heap.get? b = some o → b ≠ a ∧ s₁.heap.get? b = some o) → SortableO prog w A.in1.in1 s₁ a vs ltv)
    (h : ∀ (vs : List Value) (s' : Shared) (h3 : Heap) (out : List Value), Ok vs → Pm s' → Srtd ltv out → Stb ltv out vs → (∀ b o, s.heap.get? b = some o → s'.heap.get? b = some o) → (∀ b o, s'.heap.get? b = some o → h3.get? b = some o) → (∃ n, h3.get? s'.heap.objs.size = some (seqObj "list" out.toArray n)) → Q (.ref s'.heap.objs.size) { s' with heap := h3 }) :
    wpAny (model prog w) A (call (.builtin "sorted") [x]) Q E s := by
  refine Calls.call_function_entry kind_sorted plain_sorted entry_sorted (args_sorted1 _) ?_
  unfold Builtin.«sorted»
  refine wpAny_bind (m := checkCount "sorted" 1 1 _) (wpAny_pure ?_)
  refine wpAny_bind (hcol _ _ _ rfl fun vs s' ok hk hpm => ?_)
  refine wpAny_bind (wpAny_newList ?_ (hz vs ok))
  have at_ : (s'.heap.push (seqObj "list" vs.toArray 0)).get? s'.heap.objs.size = some (seqObj "list" vs.toArray 0) := Heap.get?_push_size _ rfl
  have keep : ∀ b o, s.heap.get? b = some o → b ≠ s'.heap.objs.size ∧ (s'.heap.push (seqObj "list" vs.toArray 0)).get? b = some o := fun b o q =>
    ⟨Nat.ne_of_lt (Heap.lt_size (hk b o q)), Heap.get?_push_of_some _ (hk b o q)⟩
  refine wpAny_bind (wpAny_holding (wpAny_call_entry slot_list_sort ⟨_, at_, rfl⟩ entry_list_sort (list_sort_ord (s := { s' with heap := s'.heap.push (seqObj "list" vs.toArray 0) }) O at_ (hz vs ok) (fun h2 => hS vs ok h2 { s' with heap := s'.heap.push (seqObj "list" vs.toArray 0) } _ at_ keep) fun out hs hb => ⟨_, rfl, ?_⟩) (args_list_sort _)))
  refine wpAny_pure ⟨_, rfl, h vs s' _ out ok hpm hs hb hk (fun b o q => ?_) (sortedHeap_at (vs := vs) (out := out.toArray) at_)⟩
  have hlt := Heap.lt_size q
  show (sortedHeap (s'.heap.push (seqObj "list" vs.toArray 0)) s'.heap.objs.size vs out.toArray).get? b = some o
  rw [sortedHeap_old (Nat.ne_of_lt hlt) (by rw [size_push']; exact Nat.lt_succ_of_lt hlt)]
  exact Heap.get?_push_of_some _ q
end
end DLS
namespace L2
open PySem PySem.Spec PyProof.Rows Srt SrtO
variable {X : Cx}
/-- some of the rows of L, told by their addresses -/
theorem rows_of {L : List (Addr × List Int)} : ∀ {vs : List Value}, (∀ v ∈ vs, ∃ q ∈ L, v = Value.ref q.1) → ∃ L1 : List (Addr × List Int), vs = L1.map (fun q => Value.ref q.1) ∧ ∀ q ∈ L1, q ∈ L
  | [], _ => ⟨[], rfl, fun q hq => by cases hq⟩
  | v :: vs, hv => by
    obtain ⟨q, hq, e⟩ := hv v (List.mem_cons_self ..)
    obtain ⟨L1, e1, hs⟩ := rows_of (L := L) (vs := vs) fun u hu => hv u (List.mem_cons_of_mem _ hu)
    refine ⟨q :: L1, by rw [e, e1]; rfl, fun r hr => ?_⟩
    rcases List.mem_cons.mp hr with z | z
    · subst z; exact hq
    · exact hs r z
def rSrtSet (K : PySem.W.Frag) (P : Program) (w : World) : List V → Hp → VK → Prop := fun vs H Q => ∃ (a : Addr) (L : List (Addr × List Int)), vs = [V.ref a] ∧ H a = some (SetTO P w a L) ∧ (∀ p ∈ L, SqT K H p.1 (p.2.map V.int)) ∧ (∀ p ∈ L, p.2 ≠ []) ∧
  ∀ (L' : List (Addr × List Int)) (p : Addr), (∀ q ∈ L', q ∈ L) → L'.map (·.2) = DL.isrt HT.lexLt (L.map (·.2)) → (L.map (·.2)).Nodup → H p = none → Q (.ref p) (upd H p (.lst (L'.map fun q => V.ref q.1)))
theorem cr_srtSet (hc : X.calm = true) (hu : X.A.units + 2 < cLine) : CallR X (.builtin "sorted") (rSrtSet X.K X.prog X.w) := by
  intro pins s σ H vs us Q I r h
  obtain ⟨a, L, rfl, ha, hk, hne, q⟩ := h
  have R0 : SetT0 X.prog X.w s.heap a L := (I.hok a _ ha).1
  obtain ⟨es, ep, t, R⟩ := R0.full fun p hp => I.isT (hk p hp)
  rw [Vals.ref1 r]
  obtain ⟨o, ho, hex, hd⟩ := R.ob
  have hes : es.toList.map (·.2) = L.map fun q => Value.ref q.1 := by
    rw [R.rows]
    unfold rowsOf
    rw [List.map_map] <;> rfl
  have tup : ∀ q ∈ L, TS.TupInts s.heap (.ref q.1) q.2 := fun q hq => tupInts_of (P := X.prog) (w := X.w) (R.tup q hq)
  have few : L.length < 64 := R.few
  have big : (64 : Nat) ≤ sizeLine := by rw [sizeLine_eq]; omega
  have inL : ∀ {vs : List Value}, vs.Perm (L.map fun q => Value.ref q.1) → ∀ v ∈ vs, ∃ q ∈ L, v = Value.ref q.1 := fun {vs} pm v hv => by
    obtain ⟨q, hq, e⟩ := List.mem_map.mp (pm.mem_iff.mp hv)
    exact ⟨q, hq, e.symm⟩
  refine DLS.sorted_any (ltv := fun v u => HT.lexLt (TS.intsOf s.heap v) (TS.intsOf s.heap u)) (fun vs => vs.Perm (L.map fun q => Value.ref q.1)) (fun s' => s'.gens = s.gens ∧ s'.os = s.os ∧ s.heap.objs.size ≤ s'.heap.objs.size) (NtL.swo_lexL _)
    (fun vs pm => by rw [pm.length_eq, List.length_map]; omega)
    (fun A' E' Q' hh k => collect_set (by rw [hh]; exact I.ok.hd hc) ⟨o, ho, hex.1, hd⟩ R.fits (by rw [R.size]; unfold scanBound; omega) R.tab.ris R.led fun s1 vs k1 hz g1 o1 pm => k vs s1 (by rw [hes] at pm; exact pm) k1 ⟨g1, o1, hz⟩)
    (fun vs pm h2 s₁ a' ha' kk => DLS.sortable_tups (s := s₁) hu h2 (fun v hv => by
        obtain ⟨q, hq, rfl⟩ := inL pm v hv
        rw [(tup q hq).ints]
        exact (tup q hq).keeps fun b o z _ => (kk b o z).2) (by
        unfold DLS.SrtOk
        rw [Bool.or_eq_true]
        left
        rw [List.all_eq_true]
        intro x hx
        obtain ⟨v, hv, rfl⟩ := List.mem_map.mp hx
        obtain ⟨q, hq, rfl⟩ := inL pm v hv
        rw [(tup q hq).ints]
        exact bne_iff_ne.mpr (hne q hq)) (fun o z c => by
        rw [ha'] at z
        cases z
        exact absurd (Value.type.inj c) (by decide))) fun vs s' h3 out pm hpm h1 h2 k k2 hat => ?_
  obtain ⟨g, os, hsz⟩ := hpm
  have pmO := h2.perm.trans pm
  obtain ⟨L', e', hs'⟩ := rows_of (inL pmO)
  have ek : ∀ {M : List (Addr × List Int)}, (∀ q ∈ M, q ∈ L) → (M.map fun q => Value.ref q.1).map (TS.intsOf s.heap) = M.map (·.2) := fun {M} hM => by
    rw [List.map_map]
    exact List.map_congr_left fun q hq => (tup q (hM q hq)).ints
  have es2 : L'.map (·.2) = DL.isrt HT.lexLt (L.map (·.2)) := by
    refine DL.isrt_of DL.swoL DL.antiL ?_ ?_
    · rw [← ek hs', ← ek (M := L) (fun q hq => hq), ← e']
      exact pmO.map _
    · rw [← ek hs', ← e']
      exact List.pairwise_map.mpr h1
  have hlen : (L'.map fun q => V.ref q.1).length ≤ sizeLine := by
    have := congrArg List.length e'
    rw [pmO.length_eq, List.length_map, List.length_map] at this
    rw [List.length_map]
    omega
  have hn : H s'.heap.objs.size = none := I.hok.fresh hsz
  have hv : Vals (L'.map fun q => V.ref q.1) out := by rw [e']; exact vals_of_refs L'
  obtain ⟨ep', he'⟩ := hat
  have kk : ∀ b o, s.heap.get? b = some o → h3.get? b = some o := fun b o z => k2 b o (k b o z)
  have J : Inv X pins σ (upd H s'.heap.objs.size (.lst (L'.map fun q => V.ref q.1))) { s with heap := h3, gens := s'.gens, drawn := s'.drawn, toks := s'.toks } :=
    I.call (ch := []) (Un.laid kk hsz hn) (I.hok.laid kk hsz ⟨hlen, out, ep', hv, he'⟩) (by rw [g]; exact I.bare) (fun _ z => nomatch z)
  have e : { s' with heap := h3 } = { s with heap := h3, gens := s'.gens, drawn := s'.drawn, toks := s'.toks } := by
    cases s'
    cases s
    cases os
    rfl
  rw [e]
  exact ⟨.ref _, _, J, rfl, q L' _ hs' es2 R.nd hn⟩
end L2

namespace DL
open PySem PySem.Spec PyProof.Rows L2
def ddL : List (List Int) → List (List Int)
  | [] => []
  | x :: r => if x ∈ r then ddL r else x :: ddL r
theorem ddL_mem {y : List Int} : ∀ {l : List (List Int)}, y ∈ ddL l ↔ y ∈ l
  | [] => Iff.rfl
  | x :: r => by
    unfold ddL
    by_cases h : x ∈ r
    · rw [if_pos h, ddL_mem, List.mem_cons]
      exact ⟨.inr, fun z => z.elim (fun e => e ▸ h) id⟩
    · rw [if_neg h, List.mem_cons, List.mem_cons, ddL_mem]
theorem ddL_nodup : ∀ (l : List (List Int)), (ddL l).Nodup
  | [] => List.nodup_nil
  | x :: r => by
    unfold ddL
    by_cases h : x ∈ r
    · rw [if_pos h]; exact ddL_nodup r
    · rw [if_neg h]; exact List.nodup_cons.mpr ⟨fun z => h (ddL_mem.mp z), ddL_nodup r⟩
def srtSD : D → Option (List D)
  | .lst ds => match tupsI ds with
    | some l => if l.all (fun x => x != []) = true ∧ l.length < 64 then some (dTups (isrt HT.lexLt (ddL l))) else none
    | none => none
  | _ => none
def E.srtS (f : FE) : FD := fun env => (f env).bind fun a e => match rd e a with
  | some d => match srtSD d with
    | some ds => .ok (.lst ds) e
    | none => .stk
  | none => .stk
theorem keys_of {T : Stt} {G : Hp} : ∀ {l : List (List Int)} {vs : List V}, VRels T G vs (dTups l) → ∃ ks : List (Addr × List Int), vs = ks.map (fun p => V.ref p.1) ∧ ks.map (·.2) = l ∧ ∀ p ∈ ks, VRel T G (.ref p.1) (.tup (p.2.map .int))
  | [], vs, r => by cases r; exact ⟨[], rfl, rfl, fun p h => by cases h⟩
  | x :: l, vs, r => by
    have r2 : VRels T G vs (.tup (x.map .int) :: dTups l) := r
    cases r2 with
    | cons r1 rs =>
      obtain ⟨ks, h1, h2, h3⟩ := keys_of rs
      cases r1 with
      | tup ht rr =>
        rename_i a us
        refine ⟨(a, x) :: ks, by rw [h1]; rfl, by rw [List.map_cons, h2], fun p hp => ?_⟩
        rcases List.mem_cons.mp hp with z | z
        · subst z; exact .tup ht rr
        · exact h3 p z
theorem rels_of {T : Stt} {G : Hp} : ∀ {L : List (Addr × List Int)}, (∀ p ∈ L, VRel T G (.ref p.1) (.tup (p.2.map .int))) → VRels T G (L.map fun p => V.ref p.1) (dTups (L.map (·.2)))
  | [], _ => .nil
  | p :: L, h => .cons (h p (List.mem_cons_self ..)) (rels_of fun q hq => h q (List.mem_cons_of_mem _ hq))
theorem sqT_of {T : Stt} {G H : Hp} (l : Le G H) {a : Addr} {is : List Int} (r : VRel T G (.ref a) (.tup (is.map .int))) : SqT T.K H a (is.map V.int) := by
  cases r with
  | tup ht rr =>
    have := ht.sq l
    rw [rr.ints] at this
    exact this
section
variable {X : Cx} {e : Expr} {p p2 pos pos2 : Pos}
theorem df_srtS {f : FE} (hc : X.calm = true) (hu : X.A.units + 64 < cLine) (hm : X.mg "sorted" = none) (hm2 : X.mg "set" = none) (ha : DE X e f) (hg : Gl X "sorted" := by rfl) (hg2 : Gl X "set" := by rfl) (na : starEach [e] X.env = (false, eval e X.env) :: starEach [] X.env := by rfl)
    (na2 : starEach [.Call (.Name "set" p2) [e] [] pos2] X.env = (false, eval (.Call (.Name "set" p2) [e] [] pos2) X.env) :: starEach [] X.env := by rfl) :
    DF X (.Call (.Name "sorted" p) [.Call (.Name "set" p2) [e] [] pos2] [] pos) (E.srtS f) := by
  refine ⟨fun B W tk => (pe_callB (cr_srtSet hc (by omega)) hg hm (by rfl) (pa_cons (pe_callTy (cr_setOfT hc hu) hg2 hm2 (by rfl) (pa_cons (ha.run B W tk) pa_nil na) (by decide) (by decide) na (by rfl)) pa_nil na2) (by decide) (by decide) na2 (by rfl)).imp fun σ H Q h => ?_⟩
  obtain ⟨G, env, S, h⟩ := h
  refine ⟨G, env, S, ?_⟩
  unfold E.srtS at h
  cases q : f env with
  | stk => simp [q, oE] at h
  | exc x e' => simp only [q, Out.bind_exc] at h; exact h
  | ok b e1 =>
    simp only [q, Out.bind_ok] at h
    refine fun G1 H1 S1 l1 v r1 => ?_
    cases hr : rd e1 b with
    | none => simp [hr, oE] at h
    | some d =>
      simp only [hr] at h
      cases hd : srtSD d with
      | none => simp [hd, oE] at h
      | some ds =>
        simp only [hd] at h
        unfold srtSD at hd
        split at hd
        · rename_i xs
          obtain ⟨a, vs, rfl, hh, rs⟩ := (S1.orel r1 hr).lst S1.gh
          cases ht : tupsI xs with
          | none => simp [ht] at hd
          | some l =>
            simp only [ht] at hd
            split at hd
            · rename_i hl
              cases hd
              rw [tupsI_eq ht] at rs
              obtain ⟨ks, rfl, k2, k3⟩ := keys_of rs
              have kl : ks.length = l.length := by rw [← k2, List.length_map]
              refine ⟨a, ks, rfl, SqL.of hh, fun p hp => sqT_of S1.gh (k3 p hp), by rw [kl]; exact hl.2, fun a' L hn hsub hall => ?_⟩
              obtain ⟨S2, _⟩ := S1.fresh (o := SetTO X.prog X.w a' L) hn
              refine ⟨a', L, rfl, upd_same, fun p hp => sqT_of S2.gh (k3 p (hsub p hp)), fun p hp => ?_, fun L' p' hs' es nd hp => ?_⟩
              · have : p.2 ∈ l := by rw [← k2]; exact List.mem_map.mpr ⟨p, hsub p hp, rfl⟩
                exact bne_iff_ne.mp (List.all_eq_true.mp hl.1 _ this)
              · obtain ⟨S3, n1, n2, n3⟩ := S2.fresh (o := .lst (L'.map fun q => V.ref q.1)) hp
                have rel := rels_of (T := ⟨X.K, X.mg⟩) (G := G1) (L := L') fun q hq => k3 q (hsub q (hs' q hq))
                have pm : (L.map (·.2)).Perm (ddL l) := (List.perm_ext_iff_of_nodup nd (ddL_nodup l)).mpr fun y => by
                  rw [ddL_mem, ← k2]
                  constructor
                  · intro hy
                    obtain ⟨p, hp, rfl⟩ := List.mem_map.mp hy
                    exact List.mem_map.mpr ⟨p, hsub p hp, rfl⟩
                  · intro hy
                    obtain ⟨p, hp, rfl⟩ := List.mem_map.mp hy
                    exact hall p hp
                have e2 : isrt HT.lexLt (L.map (·.2)) = isrt HT.lexLt (ddL l) := isrt_of swoL antiL ((isrt_perm _).trans pm) (isrt_srtd swoL _)
                rw [es, e2] at rel
                exact h G1 _ S3 l1 p' n1 n2 n3 ⟨_, upd_same, rel⟩
            · cases hd
        · cases hd
end
end DL
-- DL39
set_option maxRecDepth 100000
set_option maxHeartbeats 4000000
/-! DL39: isinstance(x, C), C a class whose instances stand in the store. -/
namespace DL
open PySem PySem.Spec PyProof.Rows L2
structure InsI (K : PySem.W.Frag) (mg : Str → Option Value) (c : Str) : Prop where
  ex : ∃ C, mg c = some (.ref C) ∧ Cls K C ∧ PySem.W.findIn K (.ref C) "__class__" = some (some (.builtin "object.__class__")) ∧ PySem.W.specialIn K (.builtin "object.__class__") "__get__" = some (some (.builtin "getset_descriptor.__get__")) ∧
    PySem.W.takesIn K (.builtin "object.__class__") = some true ∧ PySem.W.mroIn K C (.type "object") = some true ∧
    (∀ t ∈ ["NoneType", "int", "bool", "str", "tuple", "list", "dict"], PySem.W.kitOne K (.type t) (.ref C) = some false) ∧ PySem.W.kitOne K (.ref C) (.ref C) = some true
def E.isO (c : Str) (f : FE) : FE := fun env => (f env).bind fun a e1 => match a with
  | .dv (.ptr n) => match stoOf e1 with
    | some M => match M[n]? with
      | some (.obj c' _ _) => if c' = c then .ok (.dv (.bl true)) e1 else .stk
      | _ => .stk
    | none => .stk
  | a => match rd e1 a with
    | some d => match tyB d with
      | some _ => .ok (.dv (.bl false)) e1
      | none => .stk
    | none => .stk
section
variable {X : Cx} {c : Str} {e : Expr} {g : FE} {p p2 pos : Pos}
theorem de_isO (W : InsI X.K X.mg c) (hm : X.mg "isinstance" = none) (he : DE X e g) (hgb : Gl X c := by rfl) (hg : Gl X "isinstance" := by rfl) (hdb : (c == ("__debug__" : Str)) = false := by decide)
    (hs : starEach [e, .Name c p2] X.env = (false, eval e X.env) :: starEach [.Name c p2] X.env := by rfl) (hs2 : starEach [.Name c p2] X.env = (false, eval (.Name c p2) X.env) :: starEach [] X.env := by rfl) (hpl : (backTo pos (starEach [.Name c p2] X.env)).any (·.1) = false := by rfl) :
    DE X (.Call (.Name "isinstance" p) [e, .Name c p2] [] pos) (E.isO c g) := by
  obtain ⟨C, hmC, cl, ha, hn, ht, hr, kb, kw⟩ := W.ex
  refine ⟨fun B W' tk => (pe_callB call_isi hg hm (by decide +kernel) (pa_cons (he.run B W' tk) (pa_cons (pe_glob (v := .ref C) hgb hmC rfl hdb) pa_nil hs2) hs) (by decide) (by decide) hs hpl).imp fun σ H Q h => ?_⟩
  obtain ⟨G, env, S, h⟩ := h
  refine ⟨G, env, S, ?_⟩
  unfold E.isO at h
  cases q : g env with
  | stk => simp [q, oE] at h
  | exc x e' => simp only [q, Out.bind_exc] at h; exact h
  | ok a e1 =>
    simp only [q, Out.bind_ok] at h
    refine fun G1 H1 S1 l1 v1 r1 => ?_
    split at h
    · rename_i n
      cases hM : stoOf e1 with
      | none => simp [hM, oE] at h
      | some M =>
        simp only [hM] at h
        split at h
        · rename_i c' ks0 xs0 hd0
          split at h
          · rename_i ec
            subst ec
            obtain ⟨p, rfl, hp, hc⟩ := S1.stoAt hM hd0 r1
            rcases hc with hc | ⟨c2, ks, xs, C', dx, kvs, z, m, hh, _⟩ | ⟨_, z, _⟩
            · exact hc.elim
            · cases z
              obtain rfl : C = C' := by
                have z2 := hmC.symm.trans m
                cases z2
                rfl
              exact ⟨.ref p, .ref C, .ref C, .ref C, true, rfl, .own C, .base (.ins hh cl ha hn ht hr), kw, h G1 H1 S1 l1 _ (.bl _)⟩
            · cases z
          · exact h.elim
        · exact h.elim
    · cases hr0 : rd e1 a with
      | none => simp [hr0, oE] at h
      | some d =>
        simp only [hr0] at h
        cases hd : tyB d with
        | none => simp [hd, oE] at h
        | some t =>
          simp only [hd] at h
          exact ⟨v1, .ref C, .type t, .ref C, false, rfl, .own C, tyB_ok S1.gh (S1.orel r1 hr0) hd, kb t (tyB_mem hd), h G1 H1 S1 l1 _ (.bl _)⟩
end
end DL
-- DL40
set_option maxRecDepth 100000
set_option maxHeartbeats 4000000
/-! DL40: x in a module's dict, as a test; facts of one def told under a second name. -/
namespace DL
open PySem PySem.Spec PyProof.Rows L2
section
variable {X : Cx} {x : Str} {tbl : List (Str × Int)} {a : Expr} {f : FE} {pos p : Pos}
theorem dt_gin (g : GDict X x tbl) (ha : DE X a f) (hg : Gl X x := by rfl) (hd : (x == ("__debug__" : Str)) = false := by decide) (hm : behindInMarks .In (.Name x p) = false := by first | exact nobehind _ (by decide) (by decide) | rfl) :
    DT X (.Compare a [.In] [.Name x p] pos) (Tt.val (E.c1 (ginD tbl) f)) := by
  obtain ⟨d, es, n, e1, e2, e3⟩ := g.ex
  refine ⟨fun B W tk => (pt_cmpR (op_in_kd e2) (ha.run B W tk) (pe_glob (v := .ref d) hg e1 rfl hd) hm).imp fun σ H Q q => ?_⟩
  obtain ⟨G, env, S, h2⟩ := tE_u1 (tT_val q)
  refine ⟨G, env, S, h2.mono (Same.refl G) fun a' e' G' H' l k v r => ?_⟩
  obtain ⟨G2, dd, z, l2, o, hz, kk⟩ := k v r
  cases dd with
  | str zz =>
    obtain rfl := o.str
    simp only [ginD, Option.some.injEq] at hz
    subst hz
    have y := e3 zz
    cases q : lkS tbl zz with
    | none =>
      rw [q] at y
      exact ⟨zz, none, rfl, rfl, y, kk.same l2 (by rw [q]; exact .bl _)⟩
    | some i =>
      rw [q] at y
      obtain ⟨t, y⟩ := y
      exact ⟨zz, some (.int i t), rfl, rfl, y, kk.same l2 (by rw [q]; exact .bl _)⟩
  | _ => simp [ginD] at hz
end
end DL
-- DL41
set_option maxRecDepth 100000
set_option maxHeartbeats 4000000
/-! DL41: head facts for isinstance of store classes. -/
namespace DL
open PySem PySem.Spec PyProof.Rows L2 He
section
variable {K : PySem.W.Frag} {h : Heap} {mg : Str → Option Value}
def insIB (K : PySem.W.Frag) (c : Str) : Bool := eqO (PySem.W.findIn K (.ref (ga K c)) "__class__") (some (some (.builtin "object.__class__"))) && (eqO (PySem.W.specialIn K (.builtin "object.__class__") "__get__") (some (some (.builtin "getset_descriptor.__get__"))) &&
  (decide (PySem.W.takesIn K (.builtin "object.__class__") = some true) && (decide (PySem.W.mroIn K (ga K c) (.type "object") = some true) &&
  ((["NoneType", "int", "bool", "str", "tuple", "list", "dict"] : List String).all (fun t => decide (PySem.W.kitOne K (.type t) (.ref (ga K c)) = some false)) && decide (PySem.W.kitOne K (.ref (ga K c)) (.ref (ga K c)) = some true)))))
theorem insI_of (X : K.In h) (G : h.Ns mainGlobals mg) {c : Str} (h1 : (Fa.glo c).ok K = true) (h2 : (Fa.cls c).ok K = true) (e : insIB K c = true) : InsI K mg c := by
  obtain ⟨e1, e⟩ := ba e
  obtain ⟨e2, e⟩ := ba e
  obtain ⟨e3, e⟩ := ba e
  obtain ⟨e4, e⟩ := ba e
  obtain ⟨e6, e7⟩ := ba e
  exact ⟨⟨_, glo_ok X G h1, cls_ok h2, eqO_ok e1, eqO_ok e2, of_decide_eq_true e3, of_decide_eq_true e4, fun t ht => of_decide_eq_true (List.all_eq_true.mp e6 t ht), of_decide_eq_true e7⟩⟩
def aliB (K : PySem.W.Frag) (x y : Str) : Bool := decide (ga K x = ga K y)
theorem alias_of (X : K.In h) (G : h.Ns mainGlobals mg) {x y : Str} (h1 : (Fa.glo x).ok K = true) (h2 : (Fa.glo y).ok K = true) (e : aliB K x y = true) : mg y = mg x := by
  rw [glo_ok X G h1, glo_ok X G h2, of_decide_eq_true e]
theorem DefOk.alias {P : Program} {w : World} {base : Heap} {x y : Str} {k : Nat} {F : List D → FO} (e : mg y = mg x) (D : DefOk P w K mg base x k F) : DefOk P w K mg base y k F := by
  obtain ⟨f, fd, ps, h1, h2⟩ := D.ex
  exact ⟨⟨f, fd, ps, e.trans h1, h2⟩⟩
end
end DL
-- DL46
set_option maxRecDepth 100000
set_option maxHeartbeats 4000000
/-! DL46: the head's facts over a written list of addresses: cheaper in the kernel than one that is grown. -/
namespace DL
open PySem PySem.Spec PyProof.Rows L2 He
section
variable (as : List Addr) (fa : List Fa) (fn : List DefD) (ts : List Tab) (tf : List Defn) (ex : PySem.W.Frag → Bool)
def obsK (g : Addr → Option Obj) (K : PySem.W.Frag) : AlX := (obsT fa fn ts K, ex K && tabsB g tf K)
def obsL (g : Addr → Option Obj) : AlX := obsK fa fn ts tf ex g (frT g as)
end
section
variable {as : List Addr} {fa : List Fa} {fn : List DefD} {ts : List Tab} {tf : List Defn} {ex : PySem.W.Frag → Bool}
theorem saysL {w : World} {h : Heap} (e : obsL as fa fn ts tf ex h.get? = valX fn ts w) : SaysX fa fn ts tf ex w h (frT h.get? as) := by
  unfold obsL obsK valX at e
  obtain ⟨e1, e2⟩ := Prod.mk.inj e
  rw [Bool.and_eq_true] at e2
  obtain ⟨h1, h2⟩ := e2
  unfold tabsB at h2
  rw [List.all_eq_true] at h2
  have key : ∀ p, p ∈ tf → PySem.W.codeHdIn (frT h.get? as) (cT (frT h.get? as) p).1 (cT (frT h.get? as) p).2 = true ∧ ∃ ob, h.get? (cT (frT h.get? as) p).2 = some ob ∧ emptyTab ob = true := by
    intro p hp
    have z := h2 p hp
    rw [Bool.and_eq_true] at z
    refine ⟨z.1, ?_⟩
    have z2 := z.2
    split at z2
    · rename_i ob hq
      exact ⟨ob, hq, z2⟩
    · cases z2
  constructor
  · exact e1
  · exact h1
  · exact fun p hp => (key p hp).1
  · intro p hp
    obtain ⟨_, ob, hq, ht⟩ := key p hp
    exact frT_none hq ht
  · intro p hp
    obtain ⟨_, ob, hq, ht⟩ := key p hp
    rw [hq, emptyTab_eq ht]
def hookL (as : List Addr) (fa : List Fa) (fn : List DefD) (ts : List Tab) (tf : List Defn) (ex : PySem.W.Frag → Bool) : PySem.W.Hook where
  α := AlX
  obs := fun s => obsL as fa fn ts tf ex s.heap.get?
  val := fun w => valX fn ts w
  says := fun w h => ∃ K : PySem.W.Frag, K.In h ∧ SaysX fa fn ts tf ex w h K
  of := fun _ _ e => ⟨_, frT_in, saysL e⟩
  keeps := fun w h _ ⟨K, inK, c⟩ k => by
    refine ⟨K, PySem.W.Frag.In.keeps inK k, ?_⟩
    obtain ⟨c1, c2, c3, c4, c5⟩ := c
    exact ⟨c1, c2, c3, c4, fun p hp => k _ _ (c5 p hp)⟩
theorem obsL_eq {g : Addr → Option Obj} {s : Shared} (h : ∀ a, g a = s.heap.get? a) : obsL as fa fn ts tf ex g = (hookL as fa fn ts tf ex).obs s := by
  obtain rfl : g = s.heap.get? := funext h
  rfl
end
end DL
-- DL47
set_option maxRecDepth 100000
set_option maxHeartbeats 4000000
/-! DL47: the head's run, in two parts. -/
namespace DL
open PySem PySem.Spec PyProof.Rows L2 He
theorem run_parts {α β γ δ : Type} {o : Option α} {f : α → β} {g : α → γ} {h : α → δ} {b : β} {c : γ} {d : δ} (h1 : o.map (fun x => (f x, g x)) = some (b, c)) (h2 : o.map h = some d) : o.map (fun x => (f x, g x, h x)) = some (b, c, d) := by
  cases o with
  | none => cases h1
  | some x =>
    simp only [Option.map_some, Option.some.injEq, Prod.mk.injEq] at *
    exact ⟨h1.1, h1.2, h2⟩
end DL
-- G85a
set_option maxRecDepth 100000
set_option maxHeartbeats 8000000
/-! G85: the defs. -/
namespace G85
open PySem PySem.Spec PyProof.Rows L2 DL
def top (i : Nat) : Stmt := PySem.Challenge.pw_campwebs_k85_consoles_not_understood.main.body.getD i (.Pass ⟨0, 0, 0, 0⟩)
def meth (i j : Nat) : Stmt := match top i with
  | .ClassDef _ _ _ body _ _ _ _ _ _ _ => body.getD j (.Pass ⟨0, 0, 0, 0⟩)
  | s => s
def errs : List Str := ["CampError", "InvalidNumber", "InvalidLine", "NotAWeb", "NotAParty", "InvalidFriends", "InvalidFoes", "InvalidDeed", "Barred", "NothingToUndo", "NotInCamps"]
def flds : List Str := ["given", "index", "reason"]
abbrev fs_Party : List Str := ["web", "people", "deeds", "past"]
abbrev fs_Web : List Str := ["people", "friends", "foes", "kept"]
abbrev fs_Console : List Str := ["party"]
def tbl_SIZES : List (Str × Int) := [("friends", 3), ("foes", 3), ("part", 3), ("switch", 2)]
def tbl_SIGNS : List (Str × Int) := [("friends", 1), ("foes", -1), ("part", 0)]
abbrev s_is_whole : Stmt := top 15
abbrev N_is_whole : List Str := ["value"]
abbrev ps_is_whole : List Str := ["value"]
theorem sc_is_whole : FnScope N_is_whole ps_is_whole (defScope s_is_whole) := ⟨rfl, rfl, rfl, by decide +kernel, rfl, by decide +kernel, by decide +kernel⟩
def B_is_whole : FS := (S.seq (S.ret (E.and (E.c1 (isB "int") (E.var 0)) (E.not (E.c1 (isB "bool") (E.var 0)))))
  S.nop)
def F_is_whole : List D → FO := mkF 1 1 B_is_whole
theorem fn_is_whole {P : Program} {w : World} {K : PySem.W.Frag} {mg : Str → Option Value} {base : Heap} {f : Addr} {fd : FuncData} (Fd : FunD K "is_whole" "is_whole" (defArgs s_is_whole) (defBody s_is_whole) (defScope s_is_whole) [] [] f fd) (fr_isinstance : mg "isinstance" = none) (fr_int : mg "int" = none) (fr_bool : mg "bool" = none) (WI : WebI K mg) : FnOk P w K mg base (L2.CX P w) 1 f fd ps_is_whole (spD ⟨K, mg⟩ F_is_whole) := by
  refine def_fn (N := N_is_whole) (body := B_is_whole) Fd sc_is_whole (by decide) fun cdv A outer s H E hr => ?_
  have un := un_lt hr
  have un0 := un_lt0 hr
  exact (ds_cons (ds_ret (de_and (de_isB WI fr_int fr_isinstance (by decide +kernel) (de_var 0)) (de_one (de_not (de_isB WI fr_bool fr_isinstance (by decide +kernel) (de_var 0))))))
  ds_nil)
theorem ok_is_whole {P : Program} {w : World} {K : PySem.W.Frag} {mg : Str → Option Value} {base : Heap} (Fd : FunAt K mg "is_whole" s_is_whole) (fr_isinstance : mg "isinstance" = none) (fr_int : mg "int" = none) (fr_bool : mg "bool" = none) (WI : WebI K mg) : DefOk P w K mg base "is_whole" 1 F_is_whole := by
  obtain ⟨f, fd, hm, Fd⟩ := Fd.ex
  exact ⟨⟨f, fd, ps_is_whole, hm, Fd.kp, Fd.bindsN fun _ _ _ _ _ _ us hl => match us, hl with | [_], _ => rfl, fn_is_whole Fd fr_isinstance fr_int fr_bool WI⟩⟩

abbrev s_is_between : Stmt := top 16
abbrev N_is_between : List Str := ["value", "least", "most"]
abbrev ps_is_between : List Str := ["value", "least", "most"]
theorem sc_is_between : FnScope N_is_between ps_is_between (defScope s_is_between) := ⟨rfl, rfl, rfl, by decide +kernel, rfl, by decide +kernel, by decide +kernel⟩
def B_is_between : FS := (S.seq (S.ret (E.and (E.call F_is_whole (A.cons (E.var 0) A.nil)) (E.chn leD leD (E.var 1) (E.var 0) (E.var 2))))
  S.nop)
def F_is_between : List D → FO := mkF 3 3 B_is_between
theorem fn_is_between {P : Program} {w : World} {K : PySem.W.Frag} {mg : Str → Option Value} {base : Heap} {f : Addr} {fd : FuncData} (Fd : FunD K "is_between" "is_between" (defArgs s_is_between) (defBody s_is_between) (defScope s_is_between) [] [] f fd) (D_is_whole : DefOk P w K mg base "is_whole" 1 F_is_whole) : FnOk P w K mg base (L2.CX P w) 2 f fd ps_is_between (spD ⟨K, mg⟩ F_is_between) := by
  refine def_fn (N := N_is_between) (body := B_is_between) Fd sc_is_between (by decide) fun cdv A outer s H E hr => ?_
  have un := un_lt hr
  have un0 := un_lt0 hr
  exact (ds_cons (ds_ret (de_and (de_call D_is_whole (hr.mono (by decide)) (da_cons (de_var 0) da_nil)) (de_one (de_chn op_leD op_leD (de_var 1) (de_var 0) (de_var 2)))))
  ds_nil)
theorem ok_is_between {P : Program} {w : World} {K : PySem.W.Frag} {mg : Str → Option Value} {base : Heap} (Fd : FunAt K mg "is_between" s_is_between) (D_is_whole : DefOk P w K mg base "is_whole" 1 F_is_whole) : DefOk P w K mg base "is_between" 2 F_is_between := by
  obtain ⟨f, fd, hm, Fd⟩ := Fd.ex
  exact ⟨⟨f, fd, ps_is_between, hm, Fd.kp, Fd.bindsN fun _ _ _ _ _ _ us hl => match us, hl with | [_, _, _], _ => rfl, fn_is_between Fd D_is_whole⟩⟩

abbrev s_is_string : Stmt := top 17
abbrev N_is_string : List Str := ["value"]
abbrev ps_is_string : List Str := ["value"]
theorem sc_is_string : FnScope N_is_string ps_is_string (defScope s_is_string) := ⟨rfl, rfl, rfl, by decide +kernel, rfl, by decide +kernel, by decide +kernel⟩
def B_is_string : FS := (S.seq (S.ret (E.c1 (isB "str") (E.var 0)))
  S.nop)
def F_is_string : List D → FO := mkF 1 1 B_is_string
theorem fn_is_string {P : Program} {w : World} {K : PySem.W.Frag} {mg : Str → Option Value} {base : Heap} {f : Addr} {fd : FuncData} (Fd : FunD K "is_string" "is_string" (defArgs s_is_string) (defBody s_is_string) (defScope s_is_string) [] [] f fd) (fr_isinstance : mg "isinstance" = none) (fr_str : mg "str" = none) (WI : WebI K mg) : FnOk P w K mg base (L2.CX P w) 1 f fd ps_is_string (spD ⟨K, mg⟩ F_is_string) := by
  refine def_fn (N := N_is_string) (body := B_is_string) Fd sc_is_string (by decide) fun cdv A outer s H E hr => ?_
  have un := un_lt hr
  have un0 := un_lt0 hr
  exact (ds_cons (ds_ret (de_isB WI fr_str fr_isinstance (by decide +kernel) (de_var 0)))
  ds_nil)
theorem ok_is_string {P : Program} {w : World} {K : PySem.W.Frag} {mg : Str → Option Value} {base : Heap} (Fd : FunAt K mg "is_string" s_is_string) (fr_isinstance : mg "isinstance" = none) (fr_str : mg "str" = none) (WI : WebI K mg) : DefOk P w K mg base "is_string" 1 F_is_string := by
  obtain ⟨f, fd, hm, Fd⟩ := Fd.ex
  exact ⟨⟨f, fd, ps_is_string, hm, Fd.kp, Fd.bindsN fun _ _ _ _ _ _ us hl => match us, hl with | [_], _ => rfl, fn_is_string Fd fr_isinstance fr_str WI⟩⟩

abbrev s_is_made_of : Stmt := top 18
abbrev N_is_made_of : List Str := ["text", "signs", "sign"]
abbrev ps_is_made_of : List Str := ["text", "signs"]
theorem sc_is_made_of : FnScope N_is_made_of ps_is_made_of (defScope s_is_made_of) := ⟨rfl, rfl, rfl, by decide +kernel, rfl, by decide +kernel, by decide +kernel⟩
def B_is_made_of : FS := (S.seq (S.ret (E.and (E.bin neD (E.var 0) (E.cst (.str ""))) (E.c1 allD (E.fz (E.lc (I.chars (E.var 0)) (.nm 2) [2] Tt.yes (E.bin inSD (E.var 2) (E.var 1)))))))
  S.nop)
def F_is_made_of : List D → FO := mkF 3 2 B_is_made_of
theorem fn_is_made_of {P : Program} {w : World} {K : PySem.W.Frag} {mg : Str → Option Value} {base : Heap} {f : Addr} {fd : FuncData} (Fd : FunD K "is_made_of" "is_made_of" (defArgs s_is_made_of) (defBody s_is_made_of) (defScope s_is_made_of) [] [] f fd) (fr_all : mg "all" = none) : FnOk P w K mg base (L2.CX P w) 1 f fd ps_is_made_of (spD ⟨K, mg⟩ F_is_made_of) := by
  refine def_fn (N := N_is_made_of) (body := B_is_made_of) Fd sc_is_made_of (by decide) fun cdv A outer s H E hr => ?_
  have un := un_lt hr
  have un0 := un_lt0 hr
  exact (ds_cons (ds_ret (de_and (de_cmp (op_neDD (un 64 (by decide))) (de_var 0) de_str) (de_one (de_b1 (c_all rfl) fr_all (by decide +kernel) (df_lc (own := [("sign", 2)]) rfl sc_is_made_of.nd (di_chars (de_var 0)) (show BlkOk N_is_made_of (defScope s_is_made_of) _ _ from blkOk_by (by decide +kernel)) (by decide) (fun s H C cl fp => (dg_nm 2 sc_is_made_of.nd)) (fun s H C cl fp => dts_nil) (fun s H C cl fp => (de_cmp op_inSD (de_var 2) (de_var 1)))).de))))
  ds_nil)
theorem ok_is_made_of {P : Program} {w : World} {K : PySem.W.Frag} {mg : Str → Option Value} {base : Heap} (Fd : FunAt K mg "is_made_of" s_is_made_of) (fr_all : mg "all" = none) : DefOk P w K mg base "is_made_of" 1 F_is_made_of := by
  obtain ⟨f, fd, hm, Fd⟩ := Fd.ex
  exact ⟨⟨f, fd, ps_is_made_of, hm, Fd.kp, Fd.bindsN fun _ _ _ _ _ _ us hl => match us, hl with | [_, _], _ => rfl, fn_is_made_of Fd fr_all⟩⟩

abbrev s_is_tuple_of : Stmt := top 19
abbrev N_is_tuple_of : List Str := ["value", "many"]
abbrev ps_is_tuple_of : List Str := ["value", "many"]
theorem sc_is_tuple_of : FnScope N_is_tuple_of ps_is_tuple_of (defScope s_is_tuple_of) := ⟨rfl, rfl, rfl, by decide +kernel, rfl, by decide +kernel, by decide +kernel⟩
def B_is_tuple_of : FS := (S.seq (S.ret (E.and (E.c1 (isB "tuple") (E.var 0)) (E.bin eqD (E.c1 lenD (E.var 0)) (E.var 1))))
  S.nop)
def F_is_tuple_of : List D → FO := mkF 2 2 B_is_tuple_of
theorem fn_is_tuple_of {P : Program} {w : World} {K : PySem.W.Frag} {mg : Str → Option Value} {base : Heap} {f : Addr} {fd : FuncData} (Fd : FunD K "is_tuple_of" "is_tuple_of" (defArgs s_is_tuple_of) (defBody s_is_tuple_of) (defScope s_is_tuple_of) [] [] f fd) (fr_isinstance : mg "isinstance" = none) (fr_tuple : mg "tuple" = none) (fr_len : mg "len" = none) (WI : WebI K mg) : FnOk P w K mg base (L2.CX P w) 1 f fd ps_is_tuple_of (spD ⟨K, mg⟩ F_is_tuple_of) := by
  refine def_fn (N := N_is_tuple_of) (body := B_is_tuple_of) Fd sc_is_tuple_of (by decide) fun cdv A outer s H E hr => ?_
  have un := un_lt hr
  have un0 := un_lt0 hr
  exact (ds_cons (ds_ret (de_and (de_isB WI fr_tuple fr_isinstance (by decide +kernel) (de_var 0)) (de_one (de_cmp (op_eqDD (un 64 (by decide))) (de_b1 c_len fr_len (by decide +kernel) (de_var 0)) (de_var 1)))))
  ds_nil)
theorem ok_is_tuple_of {P : Program} {w : World} {K : PySem.W.Frag} {mg : Str → Option Value} {base : Heap} (Fd : FunAt K mg "is_tuple_of" s_is_tuple_of) (fr_isinstance : mg "isinstance" = none) (fr_tuple : mg "tuple" = none) (fr_len : mg "len" = none) (WI : WebI K mg) : DefOk P w K mg base "is_tuple_of" 1 F_is_tuple_of := by
  obtain ⟨f, fd, hm, Fd⟩ := Fd.ex
  exact ⟨⟨f, fd, ps_is_tuple_of, hm, Fd.kp, Fd.bindsN fun _ _ _ _ _ _ us hl => match us, hl with | [_, _], _ => rfl, fn_is_tuple_of Fd fr_isinstance fr_tuple fr_len WI⟩⟩

abbrev s_first_wrong : Stmt := top 20
abbrev N_first_wrong : List Str := ["value", "is_right", "index", "each"]
abbrev ps_first_wrong : List Str := ["value", "is_right"]
theorem sc_first_wrong : FnScope N_first_wrong ps_first_wrong (defScope s_first_wrong) := ⟨rfl, rfl, rfl, by decide +kernel, rfl, by decide +kernel, by decide +kernel⟩
noncomputable def B_first_wrong (TH : FM) (f : Addr) (G0 : Hp) : FS := (S.seq (S.for_ (I.enum (A.cons (E.var 0) A.nil)) (.tp [(.nm 2), (.nm 3)]) (S.seq (S.ifs (Tt.not (Tt.val (E.act 1 f G0 TH (A.cons (E.var 3) (A.cons (E.sl (E.var 0) P.no (P.at (E.var 2))) A.nil))))) (S.seq (S.ret (E.var 2))
  S.nop) S.nop)
  S.nop))
  (S.seq (S.ret (E.cst .non))
  S.nop))
noncomputable def F_first_wrong (TH : FM) (f : Addr) (G0 : Hp) : FM := mkM N_first_wrong.length ps_first_wrong.length (B_first_wrong TH f G0)
theorem okL_first_wrong {P : Program} {w : World} {K : PySem.W.Frag} {mg : Str → Option Value} {base : Heap} (Fd : FunAt K mg "first_wrong" s_first_wrong) (fr_enumerate : mg "enumerate" = none) : DefOkL P w K mg base "first_wrong" 2 6 F_first_wrong := by
  obtain ⟨g, fd, hm, Fd⟩ := Fd.ex
  refine defL_of (N := N_first_wrong) (ps := ps_first_wrong) (body := B_first_wrong) Fd sc_first_wrong (by decide) hm (Fd.bindsN fun _ _ _ _ _ _ us hl => match us, hl with | [_, _], _ => rfl) fun f G0 TH cdv A up s H E hr LP => ?_
  have un := un_lt hr
  have un0 := un_lt0 hr
  exact (ds_cons (ds_for rfl (di_enum fr_enumerate (da_cons (de_var 0) da_nil)) (dg_tp rfl (dgs_cons (dg_nm 2 sc_first_wrong.nd) (dgs_cons (dg_nm 3 sc_first_wrong.nd) dgs_nil))) (ds_cons (ds_if (dt_not (dt_val (de_act 1 LP (hr.mono (by decide)) (da_cons (de_var 3) (da_cons (de_sl (de_var 0) dp_no (dp_at (de_var 2))) da_nil))))) (ds_cons (ds_ret (de_var 2))
  ds_nil) ds_nil)
  ds_nil))
  (ds_cons (ds_ret de_non)
  ds_nil))

abbrev Sp_first_wrong : FM → FM := SpFW
theorem hF_first_wrong (TH : FM) (f : Addr) (G0 : Hp) (M : List D) (d : D) : F_first_wrong TH f G0 M [d, .adr f G0] = Sp_first_wrong TH M [d] := fw_spec TH f G0 M d

abbrev s_words_of : Stmt := top 21
abbrev N_words_of : List Str := ["line", "words"]
abbrev ps_words_of : List Str := ["line"]
theorem sc_words_of : FnScope N_words_of ps_words_of (defScope s_words_of) := ⟨rfl, rfl, rfl, by decide +kernel, rfl, by decide +kernel, by decide +kernel⟩
def B_words_of : FS := (S.seq (S.set 1 (E.fz (E.split (E.var 0) (E.cst (.str " ")))))
  (S.seq (S.ret (E.ite (Tt.val (E.bin inD (E.cst (.str "")) (E.var 1))) (E.cst .non) (E.var 1)))
  S.nop))
def F_words_of : List D → FO := mkF 2 1 B_words_of
theorem fn_words_of {P : Program} {w : World} {K : PySem.W.Frag} {mg : Str → Option Value} {base : Heap} {f : Addr} {fd : FuncData} (Fd : FunD K "words_of" "words_of" (defArgs s_words_of) (defBody s_words_of) (defScope s_words_of) [] [] f fd) : FnOk P w K mg base (L2.CX P w) 1 f fd ps_words_of (spD ⟨K, mg⟩ F_words_of) := by
  refine def_fn (N := N_words_of) (body := B_words_of) Fd sc_words_of (by decide) fun cdv A outer s H E hr => ?_
  have un := un_lt hr
  have un0 := un_lt0 hr
  exact (ds_cons (ds_set 1 sc_words_of.nd (df_split (de_var 0) de_str).de)
  (ds_cons (ds_ret (de_ite (dt_cmp (op_inDD (un 65 (by decide))) de_str (de_var 1)) de_non (de_var 1)))
  ds_nil))
theorem ok_words_of {P : Program} {w : World} {K : PySem.W.Frag} {mg : Str → Option Value} {base : Heap} (Fd : FunAt K mg "words_of" s_words_of) : DefOk P w K mg base "words_of" 1 F_words_of := by
  obtain ⟨f, fd, hm, Fd⟩ := Fd.ex
  exact ⟨⟨f, fd, ps_words_of, hm, Fd.kp, Fd.bindsN fun _ _ _ _ _ _ us hl => match us, hl with | [_], _ => rfl, fn_words_of Fd ⟩⟩

abbrev s_number_in : Stmt := top 22
abbrev N_number_in : List Str := ["word", "found", "sign"]
abbrev ps_number_in : List Str := ["word"]
theorem sc_number_in : FnScope N_number_in ps_number_in (defScope s_number_in) := ⟨rfl, rfl, rfl, by decide +kernel, rfl, by decide +kernel, by decide +kernel⟩
def B_number_in : FS := (S.seq (S.ifs (Tt.or (Tt.not (Tt.val (E.call F_is_made_of (A.cons (E.var 0) (A.cons (E.cst (.str "0123456789")) A.nil))))) (Tt.and (Tt.val (E.bin gtD (E.c1 lenD (E.var 0)) (E.cst (.int 1)))) (Tt.val (E.bin eqD (E.bin ixD (E.var 0) (E.cst (.int 0))) (E.cst (.str "0")))))) (S.seq (S.ret (E.cst .non))
  S.nop) S.nop)
  (S.seq (S.set 1 (E.cst (.int 0)))
  (S.seq (S.for_ (I.chars (E.var 0)) (.nm 2) (S.seq (S.set 1 (E.bin addD (E.bin mulD (E.cst (.int 10)) (E.var 1)) (E.sm idxSD (E.cst (.str "0123456789")) (E.var 2))))
  S.nop))
  (S.seq (S.ret (E.var 1))
  S.nop))))
def F_number_in : List D → FO := mkF 3 1 B_number_in
theorem fn_number_in {P : Program} {w : World} {K : PySem.W.Frag} {mg : Str → Option Value} {base : Heap} {f : Addr} {fd : FuncData} (Fd : FunD K "number_in" "number_in" (defArgs s_number_in) (defBody s_number_in) (defScope s_number_in) [] [] f fd) (D_is_made_of : DefOk P w K mg base "is_made_of" 1 F_is_made_of) (fr_len : mg "len" = none) (gs_FIGURES : ∃ t, mg "FIGURES" = some (.str "0123456789" t)) : FnOk P w K mg base (L2.CX P w) 2 f fd ps_number_in (spD ⟨K, mg⟩ F_number_in) := by
  refine def_fn (N := N_number_in) (body := B_number_in) Fd sc_number_in (by decide) fun cdv A outer s H E hr => ?_
  have un := un_lt hr
  have un0 := un_lt0 hr
  exact (ds_cons (ds_if (dw_or (dt_not (dt_val (de_call D_is_made_of (hr.mono (by decide)) (da_cons (de_var 0) (da_cons (de_gstr gs_FIGURES.choose_spec) da_nil))))) (dw_or1 (dw_and (dt_cmp op_gtD (de_b1 c_len fr_len (by decide +kernel) (de_var 0)) de_int) (dw_and1 (dt_cmp (op_eqDD (un 64 (by decide))) (de_ix (un 1 (by decide)) (de_var 0) de_int) de_str))).dt)).dt (ds_cons (ds_ret de_non)
  ds_nil) ds_nil)
  (ds_cons (ds_set 1 sc_number_in.nd de_int)
  (ds_cons (ds_for rfl (di_chars (de_var 0)) (dg_nm 2 sc_number_in.nd) (ds_cons (ds_set 1 sc_number_in.nd (de_bin op_addD (de_bin op_mulD de_int (de_var 1)) (de_idxS (de_gstr gs_FIGURES.choose_spec) (de_var 2))))
  ds_nil))
  (ds_cons (ds_ret (de_var 1))
  ds_nil))))
theorem ok_number_in {P : Program} {w : World} {K : PySem.W.Frag} {mg : Str → Option Value} {base : Heap} (Fd : FunAt K mg "number_in" s_number_in) (D_is_made_of : DefOk P w K mg base "is_made_of" 1 F_is_made_of) (fr_len : mg "len" = none) (gs_FIGURES : ∃ t, mg "FIGURES" = some (.str "0123456789" t)) : DefOk P w K mg base "number_in" 2 F_number_in := by
  obtain ⟨f, fd, hm, Fd⟩ := Fd.ex
  exact ⟨⟨f, fd, ps_number_in, hm, Fd.kp, Fd.bindsN fun _ _ _ _ _ _ us hl => match us, hl with | [_], _ => rfl, fn_number_in Fd D_is_made_of fr_len gs_FIGURES⟩⟩

abbrev s_numbers_in : Stmt := top 23
abbrev N_numbers_in : List Str := ["words", "found", "word"]
abbrev ps_numbers_in : List Str := ["words"]
theorem sc_numbers_in : FnScope N_numbers_in ps_numbers_in (defScope s_numbers_in) := ⟨rfl, rfl, rfl, by decide +kernel, rfl, by decide +kernel, by decide +kernel⟩
def B_numbers_in : FS := (S.seq (S.set 1 (E.c1 tupD (E.fz (E.lc (I.seq (E.var 0)) (.nm 2) [2] Tt.yes (E.call F_number_in (A.cons (E.var 2) A.nil))))))
  (S.seq (S.ret (E.ite (Tt.val (E.bin inD (E.cst .non) (E.var 1))) (E.cst .non) (E.var 1)))
  S.nop))
def F_numbers_in : List D → FO := mkF 3 1 B_numbers_in
theorem fn_numbers_in {P : Program} {w : World} {K : PySem.W.Frag} {mg : Str → Option Value} {base : Heap} {f : Addr} {fd : FuncData} (Fd : FunD K "numbers_in" "numbers_in" (defArgs s_numbers_in) (defBody s_numbers_in) (defScope s_numbers_in) [] [] f fd) (D_number_in : DefOk P w K mg base "number_in" 2 F_number_in) (fr_tuple : mg "tuple" = none) : FnOk P w K mg base (L2.CX P w) 3 f fd ps_numbers_in (spD ⟨K, mg⟩ F_numbers_in) := by
  refine def_fn (N := N_numbers_in) (body := B_numbers_in) Fd sc_numbers_in (by decide) fun cdv A outer s H E hr => ?_
  have un := un_lt hr
  have un0 := un_lt0 hr
  exact (ds_cons (ds_set 1 sc_numbers_in.nd (de_t1 c_tup fr_tuple (by decide +kernel) (df_lc (own := [("word", 2)]) rfl sc_numbers_in.nd (di_seq (de_var 0)) (show BlkOk N_numbers_in (defScope s_numbers_in) _ _ from blkOk_by (by decide +kernel)) (by decide) (fun s H C cl fp => (dg_nm 2 sc_numbers_in.nd)) (fun s H C cl fp => dts_nil) (fun s H C cl fp => (de_call D_number_in (hr.mono (by decide)) (da_cons (de_var 2) da_nil)))).de))
  (ds_cons (ds_ret (de_ite (dt_cmp (op_inDD (un 65 (by decide))) de_non (de_var 1)) de_non (de_var 1)))
  ds_nil))
theorem ok_numbers_in {P : Program} {w : World} {K : PySem.W.Frag} {mg : Str → Option Value} {base : Heap} (Fd : FunAt K mg "numbers_in" s_numbers_in) (D_number_in : DefOk P w K mg base "number_in" 2 F_number_in) (fr_tuple : mg "tuple" = none) : DefOk P w K mg base "numbers_in" 3 F_numbers_in := by
  obtain ⟨f, fd, hm, Fd⟩ := Fd.ex
  exact ⟨⟨f, fd, ps_numbers_in, hm, Fd.kp, Fd.bindsN fun _ _ _ _ _ _ us hl => match us, hl with | [_], _ => rfl, fn_numbers_in Fd D_number_in fr_tuple⟩⟩

abbrev s_is_people : Stmt := top 28
abbrev N_is_people : List Str := ["value"]
abbrev ps_is_people : List Str := ["value"]
theorem sc_is_people : FnScope N_is_people ps_is_people (defScope s_is_people) := ⟨rfl, rfl, rfl, by decide +kernel, rfl, by decide +kernel, by decide +kernel⟩
def B_is_people : FS := (S.seq (S.ret (E.call F_is_between (A.cons (E.var 0) (A.cons (E.cst (.int 1)) (A.cons (E.cst (.int (7))) A.nil)))))
  S.nop)
def F_is_people : List D → FO := mkF 1 1 B_is_people
theorem fn_is_people {P : Program} {w : World} {K : PySem.W.Frag} {mg : Str → Option Value} {base : Heap} {f : Addr} {fd : FuncData} (Fd : FunD K "is_people" "is_people" (defArgs s_is_people) (defBody s_is_people) (defScope s_is_people) [] [] f fd) (D_is_between : DefOk P w K mg base "is_between" 2 F_is_between) (gi_MOST_PEOPLE : ∃ t, mg "MOST_PEOPLE" = some (.int (7) t)) : FnOk P w K mg base (L2.CX P w) 3 f fd ps_is_people (spD ⟨K, mg⟩ F_is_people) := by
  refine def_fn (N := N_is_people) (body := B_is_people) Fd sc_is_people (by decide) fun cdv A outer s H E hr => ?_
  have un := un_lt hr
  have un0 := un_lt0 hr
  exact (ds_cons (ds_ret (de_call D_is_between (hr.mono (by decide)) (da_cons (de_var 0) (da_cons de_int (da_cons (de_gint gi_MOST_PEOPLE.choose_spec) da_nil)))))
  ds_nil)
theorem ok_is_people {P : Program} {w : World} {K : PySem.W.Frag} {mg : Str → Option Value} {base : Heap} (Fd : FunAt K mg "is_people" s_is_people) (D_is_between : DefOk P w K mg base "is_between" 2 F_is_between) (gi_MOST_PEOPLE : ∃ t, mg "MOST_PEOPLE" = some (.int (7) t)) : DefOk P w K mg base "is_people" 3 F_is_people := by
  obtain ⟨f, fd, hm, Fd⟩ := Fd.ex
  exact ⟨⟨f, fd, ps_is_people, hm, Fd.kp, Fd.bindsN fun _ _ _ _ _ _ us hl => match us, hl with | [_], _ => rfl, fn_is_people Fd D_is_between gi_MOST_PEOPLE⟩⟩

abbrev s_is_pair : Stmt := top 29
abbrev N_is_pair : List Str := ["people", "value", "person"]
abbrev ps_is_pair : List Str := ["people", "value"]
theorem sc_is_pair : FnScope N_is_pair ps_is_pair (defScope s_is_pair) := ⟨rfl, rfl, rfl, by decide +kernel, rfl, by decide +kernel, by decide +kernel⟩
def B_is_pair : FS := (S.seq (S.ifs (Tt.or (Tt.not (Tt.val (E.call F_is_tuple_of (A.cons (E.var 1) (A.cons (E.cst (.int 2)) A.nil))))) (Tt.not (Tt.val (E.c1 allD (E.fz (E.lc (I.seq (E.var 1)) (.nm 2) [2] Tt.yes (E.call F_is_between (A.cons (E.var 2) (A.cons (E.cst (.int 0)) (A.cons (E.bin subD (E.var 0) (E.cst (.int 1))) A.nil)))))))))) (S.seq (S.ret (E.cst (.bl false)))
  S.nop) S.nop)
  (S.seq (S.ret (E.bin ltD (E.bin ixD (E.var 1) (E.cst (.int 0))) (E.bin ixD (E.var 1) (E.cst (.int 1)))))
  S.nop))
def F_is_pair : List D → FO := mkF 3 2 B_is_pair
theorem fn_is_pair {P : Program} {w : World} {K : PySem.W.Frag} {mg : Str → Option Value} {base : Heap} {f : Addr} {fd : FuncData} (Fd : FunD K "is_pair" "is_pair" (defArgs s_is_pair) (defBody s_is_pair) (defScope s_is_pair) [] [] f fd) (D_is_tuple_of : DefOk P w K mg base "is_tuple_of" 1 F_is_tuple_of) (D_is_between : DefOk P w K mg base "is_between" 2 F_is_between) (fr_all : mg "all" = none) : FnOk P w K mg base (L2.CX P w) 3 f fd ps_is_pair (spD ⟨K, mg⟩ F_is_pair) := by
  refine def_fn (N := N_is_pair) (body := B_is_pair) Fd sc_is_pair (by decide) fun cdv A outer s H E hr => ?_
  have un := un_lt hr
  have un0 := un_lt0 hr
  exact (ds_cons (ds_if (dw_or (dt_not (dt_val (de_call D_is_tuple_of (hr.mono (by decide)) (da_cons (de_var 1) (da_cons de_int da_nil))))) (dw_or1 (dt_not (dt_val (de_b1 (c_all rfl) fr_all (by decide +kernel) (df_lc (own := [("person", 2)]) rfl sc_is_pair.nd (di_seq (de_var 1)) (show BlkOk N_is_pair (defScope s_is_pair) _ _ from blkOk_by (by decide +kernel)) (by decide) (fun s H C cl fp => (dg_nm 2 sc_is_pair.nd)) (fun s H C cl fp => dts_nil) (fun s H C cl fp => (de_call D_is_between (hr.mono (by decide)) (da_cons (de_var 2) (da_cons de_int (da_cons (de_bin op_subD (de_var 0) de_int) da_nil)))))).de))))).dt (ds_cons (ds_ret de_bl)
  ds_nil) ds_nil)
  (ds_cons (ds_ret (de_cmp (op_ltD un0) (de_ix (un 1 (by decide)) (de_var 1) de_int) (de_ix (un 1 (by decide)) (de_var 1) de_int)))
  ds_nil))
theorem ok_is_pair {P : Program} {w : World} {K : PySem.W.Frag} {mg : Str → Option Value} {base : Heap} (Fd : FunAt K mg "is_pair" s_is_pair) (D_is_tuple_of : DefOk P w K mg base "is_tuple_of" 1 F_is_tuple_of) (D_is_between : DefOk P w K mg base "is_between" 2 F_is_between) (fr_all : mg "all" = none) : DefOk P w K mg base "is_pair" 3 F_is_pair := by
  obtain ⟨f, fd, hm, Fd⟩ := Fd.ex
  exact ⟨⟨f, fd, ps_is_pair, hm, Fd.kp, Fd.bindsN fun _ _ _ _ _ _ us hl => match us, hl with | [_, _], _ => rfl, fn_is_pair Fd D_is_tuple_of D_is_between fr_all⟩⟩

abbrev s_is_next : Stmt := top 31
abbrev N_is_next : List Str := ["people", "barred", "value", "ahead"]
abbrev ps_is_next : List Str := ["people", "barred", "value", "ahead"]
theorem sc_is_next : FnScope N_is_next ps_is_next (defScope s_is_next) := ⟨rfl, rfl, rfl, by decide +kernel, rfl, by decide +kernel, by decide +kernel⟩
def B_is_next : FS := (S.seq (S.ret (E.and (E.call F_is_pair (A.cons (E.var 0) (A.cons (E.var 2) A.nil))) (E.and (E.bin ninD (E.var 2) (E.var 1)) (E.or (E.bin eqD (E.var 3) (E.tup A.nil)) (E.bin ltD (E.bin ixD (E.var 3) (E.c1 negD (E.cst (.int 1)))) (E.var 2))))))
  S.nop)
def F_is_next : List D → FO := mkF 4 4 B_is_next
theorem fn_is_next {P : Program} {w : World} {K : PySem.W.Frag} {mg : Str → Option Value} {base : Heap} {f : Addr} {fd : FuncData} (Fd : FunD K "is_next" "is_next" (defArgs s_is_next) (defBody s_is_next) (defScope s_is_next) [] [] f fd) (D_is_pair : DefOk P w K mg base "is_pair" 3 F_is_pair) : FnOk P w K mg base (L2.CX P w) 4 f fd ps_is_next (spD ⟨K, mg⟩ F_is_next) := by
  refine def_fn (N := N_is_next) (body := B_is_next) Fd sc_is_next (by decide) fun cdv A outer s H E hr => ?_
  have un := un_lt hr
  have un0 := un_lt0 hr
  exact (ds_cons (ds_ret (de_and (de_call D_is_pair (hr.mono (by decide)) (da_cons (de_var 0) (da_cons (de_var 2) da_nil))) (de_and (de_cmp (op_ninDD (un 65 (by decide))) (de_var 2) (de_var 1)) (de_one (de_or (de_cmp (op_eqDD (un 64 (by decide))) (de_var 3) (de_tup da_nil)) (de_one (de_cmp (op_ltD un0) (de_ix (un 1 (by decide)) (de_var 3) (de_un u_neg de_int)) (de_var 2))))))))
  ds_nil)
theorem ok_is_next {P : Program} {w : World} {K : PySem.W.Frag} {mg : Str → Option Value} {base : Heap} (Fd : FunAt K mg "is_next" s_is_next) (D_is_pair : DefOk P w K mg base "is_pair" 3 F_is_pair) : DefOk P w K mg base "is_next" 4 F_is_next := by
  obtain ⟨f, fd, hm, Fd⟩ := Fd.ex
  exact ⟨⟨f, fd, ps_is_next, hm, Fd.kp, Fd.bindsN fun _ _ _ _ _ _ us hl => match us, hl with | [_, _, _, _], _ => rfl, fn_is_next Fd D_is_pair⟩⟩

abbrev s_wrong_pair : Stmt := top 30
abbrev N_wrong_pair : List Str := ["people", "barred", "value", "pair", "ahead"]
abbrev ps_wrong_pair : List Str := ["people", "barred", "value"]
theorem sc_wrong_pair : FnScope N_wrong_pair ps_wrong_pair (defScope s_wrong_pair) := ⟨rfl, rfl, rfl, by decide +kernel, rfl, by decide +kernel, by decide +kernel⟩
def B_wrong_pair : FS := (S.seq (S.ret (E.lam2 "wrong_pair" Sp_first_wrong [3, 4] (E.call F_is_next (A.cons (E.var 0) (A.cons (E.var 1) (A.cons (E.var 3) (A.cons (E.var 4) A.nil))))) (E.var 2)))
  S.nop)
def F_wrong_pair : FM := mkM 5 3 B_wrong_pair
theorem fn_wrong_pair {P : Program} {w : World} {K : PySem.W.Frag} {mg : Str → Option Value} {base : Heap} {f : Addr} {fd : FuncData} (Fd : FunD K "wrong_pair" "wrong_pair" (defArgs s_wrong_pair) (defBody s_wrong_pair) (defScope s_wrong_pair) [] [] f fd) (hm : mg "wrong_pair" = some (.ref f)) (D_is_next : DefOk P w K mg base "is_next" 4 F_is_next) (D_first_wrong : DefOkL P w K mg base "first_wrong" 2 6 F_first_wrong) (tb_wrong_pair : TabH K mg base "wrong_pair") : FnOk P w K mg base (L2.CX P w) 8 f fd ps_wrong_pair (spM ⟨K, mg⟩ F_wrong_pair) := by
  refine def_fnMC (N := N_wrong_pair) (body := B_wrong_pair) Fd hm sc_wrong_pair (by decide) fun cdv A outer s H E hcode hr => ?_
  have un := un_lt hr
  have un0 := un_lt0 hr
  exact (ds_cons (ds_ret (de_lam2 D_first_wrong (LamD.mk (ps := ["pair", "ahead"]) (j := 4) (tb_wrong_pair.x hcode) (by first | rfl | decide +kernel) rfl (lamSP_by (sc := defScope s_wrong_pair) (by decide +kernel)) sc_wrong_pair.nd rfl (fun _ _ _ _ _ us hl => match us, hl with | [_, _], _ => rfl) (fun f c' A outer s H E hr => (have un := un_lt hr; have un0 := un_lt0 hr; (de_call D_is_next (hr.mono (by decide)) (da_cons (de_var 0) (da_cons (de_var 1) (da_cons (de_var 3) (da_cons (de_var 4) da_nil)))))))) (hr.mono (by decide)) (fun _ _ _ _ _ => hF_first_wrong ..) (de_var 2)))
  ds_nil)
theorem ok_wrong_pair {P : Program} {w : World} {K : PySem.W.Frag} {mg : Str → Option Value} {base : Heap} (Fd : FunAt K mg "wrong_pair" s_wrong_pair) (D_is_next : DefOk P w K mg base "is_next" 4 F_is_next) (D_first_wrong : DefOkL P w K mg base "first_wrong" 2 6 F_first_wrong) (tb_wrong_pair : TabH K mg base "wrong_pair") : DefOkM P w K mg base "wrong_pair" 8 F_wrong_pair := by
  obtain ⟨f, fd, hm, Fd⟩ := Fd.ex
  exact ⟨⟨f, fd, ps_wrong_pair, hm, Fd.kp, Fd.bindsN fun _ _ _ _ _ _ us hl => match us, hl with | [_, _, _], _ => rfl, fn_wrong_pair Fd hm D_is_next D_first_wrong tb_wrong_pair⟩⟩

abbrev s_Web___init__ : Stmt := meth 32 0
abbrev N_Web___init__ : List Str := ["self", "people", "friends", "foes", "wrong"]
abbrev ps_Web___init__ : List Str := ["self", "people", "friends", "foes"]
theorem sc_Web___init__ : FnScope N_Web___init__ ps_Web___init__ (defScope s_Web___init__) := ⟨rfl, rfl, rfl, by decide +kernel, rfl, by decide +kernel, by decide +kernel⟩
def B_Web___init__ : FS := (S.seq (S.ifs (Tt.not (Tt.val (E.call F_is_people (A.cons (E.var 1) A.nil)))) (S.seq (S.raise1 "InvalidNumber" "given" (E.var 1))
  S.nop) S.nop)
  (S.seq (S.ifs (Tt.not (Tt.val (E.c1 (isB "tuple") (E.var 2)))) (S.seq (S.raise1 "InvalidFriends" "index" (E.cst .non))
  S.nop) S.nop)
  (S.seq (S.set 4 (E.callM F_wrong_pair (A.cons (E.var 1) (A.cons (E.tup A.nil) (A.cons (E.var 2) A.nil)))))
  (S.seq (S.ifs (Tt.val (E.bin ntND (E.var 4) (E.cst .non))) (S.seq (S.raise1 "InvalidFriends" "index" (E.var 4))
  S.nop) S.nop)
  (S.seq (S.ifs (Tt.not (Tt.val (E.c1 (isB "tuple") (E.var 3)))) (S.seq (S.raise1 "InvalidFoes" "index" (E.cst .non))
  S.nop) S.nop)
  (S.seq (S.set 4 (E.callM F_wrong_pair (A.cons (E.var 1) (A.cons (E.var 2) (A.cons (E.var 3) A.nil)))))
  (S.seq (S.ifs (Tt.val (E.bin ntND (E.var 4) (E.cst .non))) (S.seq (S.raise1 "InvalidFoes" "index" (E.var 4))
  S.nop) S.nop)
  (S.seq (S.fld "Web" fs_Web "people" (E.var 0) (E.var 1))
  (S.seq (S.fld "Web" fs_Web "friends" (E.var 0) (E.var 2))
  (S.seq (S.fld "Web" fs_Web "foes" (E.var 0) (E.var 3))
  (S.seq (S.fld "Web" fs_Web "kept" (E.var 0) (E.fz E.dnK))
  S.nop)))))))))))
def F_Web___init__ : FM := mkM 5 4 B_Web___init__
theorem fn_Web___init__ {P : Program} {w : World} {K : PySem.W.Frag} {mg : Str → Option Value} {base : Heap} {f : Addr} {fd : FuncData} {dvs : List V} (Fd : FunD K "__init__" "Web.__init__" (defArgs s_Web___init__) (defBody s_Web___init__) (defScope s_Web___init__) dvs [] f fd) (D_is_people : DefOk P w K mg base "is_people" 3 F_is_people) (D_wrong_pair : DefOkM P w K mg base "wrong_pair" 8 F_wrong_pair) (fr_isinstance : mg "isinstance" = none) (fr_tuple : mg "tuple" = none) (xt_InvalidFoes : ExcT P w K mg base "InvalidFoes" "index") (xt_InvalidFriends : ExcT P w K mg base "InvalidFriends" "index") (xt_InvalidNumber : ExcT P w K mg base "InvalidNumber" "given") (WI : WebI K mg) (OT_Web : ObjT K mg "Web" fs_Web) : FnOk P w K mg base (L2.CX P w) 9 f fd ps_Web___init__ (spM ⟨K, mg⟩ F_Web___init__) := by
  refine def_fnM (N := N_Web___init__) (body := B_Web___init__) Fd sc_Web___init__ (by decide) fun cdv A outer s H E hr => ?_
  have un := un_lt hr
  have un0 := un_lt0 hr
  exact (ds_cons (ds_if (dt_not (dt_val (de_call D_is_people (hr.mono (by decide)) (da_cons (de_var 1) da_nil)))) (ds_cons (ds_raise1 rfl xt_InvalidNumber (hr.mono (by decide)) (de_var 1))
  ds_nil) ds_nil)
  (ds_cons (ds_if (dt_not (dt_val (de_isB WI fr_tuple fr_isinstance (by decide +kernel) (de_var 2)))) (ds_cons (ds_raise1 rfl xt_InvalidFriends (hr.mono (by decide)) de_non)
  ds_nil) ds_nil)
  (ds_cons (ds_set 4 sc_Web___init__.nd (de_callM D_wrong_pair (hr.mono (by decide)) (da_cons (de_var 1) (da_cons (de_tup da_nil) (da_cons (de_var 2) da_nil)))))
  (ds_cons (ds_if (dt_cmp op_ntND (de_var 4) de_non) (ds_cons (ds_raise1 rfl xt_InvalidFriends (hr.mono (by decide)) (de_var 4))
  ds_nil) ds_nil)
  (ds_cons (ds_if (dt_not (dt_val (de_isB WI fr_tuple fr_isinstance (by decide +kernel) (de_var 3)))) (ds_cons (ds_raise1 rfl xt_InvalidFoes (hr.mono (by decide)) de_non)
  ds_nil) ds_nil)
  (ds_cons (ds_set 4 sc_Web___init__.nd (de_callM D_wrong_pair (hr.mono (by decide)) (da_cons (de_var 1) (da_cons (de_var 2) (da_cons (de_var 3) da_nil)))))
  (ds_cons (ds_if (dt_cmp op_ntND (de_var 4) de_non) (ds_cons (ds_raise1 rfl xt_InvalidFoes (hr.mono (by decide)) (de_var 4))
  ds_nil) ds_nil)
  (ds_cons (ds_fld OT_Web (de_var 0) (de_var 1))
  (ds_cons (ds_fld OT_Web (de_var 0) (de_var 2))
  (ds_cons (ds_fld OT_Web (de_var 0) (de_var 3))
  (ds_cons (ds_fld OT_Web (de_var 0) (df_dnK).de)
  ds_nil)))))))))))
theorem nw_Web1_of {P : Program} {w : World} {K : PySem.W.Frag} {mg : Str → Option Value} {base : Heap} (At : InitAt K mg "Web" "Web.__init__" s_Web___init__ [.tup [], .tup []]) (D_is_people : DefOk P w K mg base "is_people" 3 F_is_people) (D_wrong_pair : DefOkM P w K mg base "wrong_pair" 8 F_wrong_pair) (fr_isinstance : mg "isinstance" = none) (fr_tuple : mg "tuple" = none) (xt_InvalidFoes : ExcT P w K mg base "InvalidFoes" "index") (xt_InvalidFriends : ExcT P w K mg base "InvalidFriends" "index") (xt_InvalidNumber : ExcT P w K mg base "InvalidNumber" "given") (WI : WebI K mg) (OT_Web : ObjT K mg "Web" fs_Web) : NewD P w K mg base "Web" 9 [.tup [], .tup []] F_Web___init__ :=
  newDd_of 2 0 At (fun Fd => fn_Web___init__ Fd D_is_people D_wrong_pair fr_isinstance fr_tuple xt_InvalidFoes xt_InvalidFriends xt_InvalidNumber WI OT_Web) (by simp) (by rfl) fun T kV doc pm an cdv ct us its h1 h2 => match us, its, h1, h2 with | [_, _], [_, _], _, _ => ⟨_, rfl, rfl⟩
theorem nw_Web3_of {P : Program} {w : World} {K : PySem.W.Frag} {mg : Str → Option Value} {base : Heap} (At : InitAt K mg "Web" "Web.__init__" s_Web___init__ [.tup [], .tup []]) (D_is_people : DefOk P w K mg base "is_people" 3 F_is_people) (D_wrong_pair : DefOkM P w K mg base "wrong_pair" 8 F_wrong_pair) (fr_isinstance : mg "isinstance" = none) (fr_tuple : mg "tuple" = none) (xt_InvalidFoes : ExcT P w K mg base "InvalidFoes" "index") (xt_InvalidFriends : ExcT P w K mg base "InvalidFriends" "index") (xt_InvalidNumber : ExcT P w K mg base "InvalidNumber" "given") (WI : WebI K mg) (OT_Web : ObjT K mg "Web" fs_Web) : NewD P w K mg base "Web" 9 [] F_Web___init__ :=
  newDd_of 4 2 At (fun Fd => fn_Web___init__ Fd D_is_people D_wrong_pair fr_isinstance fr_tuple xt_InvalidFoes xt_InvalidFriends xt_InvalidNumber WI OT_Web) (by simp) (by rfl) fun T kV doc pm an cdv ct us its h1 h2 => match us, its, h1, h2 with | [_, _, _, _], [_, _], _, _ => ⟨_, rfl, rfl⟩

abbrev s_check_web : Stmt := top 33
abbrev N_check_web : List Str := ["value"]
abbrev ps_check_web : List Str := ["value"]
theorem sc_check_web : FnScope N_check_web ps_check_web (defScope s_check_web) := ⟨rfl, rfl, rfl, by decide +kernel, rfl, by decide +kernel, by decide +kernel⟩
def B_check_web : FS := (S.seq (S.ifs (Tt.not (Tt.val (E.c1 isW (E.var 0)))) (S.seq (S.raise1 "NotAWeb" "given" (E.var 0))
  S.nop) S.nop)
  S.nop)
def F_check_web : List D → FO := mkF 1 1 B_check_web
theorem fn_check_web {P : Program} {w : World} {K : PySem.W.Frag} {mg : Str → Option Value} {base : Heap} {f : Addr} {fd : FuncData} (Fd : FunD K "check_web" "check_web" (defArgs s_check_web) (defBody s_check_web) (defScope s_check_web) [] [] f fd) (fr_isinstance : mg "isinstance" = none) (xt_NotAWeb : ExcT P w K mg base "NotAWeb" "given") (WI : WebI K mg) : FnOk P w K mg base (L2.CX P w) 3 f fd ps_check_web (spD ⟨K, mg⟩ F_check_web) := by
  refine def_fn (N := N_check_web) (body := B_check_web) Fd sc_check_web (by decide) fun cdv A outer s H E hr => ?_
  have un := un_lt hr
  have un0 := un_lt0 hr
  exact (ds_cons (ds_if (dt_not (dt_val (de_isW WI fr_isinstance (de_var 0)))) (ds_cons (ds_raise1 rfl xt_NotAWeb (hr.mono (by decide)) (de_var 0))
  ds_nil) ds_nil)
  ds_nil)
theorem ok_check_web {P : Program} {w : World} {K : PySem.W.Frag} {mg : Str → Option Value} {base : Heap} (Fd : FunAt K mg "check_web" s_check_web) (fr_isinstance : mg "isinstance" = none) (xt_NotAWeb : ExcT P w K mg base "NotAWeb" "given") (WI : WebI K mg) : DefOk P w K mg base "check_web" 3 F_check_web := by
  obtain ⟨f, fd, hm, Fd⟩ := Fd.ex
  exact ⟨⟨f, fd, ps_check_web, hm, Fd.kp, Fd.bindsN fun _ _ _ _ _ _ us hl => match us, hl with | [_], _ => rfl, fn_check_web Fd fr_isinstance xt_NotAWeb WI⟩⟩

abbrev s_is_person : Stmt := top 35
abbrev N_is_person : List Str := ["web", "value"]
abbrev ps_is_person : List Str := ["web", "value"]
theorem sc_is_person : FnScope N_is_person ps_is_person (defScope s_is_person) := ⟨rfl, rfl, rfl, by decide +kernel, rfl, by decide +kernel, by decide +kernel⟩
def B_is_person : FS := (S.seq (S.ret (E.call F_is_between (A.cons (E.var 1) (A.cons (E.cst (.int 0)) (A.cons (E.bin subD (E.c1 (fldD "people") (E.var 0)) (E.cst (.int 1))) A.nil)))))
  S.nop)
def F_is_person : List D → FO := mkF 2 2 B_is_person
theorem fn_is_person {P : Program} {w : World} {K : PySem.W.Frag} {mg : Str → Option Value} {base : Heap} {f : Addr} {fd : FuncData} (Fd : FunD K "is_person" "is_person" (defArgs s_is_person) (defBody s_is_person) (defScope s_is_person) [] [] f fd) (D_is_between : DefOk P w K mg base "is_between" 2 F_is_between) (WT : WebT K mg) : FnOk P w K mg base (L2.CX P w) 3 f fd ps_is_person (spD ⟨K, mg⟩ F_is_person) := by
  refine def_fn (N := N_is_person) (body := B_is_person) Fd sc_is_person (by decide) fun cdv A outer s H E hr => ?_
  have un := un_lt hr
  have un0 := un_lt0 hr
  exact (ds_cons (ds_ret (de_call D_is_between (hr.mono (by decide)) (da_cons (de_var 1) (da_cons de_int (da_cons (de_bin op_subD (de_fld WT (de_var 0)) de_int) da_nil)))))
  ds_nil)
theorem ok_is_person {P : Program} {w : World} {K : PySem.W.Frag} {mg : Str → Option Value} {base : Heap} (Fd : FunAt K mg "is_person" s_is_person) (D_is_between : DefOk P w K mg base "is_between" 2 F_is_between) (WT : WebT K mg) : DefOk P w K mg base "is_person" 3 F_is_person := by
  obtain ⟨f, fd, hm, Fd⟩ := Fd.ex
  exact ⟨⟨f, fd, ps_is_person, hm, Fd.kp, Fd.bindsN fun _ _ _ _ _ _ us hl => match us, hl with | [_, _], _ => rfl, fn_is_person Fd D_is_between WT⟩⟩

abbrev s_check_person : Stmt := top 36
abbrev N_check_person : List Str := ["web", "value"]
abbrev ps_check_person : List Str := ["web", "value"]
theorem sc_check_person : FnScope N_check_person ps_check_person (defScope s_check_person) := ⟨rfl, rfl, rfl, by decide +kernel, rfl, by decide +kernel, by decide +kernel⟩
def B_check_person : FS := (S.seq (S.ifs (Tt.not (Tt.val (E.call F_is_person (A.cons (E.var 0) (A.cons (E.var 1) A.nil))))) (S.seq (S.raise1 "InvalidNumber" "given" (E.var 1))
  S.nop) S.nop)
  S.nop)
def F_check_person : List D → FO := mkF 2 2 B_check_person
theorem fn_check_person {P : Program} {w : World} {K : PySem.W.Frag} {mg : Str → Option Value} {base : Heap} {f : Addr} {fd : FuncData} (Fd : FunD K "check_person" "check_person" (defArgs s_check_person) (defBody s_check_person) (defScope s_check_person) [] [] f fd) (D_is_person : DefOk P w K mg base "is_person" 3 F_is_person) (xt_InvalidNumber : ExcT P w K mg base "InvalidNumber" "given") : FnOk P w K mg base (L2.CX P w) 4 f fd ps_check_person (spD ⟨K, mg⟩ F_check_person) := by
  refine def_fn (N := N_check_person) (body := B_check_person) Fd sc_check_person (by decide) fun cdv A outer s H E hr => ?_
  have un := un_lt hr
  have un0 := un_lt0 hr
  exact (ds_cons (ds_if (dt_not (dt_val (de_call D_is_person (hr.mono (by decide)) (da_cons (de_var 0) (da_cons (de_var 1) da_nil))))) (ds_cons (ds_raise1 rfl xt_InvalidNumber (hr.mono (by decide)) (de_var 1))
  ds_nil) ds_nil)
  ds_nil)
theorem ok_check_person {P : Program} {w : World} {K : PySem.W.Frag} {mg : Str → Option Value} {base : Heap} (Fd : FunAt K mg "check_person" s_check_person) (D_is_person : DefOk P w K mg base "is_person" 3 F_is_person) (xt_InvalidNumber : ExcT P w K mg base "InvalidNumber" "given") : DefOk P w K mg base "check_person" 4 F_check_person := by
  obtain ⟨f, fd, hm, Fd⟩ := Fd.ex
  exact ⟨⟨f, fd, ps_check_person, hm, Fd.kp, Fd.bindsN fun _ _ _ _ _ _ us hl => match us, hl with | [_, _], _ => rfl, fn_check_person Fd D_is_person xt_InvalidNumber⟩⟩

abbrev s_check_other : Stmt := top 37
abbrev N_check_other : List Str := ["web", "one", "other"]
abbrev ps_check_other : List Str := ["web", "one", "other"]
theorem sc_check_other : FnScope N_check_other ps_check_other (defScope s_check_other) := ⟨rfl, rfl, rfl, by decide +kernel, rfl, by decide +kernel, by decide +kernel⟩
def B_check_other : FS := (S.seq (S.expr (E.call F_check_person (A.cons (E.var 0) (A.cons (E.var 1) A.nil))))
  (S.seq (S.ifs (Tt.or (Tt.not (Tt.val (E.call F_is_person (A.cons (E.var 0) (A.cons (E.var 2) A.nil))))) (Tt.val (E.bin eqD (E.var 2) (E.var 1)))) (S.seq (S.raise1 "InvalidNumber" "given" (E.var 2))
  S.nop) S.nop)
  S.nop))
def F_check_other : List D → FO := mkF 3 3 B_check_other
theorem fn_check_other {P : Program} {w : World} {K : PySem.W.Frag} {mg : Str → Option Value} {base : Heap} {f : Addr} {fd : FuncData} (Fd : FunD K "check_other" "check_other" (defArgs s_check_other) (defBody s_check_other) (defScope s_check_other) [] [] f fd) (D_check_person : DefOk P w K mg base "check_person" 4 F_check_person) (D_is_person : DefOk P w K mg base "is_person" 3 F_is_person) (xt_InvalidNumber : ExcT P w K mg base "InvalidNumber" "given") : FnOk P w K mg base (L2.CX P w) 5 f fd ps_check_other (spD ⟨K, mg⟩ F_check_other) := by
  refine def_fn (N := N_check_other) (body := B_check_other) Fd sc_check_other (by decide) fun cdv A outer s H E hr => ?_
  have un := un_lt hr
  have un0 := un_lt0 hr
  exact (ds_cons (ds_expr (de_call D_check_person (hr.mono (by decide)) (da_cons (de_var 0) (da_cons (de_var 1) da_nil))))
  (ds_cons (ds_if (dw_or (dt_not (dt_val (de_call D_is_person (hr.mono (by decide)) (da_cons (de_var 0) (da_cons (de_var 2) da_nil))))) (dw_or1 (dt_cmp (op_eqDD (un 64 (by decide))) (de_var 2) (de_var 1)))).dt (ds_cons (ds_raise1 rfl xt_InvalidNumber (hr.mono (by decide)) (de_var 2))
  ds_nil) ds_nil)
  ds_nil))
theorem ok_check_other {P : Program} {w : World} {K : PySem.W.Frag} {mg : Str → Option Value} {base : Heap} (Fd : FunAt K mg "check_other" s_check_other) (D_check_person : DefOk P w K mg base "check_person" 4 F_check_person) (D_is_person : DefOk P w K mg base "is_person" 3 F_is_person) (xt_InvalidNumber : ExcT P w K mg base "InvalidNumber" "given") : DefOk P w K mg base "check_other" 5 F_check_other := by
  obtain ⟨f, fd, hm, Fd⟩ := Fd.ex
  exact ⟨⟨f, fd, ps_check_other, hm, Fd.kp, Fd.bindsN fun _ _ _ _ _ _ us hl => match us, hl with | [_, _, _], _ => rfl, fn_check_other Fd D_check_person D_is_person xt_InvalidNumber⟩⟩

abbrev s_is_lot : Stmt := top 38
abbrev N_is_lot : List Str := ["web", "value", "person", "one", "other"]
abbrev ps_is_lot : List Str := ["web", "value"]
theorem sc_is_lot : FnScope N_is_lot ps_is_lot (defScope s_is_lot) := ⟨rfl, rfl, rfl, by decide +kernel, rfl, by decide +kernel, by decide +kernel⟩
def B_is_lot : FS := (S.seq (S.ifs (Tt.or (Tt.not (Tt.val (E.c1 (isB "tuple") (E.var 1)))) (Tt.not (Tt.val (E.c1 allD (E.fz (E.lc (I.seq (E.var 1)) (.nm 2) [2] Tt.yes (E.call F_is_person (A.cons (E.var 0) (A.cons (E.var 2) A.nil))))))))) (S.seq (S.ret (E.cst (.bl false)))
  S.nop) S.nop)
  (S.seq (S.ret (E.c1 allD (E.fz (E.lc (I.zip (A.cons (E.var 1) (A.cons (E.sl (E.var 1) (P.at (E.cst (.int 1))) P.no) A.nil))) (.tp [(.nm 3), (.nm 4)]) [3, 4] Tt.yes (E.bin ltD (E.var 3) (E.var 4))))))
  S.nop))
def F_is_lot : List D → FO := mkF 5 2 B_is_lot
theorem fn_is_lot {P : Program} {w : World} {K : PySem.W.Frag} {mg : Str → Option Value} {base : Heap} {f : Addr} {fd : FuncData} (Fd : FunD K "is_lot" "is_lot" (defArgs s_is_lot) (defBody s_is_lot) (defScope s_is_lot) [] [] f fd) (D_is_person : DefOk P w K mg base "is_person" 3 F_is_person) (fr_isinstance : mg "isinstance" = none) (fr_tuple : mg "tuple" = none) (fr_all : mg "all" = none) (fr_zip : mg "zip" = none) (WI : WebI K mg) : FnOk P w K mg base (L2.CX P w) 4 f fd ps_is_lot (spD ⟨K, mg⟩ F_is_lot) := by
  refine def_fn (N := N_is_lot) (body := B_is_lot) Fd sc_is_lot (by decide) fun cdv A outer s H E hr => ?_
  have un := un_lt hr
  have un0 := un_lt0 hr
  exact (ds_cons (ds_if (dw_or (dt_not (dt_val (de_isB WI fr_tuple fr_isinstance (by decide +kernel) (de_var 1)))) (dw_or1 (dt_not (dt_val (de_b1 (c_all rfl) fr_all (by decide +kernel) (df_lc (own := [("person", 2)]) rfl sc_is_lot.nd (di_seq (de_var 1)) (show BlkOk N_is_lot (defScope s_is_lot) _ _ from blkOk_by (by decide +kernel)) (by decide) (fun s H C cl fp => (dg_nm 2 sc_is_lot.nd)) (fun s H C cl fp => dts_nil) (fun s H C cl fp => (de_call D_is_person (hr.mono (by decide)) (da_cons (de_var 0) (da_cons (de_var 2) da_nil))))).de))))).dt (ds_cons (ds_ret de_bl)
  ds_nil) ds_nil)
  (ds_cons (ds_ret (de_b1 (c_all rfl) fr_all (by decide +kernel) (df_lc (own := [("one", 3), ("other", 4)]) rfl sc_is_lot.nd (di_zip fr_zip (da_cons (de_var 1) (da_cons (de_sl (de_var 1) (dp_at de_int) dp_no) da_nil))) (show BlkOk N_is_lot (defScope s_is_lot) _ _ from blkOk_by (by decide +kernel)) (by decide) (fun s H C cl fp => (dg_tp rfl (dgs_cons (dg_nm 3 sc_is_lot.nd) (dgs_cons (dg_nm 4 sc_is_lot.nd) dgs_nil)))) (fun s H C cl fp => dts_nil) (fun s H C cl fp => (de_cmp (op_ltD un0) (de_var 3) (de_var 4)))).de))
  ds_nil))
theorem ok_is_lot {P : Program} {w : World} {K : PySem.W.Frag} {mg : Str → Option Value} {base : Heap} (Fd : FunAt K mg "is_lot" s_is_lot) (D_is_person : DefOk P w K mg base "is_person" 3 F_is_person) (fr_isinstance : mg "isinstance" = none) (fr_tuple : mg "tuple" = none) (fr_all : mg "all" = none) (fr_zip : mg "zip" = none) (WI : WebI K mg) : DefOk P w K mg base "is_lot" 4 F_is_lot := by
  obtain ⟨f, fd, hm, Fd⟩ := Fd.ex
  exact ⟨⟨f, fd, ps_is_lot, hm, Fd.kp, Fd.bindsN fun _ _ _ _ _ _ us hl => match us, hl with | [_, _], _ => rfl, fn_is_lot Fd D_is_person fr_isinstance fr_tuple fr_all fr_zip WI⟩⟩

abbrev s_all_lots : Stmt := top 39
abbrev N_all_lots : List Str := ["web", "found", "many", "lot"]
abbrev ps_all_lots : List Str := ["web"]
theorem sc_all_lots : FnScope N_all_lots ps_all_lots (defScope s_all_lots) := ⟨rfl, rfl, rfl, by decide +kernel, rfl, by decide +kernel, by decide +kernel⟩
def B_all_lots : FS := (S.seq (S.own 1 (E.lst A.nil))
  (S.seq (S.for_ (I.rng1 (A.cons (E.bin addD (E.c1 (fldD "people") (E.var 0)) (E.cst (.int 1))) A.nil)) (.nm 2) (S.seq (S.ext 1 (E.fz (E.lc (I.cmb (A.cons (E.fz (E.lrng (E.c1 (fldD "people") (E.var 0)))) (A.cons (E.c1 intD (E.var 2)) A.nil))) (.nm 3) [3] Tt.yes (E.var 3))))
  S.nop))
  (S.seq (S.ret (E.fz (E.srt (E.var 1))))
  S.nop)))
def F_all_lots : List D → FO := mkF 4 1 B_all_lots
theorem fn_all_lots {P : Program} {w : World} {K : PySem.W.Frag} {mg : Str → Option Value} {base : Heap} {f : Addr} {fd : FuncData} (Fd : FunD K "all_lots" "all_lots" (defArgs s_all_lots) (defBody s_all_lots) (defScope s_all_lots) [] [] f fd) (fr_range : mg "range" = none) (fr_int : mg "int" = none) (fr_list : mg "list" = none) (fr_sorted : mg "sorted" = none) (WT : WebT K mg) (gc_combinations : mg "combinations" = some (.type "itertools.combinations")) : FnOk P w K mg base (L2.CX P w) 1 f fd ps_all_lots (spD ⟨K, mg⟩ F_all_lots) := by
  refine def_fn (N := N_all_lots) (body := B_all_lots) Fd sc_all_lots (by decide) fun cdv A outer s H E hr => ?_
  have un := un_lt hr
  have un0 := un_lt0 hr
  exact (ds_cons (ds_own 1 sc_all_lots.nd (df_lst da_nil))
  (ds_cons (ds_for rfl (di_rng1 fr_range (da_cons (de_bin op_addD (de_fld WT (de_var 0)) de_int) da_nil)) (dg_nm 2 sc_all_lots.nd) (ds_cons (ds_ext 1 (df_lc (own := [("lot", 3)]) rfl sc_all_lots.nd (di_cmb gc_combinations (da_cons (df_lrng rfl fr_list fr_range (de_fld WT (de_var 0))).de (da_cons (de_t1 c_int fr_int (by decide +kernel) (de_var 2)) da_nil))) (show BlkOk N_all_lots (defScope s_all_lots) _ _ from blkOk_by (by decide +kernel)) (by decide) (fun s H C cl fp => (dg_nm 3 sc_all_lots.nd)) (fun s H C cl fp => dts_nil) (fun s H C cl fp => (de_var 3))).de)
  ds_nil))
  (ds_cons (ds_ret (df_srt (un 2 (by decide)) fr_sorted (de_var 1)).de)
  ds_nil)))
theorem ok_all_lots {P : Program} {w : World} {K : PySem.W.Frag} {mg : Str → Option Value} {base : Heap} (Fd : FunAt K mg "all_lots" s_all_lots) (fr_range : mg "range" = none) (fr_int : mg "int" = none) (fr_list : mg "list" = none) (fr_sorted : mg "sorted" = none) (WT : WebT K mg) (gc_combinations : mg "combinations" = some (.type "itertools.combinations")) : DefOk P w K mg base "all_lots" 1 F_all_lots := by
  obtain ⟨f, fd, hm, Fd⟩ := Fd.ex
  exact ⟨⟨f, fd, ps_all_lots, hm, Fd.kp, Fd.bindsN fun _ _ _ _ _ _ us hl => match us, hl with | [_], _ => rfl, fn_all_lots Fd fr_range fr_int fr_list fr_sorted WT gc_combinations⟩⟩

abbrev s_ties_by : Stmt := top 40
abbrev N_ties_by : List Str := ["web"]
abbrev ps_ties_by : List Str := ["web"]
theorem sc_ties_by : FnScope N_ties_by ps_ties_by (defScope s_ties_by) := ⟨rfl, rfl, rfl, by decide +kernel, rfl, by decide +kernel, by decide +kernel⟩
def B_ties_by : FS := (S.seq (S.ret (E.c1 tupD (E.fz (E.srt (E.bin addD (E.c1 (fldD "friends") (E.var 0)) (E.c1 (fldD "foes") (E.var 0)))))))
  S.nop)
def F_ties_by : List D → FO := mkF 1 1 B_ties_by
theorem fn_ties_by {P : Program} {w : World} {K : PySem.W.Frag} {mg : Str → Option Value} {base : Heap} {f : Addr} {fd : FuncData} (Fd : FunD K "ties_by" "ties_by" (defArgs s_ties_by) (defBody s_ties_by) (defScope s_ties_by) [] [] f fd) (fr_tuple : mg "tuple" = none) (fr_sorted : mg "sorted" = none) (WT : WebT K mg) : FnOk P w K mg base (L2.CX P w) 1 f fd ps_ties_by (spD ⟨K, mg⟩ F_ties_by) := by
  refine def_fn (N := N_ties_by) (body := B_ties_by) Fd sc_ties_by (by decide) fun cdv A outer s H E hr => ?_
  have un := un_lt hr
  have un0 := un_lt0 hr
  exact (ds_cons (ds_ret (de_t1 c_tup fr_tuple (by decide +kernel) (df_srt (un 2 (by decide)) fr_sorted (de_bin op_addD (de_fld WT (de_var 0)) (de_fld WT (de_var 0)))).de))
  ds_nil)
theorem ok_ties_by {P : Program} {w : World} {K : PySem.W.Frag} {mg : Str → Option Value} {base : Heap} (Fd : FunAt K mg "ties_by" s_ties_by) (fr_tuple : mg "tuple" = none) (fr_sorted : mg "sorted" = none) (WT : WebT K mg) : DefOk P w K mg base "ties_by" 1 F_ties_by := by
  obtain ⟨f, fd, hm, Fd⟩ := Fd.ex
  exact ⟨⟨f, fd, ps_ties_by, hm, Fd.kp, Fd.bindsN fun _ _ _ _ _ _ us hl => match us, hl with | [_], _ => rfl, fn_ties_by Fd fr_tuple fr_sorted WT⟩⟩

abbrev s_sign_of : Stmt := top 41
abbrev N_sign_of : List Str := ["web", "one", "other", "pair"]
abbrev ps_sign_of : List Str := ["web", "one", "other"]
theorem sc_sign_of : FnScope N_sign_of ps_sign_of (defScope s_sign_of) := ⟨rfl, rfl, rfl, by decide +kernel, rfl, by decide +kernel, by decide +kernel⟩
def B_sign_of : FS := (S.seq (S.set 3 (E.tup (A.cons (E.cb min2D (A.cons (E.var 1) (A.cons (E.var 2) A.nil))) (A.cons (E.cb max2D (A.cons (E.var 1) (A.cons (E.var 2) A.nil))) A.nil))))
  (S.seq (S.ifs (Tt.val (E.bin inD (E.var 3) (E.c1 (fldD "friends") (E.var 0)))) (S.seq (S.ret (E.cst (.int (1))))
  S.nop) S.nop)
  (S.seq (S.ret (E.ite (Tt.val (E.bin inD (E.var 3) (E.c1 (fldD "foes") (E.var 0)))) (E.cst (.int (-1))) (E.cst (.int 0))))
  S.nop)))
def F_sign_of : List D → FO := mkF 4 3 B_sign_of
theorem fn_sign_of {P : Program} {w : World} {K : PySem.W.Frag} {mg : Str → Option Value} {base : Heap} {f : Addr} {fd : FuncData} (Fd : FunD K "sign_of" "sign_of" (defArgs s_sign_of) (defBody s_sign_of) (defScope s_sign_of) [] [] f fd) (fr_max : mg "max" = none) (fr_min : mg "min" = none) (gi_FOES : ∃ t, mg "FOES" = some (.int (-1) t)) (gi_FRIENDS : ∃ t, mg "FRIENDS" = some (.int (1) t)) (WT : WebT K mg) : FnOk P w K mg base (L2.CX P w) 1 f fd ps_sign_of (spD ⟨K, mg⟩ F_sign_of) := by
  refine def_fn (N := N_sign_of) (body := B_sign_of) Fd sc_sign_of (by decide) fun cdv A outer s H E hr => ?_
  have un := un_lt hr
  have un0 := un_lt0 hr
  exact (ds_cons (ds_set 3 sc_sign_of.nd (de_tup (da_cons (de_cb (c_min2 rfl) fr_min (by decide +kernel) (da_cons (de_var 1) (da_cons (de_var 2) da_nil))) (da_cons (de_cb (c_max2 rfl) fr_max (by decide +kernel) (da_cons (de_var 1) (da_cons (de_var 2) da_nil))) da_nil))))
  (ds_cons (ds_if (dt_cmp (op_inDD (un 65 (by decide))) (de_var 3) (de_fld WT (de_var 0))) (ds_cons (ds_ret (de_gint gi_FRIENDS.choose_spec))
  ds_nil) ds_nil)
  (ds_cons (ds_ret (de_ite (dt_cmp (op_inDD (un 65 (by decide))) (de_var 3) (de_fld WT (de_var 0))) (de_gint gi_FOES.choose_spec) de_int))
  ds_nil)))
theorem ok_sign_of {P : Program} {w : World} {K : PySem.W.Frag} {mg : Str → Option Value} {base : Heap} (Fd : FunAt K mg "sign_of" s_sign_of) (fr_max : mg "max" = none) (fr_min : mg "min" = none) (gi_FOES : ∃ t, mg "FOES" = some (.int (-1) t)) (gi_FRIENDS : ∃ t, mg "FRIENDS" = some (.int (1) t)) (WT : WebT K mg) : DefOk P w K mg base "sign_of" 1 F_sign_of := by
  obtain ⟨f, fd, hm, Fd⟩ := Fd.ex
  exact ⟨⟨f, fd, ps_sign_of, hm, Fd.kp, Fd.bindsN fun _ _ _ _ _ _ us hl => match us, hl with | [_, _, _], _ => rfl, fn_sign_of Fd fr_max fr_min gi_FOES gi_FRIENDS WT⟩⟩

abbrev s_are_tied : Stmt := top 42
abbrev N_are_tied : List Str := ["web", "one", "other"]
abbrev ps_are_tied : List Str := ["web", "one", "other"]
theorem sc_are_tied : FnScope N_are_tied ps_are_tied (defScope s_are_tied) := ⟨rfl, rfl, rfl, by decide +kernel, rfl, by decide +kernel, by decide +kernel⟩
def B_are_tied : FS := (S.seq (S.ret (E.bin neD (E.call F_sign_of (A.cons (E.var 0) (A.cons (E.var 1) (A.cons (E.var 2) A.nil)))) (E.cst (.int 0))))
  S.nop)
def F_are_tied : List D → FO := mkF 3 3 B_are_tied
theorem fn_are_tied {P : Program} {w : World} {K : PySem.W.Frag} {mg : Str → Option Value} {base : Heap} {f : Addr} {fd : FuncData} (Fd : FunD K "are_tied" "are_tied" (defArgs s_are_tied) (defBody s_are_tied) (defScope s_are_tied) [] [] f fd) (D_sign_of : DefOk P w K mg base "sign_of" 1 F_sign_of) : FnOk P w K mg base (L2.CX P w) 2 f fd ps_are_tied (spD ⟨K, mg⟩ F_are_tied) := by
  refine def_fn (N := N_are_tied) (body := B_are_tied) Fd sc_are_tied (by decide) fun cdv A outer s H E hr => ?_
  have un := un_lt hr
  have un0 := un_lt0 hr
  exact (ds_cons (ds_ret (de_cmp (op_neDD (un 64 (by decide))) (de_call D_sign_of (hr.mono (by decide)) (da_cons (de_var 0) (da_cons (de_var 1) (da_cons (de_var 2) da_nil)))) de_int))
  ds_nil)
theorem ok_are_tied {P : Program} {w : World} {K : PySem.W.Frag} {mg : Str → Option Value} {base : Heap} (Fd : FunAt K mg "are_tied" s_are_tied) (D_sign_of : DefOk P w K mg base "sign_of" 1 F_sign_of) : DefOk P w K mg base "are_tied" 2 F_are_tied := by
  obtain ⟨f, fd, hm, Fd⟩ := Fd.ex
  exact ⟨⟨f, fd, ps_are_tied, hm, Fd.kp, Fd.bindsN fun _ _ _ _ _ _ us hl => match us, hl with | [_, _, _], _ => rfl, fn_are_tied Fd D_sign_of⟩⟩

abbrev s_neighbours_of : Stmt := top 43
abbrev N_neighbours_of : List Str := ["web", "person", "other"]
abbrev ps_neighbours_of : List Str := ["web", "person"]
theorem sc_neighbours_of : FnScope N_neighbours_of ps_neighbours_of (defScope s_neighbours_of) := ⟨rfl, rfl, rfl, by decide +kernel, rfl, by decide +kernel, by decide +kernel⟩
def B_neighbours_of : FS := (S.seq (S.ret (E.fz (E.lc (I.rng1 (A.cons (E.c1 (fldD "people") (E.var 0)) A.nil)) (.nm 2) [2] (Tt.and (Tt.val (E.bin neD (E.var 2) (E.var 1))) (Tt.val (E.call F_are_tied (A.cons (E.var 0) (A.cons (E.var 1) (A.cons (E.var 2) A.nil)))))) (E.var 2))))
  S.nop)
def F_neighbours_of : List D → FO := mkF 3 2 B_neighbours_of
theorem fn_neighbours_of {P : Program} {w : World} {K : PySem.W.Frag} {mg : Str → Option Value} {base : Heap} {f : Addr} {fd : FuncData} (Fd : FunD K "neighbours_of" "neighbours_of" (defArgs s_neighbours_of) (defBody s_neighbours_of) (defScope s_neighbours_of) [] [] f fd) (D_are_tied : DefOk P w K mg base "are_tied" 2 F_are_tied) (fr_range : mg "range" = none) (WT : WebT K mg) : FnOk P w K mg base (L2.CX P w) 3 f fd ps_neighbours_of (spD ⟨K, mg⟩ F_neighbours_of) := by
  refine def_fn (N := N_neighbours_of) (body := B_neighbours_of) Fd sc_neighbours_of (by decide) fun cdv A outer s H E hr => ?_
  have un := un_lt hr
  have un0 := un_lt0 hr
  exact (ds_cons (ds_ret (df_lc (own := [("other", 2)]) rfl sc_neighbours_of.nd (di_rng1 fr_range (da_cons (de_fld WT (de_var 0)) da_nil)) (show BlkOk N_neighbours_of (defScope s_neighbours_of) _ _ from blkOk_by (by decide +kernel)) (by decide) (fun s H C cl fp => (dg_nm 2 sc_neighbours_of.nd)) (fun s H C cl fp => (dts_one (dw_and (dt_cmp (op_neDD (un 64 (by decide))) (de_var 2) (de_var 1)) (dw_and1 (dt_val (de_call D_are_tied (hr.mono (by decide)) (da_cons (de_var 0) (da_cons (de_var 1) (da_cons (de_var 2) da_nil))))))).dt)) (fun s H C cl fp => (de_var 2))).de)
  ds_nil)
theorem ok_neighbours_of {P : Program} {w : World} {K : PySem.W.Frag} {mg : Str → Option Value} {base : Heap} (Fd : FunAt K mg "neighbours_of" s_neighbours_of) (D_are_tied : DefOk P w K mg base "are_tied" 2 F_are_tied) (fr_range : mg "range" = none) (WT : WebT K mg) : DefOk P w K mg base "neighbours_of" 3 F_neighbours_of := by
  obtain ⟨f, fd, hm, Fd⟩ := Fd.ex
  exact ⟨⟨f, fd, ps_neighbours_of, hm, Fd.kp, Fd.bindsN fun _ _ _ _ _ _ us hl => match us, hl with | [_, _], _ => rfl, fn_neighbours_of Fd D_are_tied fr_range WT⟩⟩

abbrev s_signs_of : Stmt := top 44
abbrev N_signs_of : List Str := ["web", "pair"]
abbrev ps_signs_of : List Str := ["web"]
theorem sc_signs_of : FnScope N_signs_of ps_signs_of (defScope s_signs_of) := ⟨rfl, rfl, rfl, by decide +kernel, rfl, by decide +kernel, by decide +kernel⟩
def B_signs_of : FS := (S.seq (S.ret (E.fz (E.mrg2 (E.fz (E.dc (I.seq (E.c1 (fldD "friends") (E.var 0))) (.nm 1) [1] Tt.yes (E.var 1) (E.cst (.int (1))))) (E.fz (E.dc (I.seq (E.c1 (fldD "foes") (E.var 0))) (.nm 1) [1] Tt.yes (E.var 1) (E.cst (.int (-1))))))))
  S.nop)
def F_signs_of : List D → FO := mkF 2 1 B_signs_of
theorem fn_signs_of {P : Program} {w : World} {K : PySem.W.Frag} {mg : Str → Option Value} {base : Heap} {f : Addr} {fd : FuncData} (Fd : FunD K "signs_of" "signs_of" (defArgs s_signs_of) (defBody s_signs_of) (defScope s_signs_of) [] [] f fd) (gi_FOES : ∃ t, mg "FOES" = some (.int (-1) t)) (gi_FRIENDS : ∃ t, mg "FRIENDS" = some (.int (1) t)) (WT : WebT K mg) : FnOk P w K mg base (L2.CX P w) 1 f fd ps_signs_of (spD ⟨K, mg⟩ F_signs_of) := by
  refine def_fn (N := N_signs_of) (body := B_signs_of) Fd sc_signs_of (by decide) fun cdv A outer s H E hr => ?_
  have un := un_lt hr
  have un0 := un_lt0 hr
  exact (ds_cons (ds_ret (df_mrg2 un0 (df_dc un0 (own := [("pair", 1)]) rfl sc_signs_of.nd (di_seq (de_fld WT (de_var 0))) (show BlkOk N_signs_of (defScope s_signs_of) _ _ from blkOk_by (by decide +kernel)) (by decide) (fun s H C cl fp => (dg_nm 1 sc_signs_of.nd)) (fun s H C cl fp => dts_nil) (fun s H C cl fp => (de_var 1)) (fun s H C cl fp => (de_gint gi_FRIENDS.choose_spec))).de (df_dc un0 (own := [("pair", 1)]) rfl sc_signs_of.nd (di_seq (de_fld WT (de_var 0))) (show BlkOk N_signs_of (defScope s_signs_of) _ _ from blkOk_by (by decide +kernel)) (by decide) (fun s H C cl fp => (dg_nm 1 sc_signs_of.nd)) (fun s H C cl fp => dts_nil) (fun s H C cl fp => (de_var 1)) (fun s H C cl fp => (de_gint gi_FOES.choose_spec))).de).de)
  ds_nil)
theorem ok_signs_of {P : Program} {w : World} {K : PySem.W.Frag} {mg : Str → Option Value} {base : Heap} (Fd : FunAt K mg "signs_of" s_signs_of) (gi_FOES : ∃ t, mg "FOES" = some (.int (-1) t)) (gi_FRIENDS : ∃ t, mg "FRIENDS" = some (.int (1) t)) (WT : WebT K mg) : DefOk P w K mg base "signs_of" 1 F_signs_of := by
  obtain ⟨f, fd, hm, Fd⟩ := Fd.ex
  exact ⟨⟨f, fd, ps_signs_of, hm, Fd.kp, Fd.bindsN fun _ _ _ _ _ _ us hl => match us, hl with | [_], _ => rfl, fn_signs_of Fd gi_FOES gi_FRIENDS WT⟩⟩

abbrev s_made_of : Stmt := top 45
abbrev N_made_of : List Str := ["people", "signs", "friends", "pair", "sign"]
abbrev ps_made_of : List Str := ["people", "signs"]
theorem sc_made_of : FnScope N_made_of ps_made_of (defScope s_made_of) := ⟨rfl, rfl, rfl, by decide +kernel, rfl, by decide +kernel, by decide +kernel⟩
def B_made_of : FS := (S.seq (S.set 2 (E.c1 tupD (E.fz (E.srt (E.fz (E.lc (I.itemsT (E.var 1)) (.tp [(.nm 3), (.nm 4)]) [3, 4] (Tt.val (E.bin eqD (E.var 4) (E.cst (.int (1))))) (E.var 3)))))))
  (S.seq (S.ret (E.web F_Web___init__ (· ++ []) (A.cons (E.var 0) (A.cons (E.var 2) (A.cons (E.c1 tupD (E.fz (E.srt (E.fz (E.lc (I.itemsT (E.var 1)) (.tp [(.nm 3), (.nm 4)]) [3, 4] (Tt.val (E.bin eqD (E.var 4) (E.cst (.int (-1))))) (E.var 3)))))) A.nil)))))
  S.nop))
def F_made_of : FM := mkM 5 2 B_made_of
theorem fn_made_of {P : Program} {w : World} {K : PySem.W.Frag} {mg : Str → Option Value} {base : Heap} {f : Addr} {fd : FuncData} (Fd : FunD K "made_of" "made_of" (defArgs s_made_of) (defBody s_made_of) (defScope s_made_of) [] [] f fd) (fr_tuple : mg "tuple" = none) (fr_sorted : mg "sorted" = none) (gi_FOES : ∃ t, mg "FOES" = some (.int (-1) t)) (gi_FRIENDS : ∃ t, mg "FRIENDS" = some (.int (1) t)) (nw_Web3 : NewD P w K mg base "Web" 9 [] F_Web___init__) : FnOk P w K mg base (L2.CX P w) 11 f fd ps_made_of (spM ⟨K, mg⟩ F_made_of) := by
  refine def_fnM (N := N_made_of) (body := B_made_of) Fd sc_made_of (by decide) fun cdv A outer s H E hr => ?_
  have un := un_lt hr
  have un0 := un_lt0 hr
  exact (ds_cons (ds_set 2 sc_made_of.nd (de_t1 c_tup fr_tuple (by decide +kernel) (df_srt (un 2 (by decide)) fr_sorted (df_lc (own := [("pair", 3), ("sign", 4)]) rfl sc_made_of.nd (di_itemsT (de_var 1)) (show BlkOk N_made_of (defScope s_made_of) _ _ from blkOk_by (by decide +kernel)) (by decide) (fun s H C cl fp => (dg_tp rfl (dgs_cons (dg_nm 3 sc_made_of.nd) (dgs_cons (dg_nm 4 sc_made_of.nd) dgs_nil)))) (fun s H C cl fp => (dts_one (dt_cmp (op_eqDD (un 64 (by decide))) (de_var 4) (de_gint gi_FRIENDS.choose_spec)))) (fun s H C cl fp => (de_var 3))).de).de))
  (ds_cons (ds_ret (de_webD nw_Web3 (hr.mono (by decide)) (da_cons (de_var 0) (da_cons (de_var 2) (da_cons (de_t1 c_tup fr_tuple (by decide +kernel) (df_srt (un 2 (by decide)) fr_sorted (df_lc (own := [("pair", 3), ("sign", 4)]) rfl sc_made_of.nd (di_itemsT (de_var 1)) (show BlkOk N_made_of (defScope s_made_of) _ _ from blkOk_by (by decide +kernel)) (by decide) (fun s H C cl fp => (dg_tp rfl (dgs_cons (dg_nm 3 sc_made_of.nd) (dgs_cons (dg_nm 4 sc_made_of.nd) dgs_nil)))) (fun s H C cl fp => (dts_one (dt_cmp (op_eqDD (un 64 (by decide))) (de_var 4) (de_gint gi_FOES.choose_spec)))) (fun s H C cl fp => (de_var 3))).de).de) da_nil)))))
  ds_nil))
theorem ok_made_of {P : Program} {w : World} {K : PySem.W.Frag} {mg : Str → Option Value} {base : Heap} (Fd : FunAt K mg "made_of" s_made_of) (fr_tuple : mg "tuple" = none) (fr_sorted : mg "sorted" = none) (gi_FOES : ∃ t, mg "FOES" = some (.int (-1) t)) (gi_FRIENDS : ∃ t, mg "FRIENDS" = some (.int (1) t)) (nw_Web3 : NewD P w K mg base "Web" 9 [] F_Web___init__) : DefOkM P w K mg base "made_of" 11 F_made_of := by
  obtain ⟨f, fd, hm, Fd⟩ := Fd.ex
  exact ⟨⟨f, fd, ps_made_of, hm, Fd.kp, Fd.bindsN fun _ _ _ _ _ _ us hl => match us, hl with | [_, _], _ => rfl, fn_made_of Fd fr_tuple fr_sorted gi_FOES gi_FRIENDS nw_Web3⟩⟩

abbrev s_switched_by : Stmt := top 46
abbrev N_switched_by : List Str := ["web", "lot", "told", "pair", "sign"]
abbrev ps_switched_by : List Str := ["web", "lot"]
theorem sc_switched_by : FnScope N_switched_by ps_switched_by (defScope s_switched_by) := ⟨rfl, rfl, rfl, by decide +kernel, rfl, by decide +kernel, by decide +kernel⟩
def B_switched_by : FS := (S.seq (S.own 2 E.dnT)
  (S.seq (S.for_ (I.itemsT (E.call F_signs_of (A.cons (E.var 0) A.nil))) (.tp [(.nm 3), (.nm 4)]) (S.seq (S.put 2 (E.var 3) (E.ite (Tt.val (E.bin neD (E.bin inD (E.bin ixD (E.var 3) (E.cst (.int 0))) (E.var 1)) (E.bin inD (E.bin ixD (E.var 3) (E.cst (.int 1))) (E.var 1)))) (E.c1 negD (E.var 4)) (E.var 4)))
  S.nop))
  (S.seq (S.ret (E.callM F_made_of (A.cons (E.c1 (fldD "people") (E.var 0)) (A.cons (E.var 2) A.nil))))
  S.nop)))
def F_switched_by : FM := mkM 5 2 B_switched_by
theorem fn_switched_by {P : Program} {w : World} {K : PySem.W.Frag} {mg : Str → Option Value} {base : Heap} {f : Addr} {fd : FuncData} (Fd : FunD K "switched_by" "switched_by" (defArgs s_switched_by) (defBody s_switched_by) (defScope s_switched_by) [] [] f fd) (D_signs_of : DefOk P w K mg base "signs_of" 1 F_signs_of) (D_made_of : DefOkM P w K mg base "made_of" 11 F_made_of) (WT : WebT K mg) : FnOk P w K mg base (L2.CX P w) 12 f fd ps_switched_by (spM ⟨K, mg⟩ F_switched_by) := by
  refine def_fnM (N := N_switched_by) (body := B_switched_by) Fd sc_switched_by (by decide) fun cdv A outer s H E hr => ?_
  have un := un_lt hr
  have un0 := un_lt0 hr
  exact (ds_cons (ds_own 2 sc_switched_by.nd (df_dnT))
  (ds_cons (ds_for rfl (di_itemsT (de_call D_signs_of (hr.mono (by decide)) (da_cons (de_var 0) da_nil))) (dg_tp rfl (dgs_cons (dg_nm 3 sc_switched_by.nd) (dgs_cons (dg_nm 4 sc_switched_by.nd) dgs_nil))) (ds_cons (ds_put 2 (un 1 (by decide)) (de_var 3) (de_ite (dt_cmp (op_neDD (un 64 (by decide))) (de_cmp (op_inDD (un 65 (by decide))) (de_ix (un 1 (by decide)) (de_var 3) de_int) (de_var 1)) (de_cmp (op_inDD (un 65 (by decide))) (de_ix (un 1 (by decide)) (de_var 3) de_int) (de_var 1))) (de_un u_neg (de_var 4)) (de_var 4)))
  ds_nil))
  (ds_cons (ds_ret (de_callM D_made_of (hr.mono (by decide)) (da_cons (de_fld WT (de_var 0)) (da_cons (de_var 2) da_nil))))
  ds_nil)))
theorem ok_switched_by {P : Program} {w : World} {K : PySem.W.Frag} {mg : Str → Option Value} {base : Heap} (Fd : FunAt K mg "switched_by" s_switched_by) (D_signs_of : DefOk P w K mg base "signs_of" 1 F_signs_of) (D_made_of : DefOkM P w K mg base "made_of" 11 F_made_of) (WT : WebT K mg) : DefOkM P w K mg base "switched_by" 12 F_switched_by := by
  obtain ⟨f, fd, hm, Fd⟩ := Fd.ex
  exact ⟨⟨f, fd, ps_switched_by, hm, Fd.kp, Fd.bindsN fun _ _ _ _ _ _ us hl => match us, hl with | [_, _], _ => rfl, fn_switched_by Fd D_signs_of D_made_of WT⟩⟩

abbrev s_part_of : Stmt := top 47
abbrev N_part_of : List Str := ["web", "person", "line", "at", "other"]
abbrev ps_part_of : List Str := ["web", "person"]
theorem sc_part_of : FnScope N_part_of ps_part_of (defScope s_part_of) := ⟨rfl, rfl, rfl, by decide +kernel, rfl, by decide +kernel, by decide +kernel⟩
def B_part_of : FS := (S.seq (S.asg (.tp [(.nm 2), (.nm 3)]) (E.tup (A.cons (E.fz (E.lst (A.cons (E.var 1) A.nil))) (A.cons (E.cst (.int 0)) A.nil))))
  (S.seq (S.whl 9 (Tt.val (E.bin ltD (E.var 3) (E.c1 lenD (E.var 2)))) (S.seq (S.asg (.tp [(.nm 2), (.nm 3)]) (E.tup (A.cons (E.bin addD (E.var 2) (E.fz (E.lc (I.seq (E.call F_neighbours_of (A.cons (E.var 0) (A.cons (E.bin ixD (E.var 2) (E.var 3)) A.nil)))) (.nm 4) [4] (Tt.val (E.bin ninD (E.var 4) (E.var 2))) (E.var 4)))) (A.cons (E.bin addD (E.var 3) (E.cst (.int 1))) A.nil))))
  S.nop))
  (S.seq (S.ret (E.c1 tupD (E.fz (E.srt (E.var 2)))))
  S.nop)))
def F_part_of : List D → FO := mkF 5 2 B_part_of
theorem fn_part_of {P : Program} {w : World} {K : PySem.W.Frag} {mg : Str → Option Value} {base : Heap} {f : Addr} {fd : FuncData} (Fd : FunD K "part_of" "part_of" (defArgs s_part_of) (defBody s_part_of) (defScope s_part_of) [] [] f fd) (D_neighbours_of : DefOk P w K mg base "neighbours_of" 3 F_neighbours_of) (fr_len : mg "len" = none) (fr_tuple : mg "tuple" = none) (fr_sorted : mg "sorted" = none) : FnOk P w K mg base (L2.CX P w) 4 f fd ps_part_of (spD ⟨K, mg⟩ F_part_of) := by
  refine def_fn (N := N_part_of) (body := B_part_of) Fd sc_part_of (by decide) fun cdv A outer s H E hr => ?_
  have un := un_lt hr
  have un0 := un_lt0 hr
  exact (ds_cons (ds_asg (de_tup (da_cons (df_lst (da_cons (de_var 1) da_nil)).de (da_cons de_int da_nil))) (dg_tp rfl (dgs_cons (dg_nm 2 sc_part_of.nd) (dgs_cons (dg_nm 3 sc_part_of.nd) dgs_nil))))
  (ds_cons (ds_whl 9 (dt_cmp (op_ltD un0) (de_var 3) (de_b1 c_len fr_len (by decide +kernel) (de_var 2))) (ds_cons (ds_asg (de_tup (da_cons (de_bin op_addD (de_var 2) (df_lc (own := [("other", 4)]) rfl sc_part_of.nd (di_seq (de_call D_neighbours_of (hr.mono (by decide)) (da_cons (de_var 0) (da_cons (de_ix (un 1 (by decide)) (de_var 2) (de_var 3)) da_nil)))) (show BlkOk N_part_of (defScope s_part_of) _ _ from blkOk_by (by decide +kernel)) (by decide) (fun s H C cl fp => (dg_nm 4 sc_part_of.nd)) (fun s H C cl fp => (dts_one (dt_cmp (op_ninDD (un 65 (by decide))) (de_var 4) (de_var 2)))) (fun s H C cl fp => (de_var 4))).de) (da_cons (de_bin op_addD (de_var 3) de_int) da_nil))) (dg_tp rfl (dgs_cons (dg_nm 2 sc_part_of.nd) (dgs_cons (dg_nm 3 sc_part_of.nd) dgs_nil))))
  ds_nil))
  (ds_cons (ds_ret (de_t1 c_tup fr_tuple (by decide +kernel) (df_srt (un 2 (by decide)) fr_sorted (de_var 2)).de))
  ds_nil)))
theorem ok_part_of {P : Program} {w : World} {K : PySem.W.Frag} {mg : Str → Option Value} {base : Heap} (Fd : FunAt K mg "part_of" s_part_of) (D_neighbours_of : DefOk P w K mg base "neighbours_of" 3 F_neighbours_of) (fr_len : mg "len" = none) (fr_tuple : mg "tuple" = none) (fr_sorted : mg "sorted" = none) : DefOk P w K mg base "part_of" 4 F_part_of := by
  obtain ⟨f, fd, hm, Fd⟩ := Fd.ex
  exact ⟨⟨f, fd, ps_part_of, hm, Fd.kp, Fd.bindsN fun _ _ _ _ _ _ us hl => match us, hl with | [_, _], _ => rfl, fn_part_of Fd D_neighbours_of fr_len fr_tuple fr_sorted⟩⟩

abbrev s_parts_by : Stmt := top 48
abbrev N_parts_by : List Str := ["web", "person"]
abbrev ps_parts_by : List Str := ["web"]
theorem sc_parts_by : FnScope N_parts_by ps_parts_by (defScope s_parts_by) := ⟨rfl, rfl, rfl, by decide +kernel, rfl, by decide +kernel, by decide +kernel⟩
def B_parts_by : FS := (S.seq (S.ret (E.c1 tupD (E.fz (E.srtS (E.fz (E.lc (I.rng1 (A.cons (E.c1 (fldD "people") (E.var 0)) A.nil)) (.nm 1) [1] Tt.yes (E.call F_part_of (A.cons (E.var 0) (A.cons (E.var 1) A.nil)))))))))
  S.nop)
def F_parts_by : List D → FO := mkF 2 1 B_parts_by
theorem fn_parts_by {P : Program} {w : World} {K : PySem.W.Frag} {mg : Str → Option Value} {base : Heap} {f : Addr} {fd : FuncData} (Fd : FunD K "parts_by" "parts_by" (defArgs s_parts_by) (defBody s_parts_by) (defScope s_parts_by) [] [] f fd) (D_part_of : DefOk P w K mg base "part_of" 4 F_part_of) (fr_tuple : mg "tuple" = none) (fr_sorted : mg "sorted" = none) (fr_set : mg "set" = none) (fr_range : mg "range" = none) (WT : WebT K mg) : FnOk P w K mg base (L2.CX P w) 5 f fd ps_parts_by (spD ⟨K, mg⟩ F_parts_by) := by
  refine def_fn (N := N_parts_by) (body := B_parts_by) Fd sc_parts_by (by decide) fun cdv A outer s H E hr => ?_
  have un := un_lt hr
  have un0 := un_lt0 hr
  exact (ds_cons (ds_ret (de_t1 c_tup fr_tuple (by decide +kernel) (df_srtS rfl (un 64 (by decide)) fr_sorted fr_set (df_lc (own := [("person", 1)]) rfl sc_parts_by.nd (di_rng1 fr_range (da_cons (de_fld WT (de_var 0)) da_nil)) (show BlkOk N_parts_by (defScope s_parts_by) _ _ from blkOk_by (by decide +kernel)) (by decide) (fun s H C cl fp => (dg_nm 1 sc_parts_by.nd)) (fun s H C cl fp => dts_nil) (fun s H C cl fp => (de_call D_part_of (hr.mono (by decide)) (da_cons (de_var 0) (da_cons (de_var 1) da_nil))))).de).de))
  ds_nil)
theorem ok_parts_by {P : Program} {w : World} {K : PySem.W.Frag} {mg : Str → Option Value} {base : Heap} (Fd : FunAt K mg "parts_by" s_parts_by) (D_part_of : DefOk P w K mg base "part_of" 4 F_part_of) (fr_tuple : mg "tuple" = none) (fr_sorted : mg "sorted" = none) (fr_set : mg "set" = none) (fr_range : mg "range" = none) (WT : WebT K mg) : DefOk P w K mg base "parts_by" 5 F_parts_by := by
  obtain ⟨f, fd, hm, Fd⟩ := Fd.ex
  exact ⟨⟨f, fd, ps_parts_by, hm, Fd.kp, Fd.bindsN fun _ _ _ _ _ _ us hl => match us, hl with | [_], _ => rfl, fn_parts_by Fd D_part_of fr_tuple fr_sorted fr_set fr_range WT⟩⟩

abbrev s_is_camp_by : Stmt := top 49
abbrev N_is_camp_by : List Str := ["web", "lot", "one", "other", "sign"]
abbrev ps_is_camp_by : List Str := ["web", "lot"]
theorem sc_is_camp_by : FnScope N_is_camp_by ps_is_camp_by (defScope s_is_camp_by) := ⟨rfl, rfl, rfl, by decide +kernel, rfl, by decide +kernel, by decide +kernel⟩
def B_is_camp_by : FS := (S.seq (S.for_ (I.itemsT (E.call F_signs_of (A.cons (E.var 0) A.nil))) (.tp [(.tp [(.nm 2), (.nm 3)]), (.nm 4)]) (S.seq (S.ifs (Tt.val (E.bin neD (E.bin eqD (E.bin inD (E.var 2) (E.var 1)) (E.bin inD (E.var 3) (E.var 1))) (E.bin eqD (E.var 4) (E.cst (.int (1)))))) (S.seq (S.ret (E.cst (.bl false)))
  S.nop) S.nop)
  S.nop))
  (S.seq (S.ret (E.cst (.bl true)))
  S.nop))
def F_is_camp_by : List D → FO := mkF 5 2 B_is_camp_by
theorem fn_is_camp_by {P : Program} {w : World} {K : PySem.W.Frag} {mg : Str → Option Value} {base : Heap} {f : Addr} {fd : FuncData} (Fd : FunD K "is_camp_by" "is_camp_by" (defArgs s_is_camp_by) (defBody s_is_camp_by) (defScope s_is_camp_by) [] [] f fd) (D_signs_of : DefOk P w K mg base "signs_of" 1 F_signs_of) (gi_FRIENDS : ∃ t, mg "FRIENDS" = some (.int (1) t)) : FnOk P w K mg base (L2.CX P w) 2 f fd ps_is_camp_by (spD ⟨K, mg⟩ F_is_camp_by) := by
  refine def_fn (N := N_is_camp_by) (body := B_is_camp_by) Fd sc_is_camp_by (by decide) fun cdv A outer s H E hr => ?_
  have un := un_lt hr
  have un0 := un_lt0 hr
  exact (ds_cons (ds_for rfl (di_itemsT (de_call D_signs_of (hr.mono (by decide)) (da_cons (de_var 0) da_nil))) (dg_tp rfl (dgs_cons (dg_tp rfl (dgs_cons (dg_nm 2 sc_is_camp_by.nd) (dgs_cons (dg_nm 3 sc_is_camp_by.nd) dgs_nil))) (dgs_cons (dg_nm 4 sc_is_camp_by.nd) dgs_nil))) (ds_cons (ds_if (dt_cmp (op_neDD (un 64 (by decide))) (de_cmp (op_eqDD (un 64 (by decide))) (de_cmp (op_inDD (un 65 (by decide))) (de_var 2) (de_var 1)) (de_cmp (op_inDD (un 65 (by decide))) (de_var 3) (de_var 1))) (de_cmp (op_eqDD (un 64 (by decide))) (de_var 4) (de_gint gi_FRIENDS.choose_spec))) (ds_cons (ds_ret de_bl)
  ds_nil) ds_nil)
  ds_nil))
  (ds_cons (ds_ret de_bl)
  ds_nil))
theorem ok_is_camp_by {P : Program} {w : World} {K : PySem.W.Frag} {mg : Str → Option Value} {base : Heap} (Fd : FunAt K mg "is_camp_by" s_is_camp_by) (D_signs_of : DefOk P w K mg base "signs_of" 1 F_signs_of) (gi_FRIENDS : ∃ t, mg "FRIENDS" = some (.int (1) t)) : DefOk P w K mg base "is_camp_by" 2 F_is_camp_by := by
  obtain ⟨f, fd, hm, Fd⟩ := Fd.ex
  exact ⟨⟨f, fd, ps_is_camp_by, hm, Fd.kp, Fd.bindsN fun _ _ _ _ _ _ us hl => match us, hl with | [_, _], _ => rfl, fn_is_camp_by Fd D_signs_of gi_FRIENDS⟩⟩

abbrev s_camp_by : Stmt := top 50
abbrev N_camp_by : List Str := ["web", "found", "lot"]
abbrev ps_camp_by : List Str := ["web"]
theorem sc_camp_by : FnScope N_camp_by ps_camp_by (defScope s_camp_by) := ⟨rfl, rfl, rfl, by decide +kernel, rfl, by decide +kernel, by decide +kernel⟩
def B_camp_by : FS := (S.seq (S.set 1 (E.fz (E.lc (I.seq (E.call F_all_lots (A.cons (E.var 0) A.nil))) (.nm 2) [2] (Tt.and (Tt.val (E.bin ninD (E.cst (.int 0)) (E.var 2))) (Tt.val (E.call F_is_camp_by (A.cons (E.var 0) (A.cons (E.var 2) A.nil))))) (E.var 2))))
  (S.seq (S.ret (E.ite (Tt.val (E.bin neD (E.var 1) (E.fz (E.lst A.nil)))) (E.bin ixD (E.var 1) (E.cst (.int 0))) (E.cst .non)))
  S.nop))
def F_camp_by : List D → FO := mkF 3 1 B_camp_by
theorem fn_camp_by {P : Program} {w : World} {K : PySem.W.Frag} {mg : Str → Option Value} {base : Heap} {f : Addr} {fd : FuncData} (Fd : FunD K "camp_by" "camp_by" (defArgs s_camp_by) (defBody s_camp_by) (defScope s_camp_by) [] [] f fd) (D_all_lots : DefOk P w K mg base "all_lots" 1 F_all_lots) (D_is_camp_by : DefOk P w K mg base "is_camp_by" 2 F_is_camp_by) : FnOk P w K mg base (L2.CX P w) 3 f fd ps_camp_by (spD ⟨K, mg⟩ F_camp_by) := by
  refine def_fn (N := N_camp_by) (body := B_camp_by) Fd sc_camp_by (by decide) fun cdv A outer s H E hr => ?_
  have un := un_lt hr
  have un0 := un_lt0 hr
  exact (ds_cons (ds_setLc (own := [("lot", 2)]) 1 rfl sc_camp_by.nd (di_seq (de_call D_all_lots (hr.mono (by decide)) (da_cons (de_var 0) da_nil))) (show BlkOk N_camp_by (defScope s_camp_by) _ _ from blkOk_by (by decide +kernel)) (by decide) (fun s H C cl fp => (dg_nm 2 sc_camp_by.nd)) (fun s H C cl fp => (dts_one (dw_and (dt_cmp (op_ninDD (un 65 (by decide))) de_int (de_var 2)) (dw_and1 (dt_val (de_call D_is_camp_by (hr.mono (by decide)) (da_cons (de_var 0) (da_cons (de_var 2) da_nil)))))).dt)) (fun s H C cl fp => (de_var 2)))
  (ds_cons (ds_ret (de_ite (dt_cmp (op_neDD (un 64 (by decide))) (de_var 1) (df_lst da_nil).de) (de_ix (un 1 (by decide)) (de_var 1) de_int) de_non))
  ds_nil))
theorem ok_camp_by {P : Program} {w : World} {K : PySem.W.Frag} {mg : Str → Option Value} {base : Heap} (Fd : FunAt K mg "camp_by" s_camp_by) (D_all_lots : DefOk P w K mg base "all_lots" 1 F_all_lots) (D_is_camp_by : DefOk P w K mg base "is_camp_by" 2 F_is_camp_by) : DefOk P w K mg base "camp_by" 3 F_camp_by := by
  obtain ⟨f, fd, hm, Fd⟩ := Fd.ex
  exact ⟨⟨f, fd, ps_camp_by, hm, Fd.kp, Fd.bindsN fun _ _ _ _ _ _ us hl => match us, hl with | [_], _ => rfl, fn_camp_by Fd D_all_lots D_is_camp_by⟩⟩

abbrev s_are_in_camps_by : Stmt := top 51
abbrev N_are_in_camps_by : List Str := ["web"]
abbrev ps_are_in_camps_by : List Str := ["web"]
theorem sc_are_in_camps_by : FnScope N_are_in_camps_by ps_are_in_camps_by (defScope s_are_in_camps_by) := ⟨rfl, rfl, rfl, by decide +kernel, rfl, by decide +kernel, by decide +kernel⟩
def B_are_in_camps_by : FS := (S.seq (S.ret (E.bin ntND (E.call F_camp_by (A.cons (E.var 0) A.nil)) (E.cst .non)))
  S.nop)
def F_are_in_camps_by : List D → FO := mkF 1 1 B_are_in_camps_by
theorem fn_are_in_camps_by {P : Program} {w : World} {K : PySem.W.Frag} {mg : Str → Option Value} {base : Heap} {f : Addr} {fd : FuncData} (Fd : FunD K "are_in_camps_by" "are_in_camps_by" (defArgs s_are_in_camps_by) (defBody s_are_in_camps_by) (defScope s_are_in_camps_by) [] [] f fd) (D_camp_by : DefOk P w K mg base "camp_by" 3 F_camp_by) : FnOk P w K mg base (L2.CX P w) 4 f fd ps_are_in_camps_by (spD ⟨K, mg⟩ F_are_in_camps_by) := by
  refine def_fn (N := N_are_in_camps_by) (body := B_are_in_camps_by) Fd sc_are_in_camps_by (by decide) fun cdv A outer s H E hr => ?_
  have un := un_lt hr
  have un0 := un_lt0 hr
  exact (ds_cons (ds_ret (de_cmp op_ntND (de_call D_camp_by (hr.mono (by decide)) (da_cons (de_var 0) da_nil)) de_non))
  ds_nil)
theorem ok_are_in_camps_by {P : Program} {w : World} {K : PySem.W.Frag} {mg : Str → Option Value} {base : Heap} (Fd : FunAt K mg "are_in_camps_by" s_are_in_camps_by) (D_camp_by : DefOk P w K mg base "camp_by" 3 F_camp_by) : DefOk P w K mg base "are_in_camps_by" 4 F_are_in_camps_by := by
  obtain ⟨f, fd, hm, Fd⟩ := Fd.ex
  exact ⟨⟨f, fd, ps_are_in_camps_by, hm, Fd.kp, Fd.bindsN fun _ _ _ _ _ _ us hl => match us, hl with | [_], _ => rfl, fn_are_in_camps_by Fd D_camp_by⟩⟩

abbrev s_count_camps_by : Stmt := top 52
abbrev N_count_camps_by : List Str := ["web", "found", "part"]
abbrev ps_count_camps_by : List Str := ["web"]
theorem sc_count_camps_by : FnScope N_count_camps_by ps_count_camps_by (defScope s_count_camps_by) := ⟨rfl, rfl, rfl, by decide +kernel, rfl, by decide +kernel, by decide +kernel⟩
def B_count_camps_by : FS := (S.seq (S.set 1 (E.ite (Tt.val (E.call F_are_in_camps_by (A.cons (E.var 0) A.nil))) (E.cst (.int 1)) (E.cst (.int 0))))
  (S.seq (S.for_ (I.seq (E.call F_parts_by (A.cons (E.var 0) A.nil))) (.nm 2) (S.seq (S.set 1 (E.bin mulD (E.var 1) (E.cst (.int 2))))
  S.nop))
  (S.seq (S.ret (E.var 1))
  S.nop)))
def F_count_camps_by : List D → FO := mkF 3 1 B_count_camps_by
theorem fn_count_camps_by {P : Program} {w : World} {K : PySem.W.Frag} {mg : Str → Option Value} {base : Heap} {f : Addr} {fd : FuncData} (Fd : FunD K "count_camps_by" "count_camps_by" (defArgs s_count_camps_by) (defBody s_count_camps_by) (defScope s_count_camps_by) [] [] f fd) (D_are_in_camps_by : DefOk P w K mg base "are_in_camps_by" 4 F_are_in_camps_by) (D_parts_by : DefOk P w K mg base "parts_by" 5 F_parts_by) : FnOk P w K mg base (L2.CX P w) 6 f fd ps_count_camps_by (spD ⟨K, mg⟩ F_count_camps_by) := by
  refine def_fn (N := N_count_camps_by) (body := B_count_camps_by) Fd sc_count_camps_by (by decide) fun cdv A outer s H E hr => ?_
  have un := un_lt hr
  have un0 := un_lt0 hr
  exact (ds_cons (ds_set 1 sc_count_camps_by.nd (de_ite (dt_val (de_call D_are_in_camps_by (hr.mono (by decide)) (da_cons (de_var 0) da_nil))) de_int de_int))
  (ds_cons (ds_for rfl (di_seq (de_call D_parts_by (hr.mono (by decide)) (da_cons (de_var 0) da_nil))) (dg_nm 2 sc_count_camps_by.nd) (ds_cons (ds_set 1 sc_count_camps_by.nd (de_bin op_mulD (de_var 1) de_int))
  ds_nil))
  (ds_cons (ds_ret (de_var 1))
  ds_nil)))
theorem ok_count_camps_by {P : Program} {w : World} {K : PySem.W.Frag} {mg : Str → Option Value} {base : Heap} (Fd : FunAt K mg "count_camps_by" s_count_camps_by) (D_are_in_camps_by : DefOk P w K mg base "are_in_camps_by" 4 F_are_in_camps_by) (D_parts_by : DefOk P w K mg base "parts_by" 5 F_parts_by) : DefOk P w K mg base "count_camps_by" 6 F_count_camps_by := by
  obtain ⟨f, fd, hm, Fd⟩ := Fd.ex
  exact ⟨⟨f, fd, ps_count_camps_by, hm, Fd.kp, Fd.bindsN fun _ _ _ _ _ _ us hl => match us, hl with | [_], _ => rfl, fn_count_camps_by Fd D_are_in_camps_by D_parts_by⟩⟩

abbrev s_heart_by : Stmt := top 57
abbrev N_heart_by : List Str := ["web", "one", "other", "camp"]
abbrev ps_heart_by : List Str := ["web", "one", "other"]
theorem sc_heart_by : FnScope N_heart_by ps_heart_by (defScope s_heart_by) := ⟨rfl, rfl, rfl, by decide +kernel, rfl, by decide +kernel, by decide +kernel⟩
def B_heart_by : FS := (S.seq (S.ifs (Tt.val (E.bin ninD (E.var 2) (E.call F_part_of (A.cons (E.var 0) (A.cons (E.var 1) A.nil))))) (S.seq (S.ret (E.cst (.str "open")))
  S.nop) S.nop)
  (S.seq (S.set 3 (E.call F_camp_by (A.cons (E.var 0) A.nil)))
  (S.seq (S.ret (E.ite (Tt.val (E.bin eqD (E.bin inD (E.var 1) (E.var 3)) (E.bin inD (E.var 2) (E.var 3)))) (E.cst (.str "friends")) (E.cst (.str "foes"))))
  S.nop)))
def F_heart_by : List D → FO := mkF 4 3 B_heart_by
theorem fn_heart_by {P : Program} {w : World} {K : PySem.W.Frag} {mg : Str → Option Value} {base : Heap} {f : Addr} {fd : FuncData} (Fd : FunD K "heart_by" "heart_by" (defArgs s_heart_by) (defBody s_heart_by) (defScope s_heart_by) [] [] f fd) (D_part_of : DefOk P w K mg base "part_of" 4 F_part_of) (D_camp_by : DefOk P w K mg base "camp_by" 3 F_camp_by) (gs_OPEN : ∃ t, mg "OPEN" = some (.str "open" t)) (gs_WITH_FOES : ∃ t, mg "WITH_FOES" = some (.str "foes" t)) (gs_WITH_FRIENDS : ∃ t, mg "WITH_FRIENDS" = some (.str "friends" t)) : FnOk P w K mg base (L2.CX P w) 5 f fd ps_heart_by (spD ⟨K, mg⟩ F_heart_by) := by
  refine def_fn (N := N_heart_by) (body := B_heart_by) Fd sc_heart_by (by decide) fun cdv A outer s H E hr => ?_
  have un := un_lt hr
  have un0 := un_lt0 hr
  exact (ds_cons (ds_if (dt_cmp (op_ninDD (un 65 (by decide))) (de_var 2) (de_call D_part_of (hr.mono (by decide)) (da_cons (de_var 0) (da_cons (de_var 1) da_nil)))) (ds_cons (ds_ret (de_gstr gs_OPEN.choose_spec))
  ds_nil) ds_nil)
  (ds_cons (ds_set 3 sc_heart_by.nd (de_call D_camp_by (hr.mono (by decide)) (da_cons (de_var 0) da_nil)))
  (ds_cons (ds_ret (de_ite (dt_cmp (op_eqDD (un 64 (by decide))) (de_cmp (op_inDD (un 65 (by decide))) (de_var 1) (de_var 3)) (de_cmp (op_inDD (un 65 (by decide))) (de_var 2) (de_var 3))) (de_gstr gs_WITH_FRIENDS.choose_spec) (de_gstr gs_WITH_FOES.choose_spec)))
  ds_nil)))
theorem ok_heart_by {P : Program} {w : World} {K : PySem.W.Frag} {mg : Str → Option Value} {base : Heap} (Fd : FunAt K mg "heart_by" s_heart_by) (D_part_of : DefOk P w K mg base "part_of" 4 F_part_of) (D_camp_by : DefOk P w K mg base "camp_by" 3 F_camp_by) (gs_OPEN : ∃ t, mg "OPEN" = some (.str "open" t)) (gs_WITH_FOES : ∃ t, mg "WITH_FOES" = some (.str "foes" t)) (gs_WITH_FRIENDS : ∃ t, mg "WITH_FRIENDS" = some (.str "friends" t)) : DefOk P w K mg base "heart_by" 5 F_heart_by := by
  obtain ⟨f, fd, hm, Fd⟩ := Fd.ex
  exact ⟨⟨f, fd, ps_heart_by, hm, Fd.kp, Fd.bindsN fun _ _ _ _ _ _ us hl => match us, hl with | [_, _, _], _ => rfl, fn_heart_by Fd D_part_of D_camp_by gs_OPEN gs_WITH_FOES gs_WITH_FRIENDS⟩⟩

abbrev s_check_camps : Stmt := top 58
abbrev N_check_camps : List Str := ["web"]
abbrev ps_check_camps : List Str := ["web"]
theorem sc_check_camps : FnScope N_check_camps ps_check_camps (defScope s_check_camps) := ⟨rfl, rfl, rfl, by decide +kernel, rfl, by decide +kernel, by decide +kernel⟩
def B_check_camps : FS := (S.seq (S.expr (E.call F_check_web (A.cons (E.var 0) A.nil)))
  (S.seq (S.ifs (Tt.not (Tt.val (E.call F_are_in_camps_by (A.cons (E.var 0) A.nil)))) (S.seq (S.raise0 "NotInCamps")
  S.nop) S.nop)
  S.nop))
def F_check_camps : List D → FO := mkF 1 1 B_check_camps
theorem fn_check_camps {P : Program} {w : World} {K : PySem.W.Frag} {mg : Str → Option Value} {base : Heap} {f : Addr} {fd : FuncData} (Fd : FunD K "check_camps" "check_camps" (defArgs s_check_camps) (defBody s_check_camps) (defScope s_check_camps) [] [] f fd) (D_check_web : DefOk P w K mg base "check_web" 3 F_check_web) (D_are_in_camps_by : DefOk P w K mg base "are_in_camps_by" 4 F_are_in_camps_by) (xr_NotInCamps : ExcR K mg "NotInCamps") : FnOk P w K mg base (L2.CX P w) 5 f fd ps_check_camps (spD ⟨K, mg⟩ F_check_camps) := by
  refine def_fn (N := N_check_camps) (body := B_check_camps) Fd sc_check_camps (by decide) fun cdv A outer s H E hr => ?_
  have un := un_lt hr
  have un0 := un_lt0 hr
  exact (ds_cons (ds_expr (de_call D_check_web (hr.mono (by decide)) (da_cons (de_var 0) da_nil)))
  (ds_cons (ds_if (dt_not (dt_val (de_call D_are_in_camps_by (hr.mono (by decide)) (da_cons (de_var 0) da_nil)))) (ds_cons (ds_raise0 rfl xr_NotInCamps)
  ds_nil) ds_nil)
  ds_nil))
theorem ok_check_camps {P : Program} {w : World} {K : PySem.W.Frag} {mg : Str → Option Value} {base : Heap} (Fd : FunAt K mg "check_camps" s_check_camps) (D_check_web : DefOk P w K mg base "check_web" 3 F_check_web) (D_are_in_camps_by : DefOk P w K mg base "are_in_camps_by" 4 F_are_in_camps_by) (xr_NotInCamps : ExcR K mg "NotInCamps") : DefOk P w K mg base "check_camps" 5 F_check_camps := by
  obtain ⟨f, fd, hm, Fd⟩ := Fd.ex
  exact ⟨⟨f, fd, ps_check_camps, hm, Fd.kp, Fd.bindsN fun _ _ _ _ _ _ us hl => match us, hl with | [_], _ => rfl, fn_check_camps Fd D_check_web D_are_in_camps_by xr_NotInCamps⟩⟩

abbrev s_check_heart : Stmt := top 59
abbrev N_check_heart : List Str := ["web", "one", "other"]
abbrev ps_check_heart : List Str := ["web", "one", "other"]
theorem sc_check_heart : FnScope N_check_heart ps_check_heart (defScope s_check_heart) := ⟨rfl, rfl, rfl, by decide +kernel, rfl, by decide +kernel, by decide +kernel⟩
def B_check_heart : FS := (S.seq (S.expr (E.call F_check_web (A.cons (E.var 0) A.nil)))
  (S.seq (S.expr (E.call F_check_other (A.cons (E.var 0) (A.cons (E.var 1) (A.cons (E.var 2) A.nil)))))
  (S.seq (S.expr (E.call F_check_camps (A.cons (E.var 0) A.nil)))
  S.nop)))
def F_check_heart : List D → FO := mkF 3 3 B_check_heart
theorem fn_check_heart {P : Program} {w : World} {K : PySem.W.Frag} {mg : Str → Option Value} {base : Heap} {f : Addr} {fd : FuncData} (Fd : FunD K "check_heart" "check_heart" (defArgs s_check_heart) (defBody s_check_heart) (defScope s_check_heart) [] [] f fd) (D_check_web : DefOk P w K mg base "check_web" 3 F_check_web) (D_check_other : DefOk P w K mg base "check_other" 5 F_check_other) (D_check_camps : DefOk P w K mg base "check_camps" 5 F_check_camps) : FnOk P w K mg base (L2.CX P w) 6 f fd ps_check_heart (spD ⟨K, mg⟩ F_check_heart) := by
  refine def_fn (N := N_check_heart) (body := B_check_heart) Fd sc_check_heart (by decide) fun cdv A outer s H E hr => ?_
  have un := un_lt hr
  have un0 := un_lt0 hr
  exact (ds_cons (ds_expr (de_call D_check_web (hr.mono (by decide)) (da_cons (de_var 0) da_nil)))
  (ds_cons (ds_expr (de_call D_check_other (hr.mono (by decide)) (da_cons (de_var 0) (da_cons (de_var 1) (da_cons (de_var 2) da_nil)))))
  (ds_cons (ds_expr (de_call D_check_camps (hr.mono (by decide)) (da_cons (de_var 0) da_nil)))
  ds_nil)))
theorem ok_check_heart {P : Program} {w : World} {K : PySem.W.Frag} {mg : Str → Option Value} {base : Heap} (Fd : FunAt K mg "check_heart" s_check_heart) (D_check_web : DefOk P w K mg base "check_web" 3 F_check_web) (D_check_other : DefOk P w K mg base "check_other" 5 F_check_other) (D_check_camps : DefOk P w K mg base "check_camps" 5 F_check_camps) : DefOk P w K mg base "check_heart" 6 F_check_heart := by
  obtain ⟨f, fd, hm, Fd⟩ := Fd.ex
  exact ⟨⟨f, fd, ps_check_heart, hm, Fd.kp, Fd.bindsN fun _ _ _ _ _ _ us hl => match us, hl with | [_, _, _], _ => rfl, fn_check_heart Fd D_check_web D_check_other D_check_camps⟩⟩

abbrev s_at_heart : Stmt := top 60
abbrev N_at_heart : List Str := ["web", "one", "other"]
abbrev ps_at_heart : List Str := ["web", "one", "other"]
theorem sc_at_heart : FnScope N_at_heart ps_at_heart (defScope s_at_heart) := ⟨rfl, rfl, rfl, by decide +kernel, rfl, by decide +kernel, by decide +kernel⟩
def B_at_heart : FS := (S.seq (S.expr (E.call F_check_heart (A.cons (E.var 0) (A.cons (E.var 1) (A.cons (E.var 2) A.nil)))))
  (S.seq (S.ret (E.call F_heart_by (A.cons (E.var 0) (A.cons (E.var 1) (A.cons (E.var 2) A.nil)))))
  S.nop))
def F_at_heart : List D → FO := mkF 3 3 B_at_heart
theorem fn_at_heart {P : Program} {w : World} {K : PySem.W.Frag} {mg : Str → Option Value} {base : Heap} {f : Addr} {fd : FuncData} (Fd : FunD K "at_heart" "at_heart" (defArgs s_at_heart) (defBody s_at_heart) (defScope s_at_heart) [] [] f fd) (D_check_heart : DefOk P w K mg base "check_heart" 6 F_check_heart) (D_heart_by : DefOk P w K mg base "heart_by" 5 F_heart_by) : FnOk P w K mg base (L2.CX P w) 7 f fd ps_at_heart (spD ⟨K, mg⟩ F_at_heart) := by
  refine def_fn (N := N_at_heart) (body := B_at_heart) Fd sc_at_heart (by decide) fun cdv A outer s H E hr => ?_
  have un := un_lt hr
  have un0 := un_lt0 hr
  exact (ds_cons (ds_expr (de_call D_check_heart (hr.mono (by decide)) (da_cons (de_var 0) (da_cons (de_var 1) (da_cons (de_var 2) da_nil)))))
  (ds_cons (ds_ret (de_call D_heart_by (hr.mono (by decide)) (da_cons (de_var 0) (da_cons (de_var 1) (da_cons (de_var 2) da_nil)))))
  ds_nil))
theorem ok_at_heart {P : Program} {w : World} {K : PySem.W.Frag} {mg : Str → Option Value} {base : Heap} (Fd : FunAt K mg "at_heart" s_at_heart) (D_check_heart : DefOk P w K mg base "check_heart" 6 F_check_heart) (D_heart_by : DefOk P w K mg base "heart_by" 5 F_heart_by) : DefOk P w K mg base "at_heart" 7 F_at_heart := by
  obtain ⟨f, fd, hm, Fd⟩ := Fd.ex
  exact ⟨⟨f, fd, ps_at_heart, hm, Fd.kp, Fd.bindsN fun _ _ _ _ _ _ us hl => match us, hl with | [_, _, _], _ => rfl, fn_at_heart Fd D_check_heart D_heart_by⟩⟩

abbrev s_has_form : Stmt := top 68
abbrev N_has_form : List Str := ["value"]
abbrev ps_has_form : List Str := ["value"]
theorem sc_has_form : FnScope N_has_form ps_has_form (defScope s_has_form) := ⟨rfl, rfl, rfl, by decide +kernel, rfl, by decide +kernel, by decide +kernel⟩
def B_has_form : FS := (S.seq (S.ifs (Tt.or (Tt.not (Tt.val (E.c1 (isB "tuple") (E.var 0)))) (Tt.or (Tt.val (E.bin eqD (E.c1 lenD (E.var 0)) (E.cst (.int 0)))) (Tt.not (Tt.val (E.call F_is_string (A.cons (E.bin ixD (E.var 0) (E.cst (.int 0))) A.nil)))))) (S.seq (S.ret (E.cst (.bl false)))
  S.nop) S.nop)
  (S.seq (S.ret (E.and (E.c1 (ginD tbl_SIZES) (E.bin ixD (E.var 0) (E.cst (.int 0)))) (E.bin eqD (E.c1 lenD (E.var 0)) (E.c1 (gixD tbl_SIZES) (E.bin ixD (E.var 0) (E.cst (.int 0)))))))
  S.nop))
def F_has_form : List D → FO := mkF 1 1 B_has_form
theorem fn_has_form {P : Program} {w : World} {K : PySem.W.Frag} {mg : Str → Option Value} {base : Heap} {f : Addr} {fd : FuncData} (Fd : FunD K "has_form" "has_form" (defArgs s_has_form) (defBody s_has_form) (defScope s_has_form) [] [] f fd) (D_is_string : DefOk P w K mg base "is_string" 1 F_is_string) (fr_isinstance : mg "isinstance" = none) (fr_tuple : mg "tuple" = none) (fr_len : mg "len" = none) (WI : WebI K mg) (gd_SIZES : GDictM w K mg "SIZES" tbl_SIZES) : FnOk P w K mg base (L2.CX P w) 2 f fd ps_has_form (spD ⟨K, mg⟩ F_has_form) := by
  refine def_fn (N := N_has_form) (body := B_has_form) Fd sc_has_form (by decide) fun cdv A outer s H E hr => ?_
  have un := un_lt hr
  have un0 := un_lt0 hr
  exact (ds_cons (ds_if (dw_or (dt_not (dt_val (de_isB WI fr_tuple fr_isinstance (by decide +kernel) (de_var 0)))) (dw_or (dt_cmp (op_eqDD (un 64 (by decide))) (de_b1 c_len fr_len (by decide +kernel) (de_var 0)) de_int) (dw_or1 (dt_not (dt_val (de_call D_is_string (hr.mono (by decide)) (da_cons (de_ix (un 1 (by decide)) (de_var 0) de_int) da_nil))))))).dt (ds_cons (ds_ret de_bl)
  ds_nil) ds_nil)
  (ds_cons (ds_ret (de_and (de_gin gd_SIZES.x (de_ix (un 1 (by decide)) (de_var 0) de_int)) (de_one (de_cmp (op_eqDD (un 64 (by decide))) (de_b1 c_len fr_len (by decide +kernel) (de_var 0)) (de_gix gd_SIZES.x (de_ix (un 1 (by decide)) (de_var 0) de_int))))))
  ds_nil))
theorem ok_has_form {P : Program} {w : World} {K : PySem.W.Frag} {mg : Str → Option Value} {base : Heap} (Fd : FunAt K mg "has_form" s_has_form) (D_is_string : DefOk P w K mg base "is_string" 1 F_is_string) (fr_isinstance : mg "isinstance" = none) (fr_tuple : mg "tuple" = none) (fr_len : mg "len" = none) (WI : WebI K mg) (gd_SIZES : GDictM w K mg "SIZES" tbl_SIZES) : DefOk P w K mg base "has_form" 2 F_has_form := by
  obtain ⟨f, fd, hm, Fd⟩ := Fd.ex
  exact ⟨⟨f, fd, ps_has_form, hm, Fd.kp, Fd.bindsN fun _ _ _ _ _ _ us hl => match us, hl with | [_], _ => rfl, fn_has_form Fd D_is_string fr_isinstance fr_tuple fr_len WI gd_SIZES⟩⟩

abbrev s_check_deed : Stmt := top 69
abbrev N_check_deed : List Str := ["web", "value", "is_right"]
abbrev ps_check_deed : List Str := ["web", "value"]
theorem sc_check_deed : FnScope N_check_deed ps_check_deed (defScope s_check_deed) := ⟨rfl, rfl, rfl, by decide +kernel, rfl, by decide +kernel, by decide +kernel⟩
def B_check_deed : FS := (S.seq (S.ifs (Tt.not (Tt.val (E.call F_has_form (A.cons (E.var 1) A.nil)))) (S.seq (S.raise1 "InvalidDeed" "index" (E.cst (.int 0)))
  S.nop) S.nop)
  (S.seq (S.set 2 (E.ite (Tt.val (E.bin eqD (E.bin ixD (E.var 1) (E.cst (.int 0))) (E.cst (.str "switch")))) (E.call F_is_lot (A.cons (E.var 0) (A.cons (E.bin ixD (E.var 1) (E.cst (.int 1))) A.nil))) (E.call F_is_person (A.cons (E.var 0) (A.cons (E.bin ixD (E.var 1) (E.cst (.int 1))) A.nil)))))
  (S.seq (S.ifs (Tt.not (Tt.val (E.var 2))) (S.seq (S.raise1 "InvalidDeed" "index" (E.cst (.int 1)))
  S.nop) S.nop)
  (S.seq (S.ifs (Tt.and (Tt.val (E.bin neD (E.bin ixD (E.var 1) (E.cst (.int 0))) (E.cst (.str "switch")))) (Tt.or (Tt.not (Tt.val (E.call F_is_person (A.cons (E.var 0) (A.cons (E.bin ixD (E.var 1) (E.cst (.int 2))) A.nil))))) (Tt.val (E.bin eqD (E.bin ixD (E.var 1) (E.cst (.int 2))) (E.bin ixD (E.var 1) (E.cst (.int 1))))))) (S.seq (S.raise1 "InvalidDeed" "index" (E.cst (.int 2)))
  S.nop) S.nop)
  S.nop))))
def F_check_deed : List D → FO := mkF 3 2 B_check_deed
theorem fn_check_deed {P : Program} {w : World} {K : PySem.W.Frag} {mg : Str → Option Value} {base : Heap} {f : Addr} {fd : FuncData} (Fd : FunD K "check_deed" "check_deed" (defArgs s_check_deed) (defBody s_check_deed) (defScope s_check_deed) [] [] f fd) (D_has_form : DefOk P w K mg base "has_form" 2 F_has_form) (D_is_lot : DefOk P w K mg base "is_lot" 4 F_is_lot) (D_is_person : DefOk P w K mg base "is_person" 3 F_is_person) (xt_InvalidDeed : ExcT P w K mg base "InvalidDeed" "index") : FnOk P w K mg base (L2.CX P w) 5 f fd ps_check_deed (spD ⟨K, mg⟩ F_check_deed) := by
  refine def_fn (N := N_check_deed) (body := B_check_deed) Fd sc_check_deed (by decide) fun cdv A outer s H E hr => ?_
  have un := un_lt hr
  have un0 := un_lt0 hr
  exact (ds_cons (ds_if (dt_not (dt_val (de_call D_has_form (hr.mono (by decide)) (da_cons (de_var 1) da_nil)))) (ds_cons (ds_raise1 rfl xt_InvalidDeed (hr.mono (by decide)) de_int)
  ds_nil) ds_nil)
  (ds_cons (ds_set 2 sc_check_deed.nd (de_ite (dt_cmp (op_eqDD (un 64 (by decide))) (de_ix (un 1 (by decide)) (de_var 1) de_int) de_str) (de_call D_is_lot (hr.mono (by decide)) (da_cons (de_var 0) (da_cons (de_ix (un 1 (by decide)) (de_var 1) de_int) da_nil))) (de_call D_is_person (hr.mono (by decide)) (da_cons (de_var 0) (da_cons (de_ix (un 1 (by decide)) (de_var 1) de_int) da_nil)))))
  (ds_cons (ds_if (dt_not (dt_val (de_var 2))) (ds_cons (ds_raise1 rfl xt_InvalidDeed (hr.mono (by decide)) de_int)
  ds_nil) ds_nil)
  (ds_cons (ds_if (dw_and (dt_cmp (op_neDD (un 64 (by decide))) (de_ix (un 1 (by decide)) (de_var 1) de_int) de_str) (dw_and1 (dw_or (dt_not (dt_val (de_call D_is_person (hr.mono (by decide)) (da_cons (de_var 0) (da_cons (de_ix (un 1 (by decide)) (de_var 1) de_int) da_nil))))) (dw_or1 (dt_cmp (op_eqDD (un 64 (by decide))) (de_ix (un 1 (by decide)) (de_var 1) de_int) (de_ix (un 1 (by decide)) (de_var 1) de_int)))).dt)).dt (ds_cons (ds_raise1 rfl xt_InvalidDeed (hr.mono (by decide)) de_int)
  ds_nil) ds_nil)
  ds_nil))))
theorem ok_check_deed {P : Program} {w : World} {K : PySem.W.Frag} {mg : Str → Option Value} {base : Heap} (Fd : FunAt K mg "check_deed" s_check_deed) (D_has_form : DefOk P w K mg base "has_form" 2 F_has_form) (D_is_lot : DefOk P w K mg base "is_lot" 4 F_is_lot) (D_is_person : DefOk P w K mg base "is_person" 3 F_is_person) (xt_InvalidDeed : ExcT P w K mg base "InvalidDeed" "index") : DefOk P w K mg base "check_deed" 5 F_check_deed := by
  obtain ⟨f, fd, hm, Fd⟩ := Fd.ex
  exact ⟨⟨f, fd, ps_check_deed, hm, Fd.kp, Fd.bindsN fun _ _ _ _ _ _ us hl => match us, hl with | [_, _], _ => rfl, fn_check_deed Fd D_has_form D_is_lot D_is_person xt_InvalidDeed⟩⟩

abbrev s_web_behind : Stmt := top 70
abbrev N_web_behind : List Str := ["web", "deed", "pair"]
abbrev ps_web_behind : List Str := ["web", "deed"]
theorem sc_web_behind : FnScope N_web_behind ps_web_behind (defScope s_web_behind) := ⟨rfl, rfl, rfl, by decide +kernel, rfl, by decide +kernel, by decide +kernel⟩
def B_web_behind : FS := (S.seq (S.ifs (Tt.val (E.bin eqD (E.bin ixD (E.var 1) (E.cst (.int 0))) (E.cst (.str "switch")))) (S.seq (S.ret (E.callM F_switched_by (A.cons (E.var 0) (A.cons (E.bin ixD (E.var 1) (E.cst (.int 1))) A.nil))))
  S.nop) S.nop)
  (S.seq (S.set 2 (E.tup (A.cons (E.c1 minD (E.sl (E.var 1) (P.at (E.cst (.int 1))) P.no)) (A.cons (E.c1 maxD (E.sl (E.var 1) (P.at (E.cst (.int 1))) P.no)) A.nil))))
  (S.seq (S.ret (E.callM F_made_of (A.cons (E.c1 (fldD "people") (E.var 0)) (A.cons (E.fz (E.mrgK (E.call F_signs_of (A.cons (E.var 0) A.nil)) (E.var 2) (E.c1 (gixD tbl_SIGNS) (E.bin ixD (E.var 1) (E.cst (.int 0)))))) A.nil))))
  S.nop)))
def F_web_behind : FM := mkM 3 2 B_web_behind
theorem fn_web_behind {P : Program} {w : World} {K : PySem.W.Frag} {mg : Str → Option Value} {base : Heap} {f : Addr} {fd : FuncData} (Fd : FunD K "web_behind" "web_behind" (defArgs s_web_behind) (defBody s_web_behind) (defScope s_web_behind) [] [] f fd) (D_switched_by : DefOkM P w K mg base "switched_by" 12 F_switched_by) (D_made_of : DefOkM P w K mg base "made_of" 11 F_made_of) (D_signs_of : DefOk P w K mg base "signs_of" 1 F_signs_of) (fr_max : mg "max" = none) (fr_min : mg "min" = none) (gd_SIGNS : GDictM w K mg "SIGNS" tbl_SIGNS) (WT : WebT K mg) : FnOk P w K mg base (L2.CX P w) 13 f fd ps_web_behind (spM ⟨K, mg⟩ F_web_behind) := by
  refine def_fnM (N := N_web_behind) (body := B_web_behind) Fd sc_web_behind (by decide) fun cdv A outer s H E hr => ?_
  have un := un_lt hr
  have un0 := un_lt0 hr
  exact (ds_cons (ds_if (dt_cmp (op_eqDD (un 64 (by decide))) (de_ix (un 1 (by decide)) (de_var 1) de_int) de_str) (ds_cons (ds_ret (de_callM D_switched_by (hr.mono (by decide)) (da_cons (de_var 0) (da_cons (de_ix (un 1 (by decide)) (de_var 1) de_int) da_nil))))
  ds_nil) ds_nil)
  (ds_cons (ds_set 2 sc_web_behind.nd (de_tup (da_cons (de_b1 (c_min rfl (un 1 (by decide))) fr_min (by decide +kernel) (de_sl (de_var 1) (dp_at de_int) dp_no)) (da_cons (de_b1 (c_max rfl) fr_max (by decide +kernel) (de_sl (de_var 1) (dp_at de_int) dp_no)) da_nil))))
  (ds_cons (ds_ret (de_callM D_made_of (hr.mono (by decide)) (da_cons (de_fld WT (de_var 0)) (da_cons (df_mrgK un0 (de_call D_signs_of (hr.mono (by decide)) (da_cons (de_var 0) da_nil)) (de_var 2) (de_gix gd_SIGNS.x (de_ix (un 1 (by decide)) (de_var 1) de_int))).de da_nil))))
  ds_nil)))
theorem ok_web_behind {P : Program} {w : World} {K : PySem.W.Frag} {mg : Str → Option Value} {base : Heap} (Fd : FunAt K mg "web_behind" s_web_behind) (D_switched_by : DefOkM P w K mg base "switched_by" 12 F_switched_by) (D_made_of : DefOkM P w K mg base "made_of" 11 F_made_of) (D_signs_of : DefOk P w K mg base "signs_of" 1 F_signs_of) (fr_max : mg "max" = none) (fr_min : mg "min" = none) (gd_SIGNS : GDictM w K mg "SIGNS" tbl_SIGNS) (WT : WebT K mg) : DefOkM P w K mg base "web_behind" 13 F_web_behind := by
  obtain ⟨f, fd, hm, Fd⟩ := Fd.ex
  exact ⟨⟨f, fd, ps_web_behind, hm, Fd.kp, Fd.bindsN fun _ _ _ _ _ _ us hl => match us, hl with | [_, _], _ => rfl, fn_web_behind Fd D_switched_by D_made_of D_signs_of fr_max fr_min gd_SIGNS WT⟩⟩

abbrev s_reason_against : Stmt := top 71
abbrev N_reason_against : List Str := ["web", "deed", "sign"]
abbrev ps_reason_against : List Str := ["web", "deed"]
theorem sc_reason_against : FnScope N_reason_against ps_reason_against (defScope s_reason_against) := ⟨rfl, rfl, rfl, by decide +kernel, rfl, by decide +kernel, by decide +kernel⟩
def B_reason_against : FS := (S.seq (S.ifs (Tt.val (E.bin eqD (E.bin ixD (E.var 1) (E.cst (.int 0))) (E.cst (.str "switch")))) (S.seq (S.ret (E.cst .non))
  S.nop) S.nop)
  (S.seq (S.set 2 (E.call F_sign_of (A.cons (E.var 0) (A.cons (E.bin ixD (E.var 1) (E.cst (.int 1))) (A.cons (E.bin ixD (E.var 1) (E.cst (.int 2))) A.nil)))))
  (S.seq (S.ifs (Tt.val (E.bin eqD (E.bin ixD (E.var 1) (E.cst (.int 0))) (E.cst (.str "part")))) (S.seq (S.ret (E.ite (Tt.val (E.bin eqD (E.var 2) (E.cst (.int 0)))) (E.cst (.str "none")) (E.cst .non)))
  S.nop) S.nop)
  (S.seq (S.ifs (Tt.val (E.bin eqD (E.var 2) (E.c1 (gixD tbl_SIGNS) (E.bin ixD (E.var 1) (E.cst (.int 0)))))) (S.seq (S.ret (E.cst (.str "same")))
  S.nop) S.nop)
  (S.seq (S.ret (E.ite (Tt.val (E.call F_are_in_camps_by (A.cons (E.callM F_web_behind (A.cons (E.var 0) (A.cons (E.var 1) A.nil))) A.nil))) (E.cst .non) (E.cst (.str "odd"))))
  S.nop)))))
def F_reason_against : FM := mkM 3 2 B_reason_against
theorem fn_reason_against {P : Program} {w : World} {K : PySem.W.Frag} {mg : Str → Option Value} {base : Heap} {f : Addr} {fd : FuncData} (Fd : FunD K "reason_against" "reason_against" (defArgs s_reason_against) (defBody s_reason_against) (defScope s_reason_against) [] [] f fd) (D_sign_of : DefOk P w K mg base "sign_of" 1 F_sign_of) (D_are_in_camps_by : DefOk P w K mg base "are_in_camps_by" 4 F_are_in_camps_by) (D_web_behind : DefOkM P w K mg base "web_behind" 13 F_web_behind) (gs_NONE_parties : ∃ t, mg "NONE_parties" = some (.str "none" t)) (gs_ODD : ∃ t, mg "ODD" = some (.str "odd" t)) (gs_SAME : ∃ t, mg "SAME" = some (.str "same" t)) (gd_SIGNS : GDictM w K mg "SIGNS" tbl_SIGNS) : FnOk P w K mg base (L2.CX P w) 14 f fd ps_reason_against (spM ⟨K, mg⟩ F_reason_against) := by
  refine def_fnM (N := N_reason_against) (body := B_reason_against) Fd sc_reason_against (by decide) fun cdv A outer s H E hr => ?_
  have un := un_lt hr
  have un0 := un_lt0 hr
  exact (ds_cons (ds_if (dt_cmp (op_eqDD (un 64 (by decide))) (de_ix (un 1 (by decide)) (de_var 1) de_int) de_str) (ds_cons (ds_ret de_non)
  ds_nil) ds_nil)
  (ds_cons (ds_set 2 sc_reason_against.nd (de_call D_sign_of (hr.mono (by decide)) (da_cons (de_var 0) (da_cons (de_ix (un 1 (by decide)) (de_var 1) de_int) (da_cons (de_ix (un 1 (by decide)) (de_var 1) de_int) da_nil)))))
  (ds_cons (ds_if (dt_cmp (op_eqDD (un 64 (by decide))) (de_ix (un 1 (by decide)) (de_var 1) de_int) de_str) (ds_cons (ds_ret (de_ite (dt_cmp (op_eqDD (un 64 (by decide))) (de_var 2) de_int) (de_gstr gs_NONE_parties.choose_spec) de_non))
  ds_nil) ds_nil)
  (ds_cons (ds_if (dt_cmp (op_eqDD (un 64 (by decide))) (de_var 2) (de_gix gd_SIGNS.x (de_ix (un 1 (by decide)) (de_var 1) de_int))) (ds_cons (ds_ret (de_gstr gs_SAME.choose_spec))
  ds_nil) ds_nil)
  (ds_cons (ds_ret (de_ite (dt_val (de_call D_are_in_camps_by (hr.mono (by decide)) (da_cons (de_callM D_web_behind (hr.mono (by decide)) (da_cons (de_var 0) (da_cons (de_var 1) da_nil))) da_nil))) de_non (de_gstr gs_ODD.choose_spec)))
  ds_nil)))))
theorem ok_reason_against {P : Program} {w : World} {K : PySem.W.Frag} {mg : Str → Option Value} {base : Heap} (Fd : FunAt K mg "reason_against" s_reason_against) (D_sign_of : DefOk P w K mg base "sign_of" 1 F_sign_of) (D_are_in_camps_by : DefOk P w K mg base "are_in_camps_by" 4 F_are_in_camps_by) (D_web_behind : DefOkM P w K mg base "web_behind" 13 F_web_behind) (gs_NONE_parties : ∃ t, mg "NONE_parties" = some (.str "none" t)) (gs_ODD : ∃ t, mg "ODD" = some (.str "odd" t)) (gs_SAME : ∃ t, mg "SAME" = some (.str "same" t)) (gd_SIGNS : GDictM w K mg "SIGNS" tbl_SIGNS) : DefOkM P w K mg base "reason_against" 14 F_reason_against := by
  obtain ⟨f, fd, hm, Fd⟩ := Fd.ex
  exact ⟨⟨f, fd, ps_reason_against, hm, Fd.kp, Fd.bindsN fun _ _ _ _ _ _ us hl => match us, hl with | [_, _], _ => rfl, fn_reason_against Fd D_sign_of D_are_in_camps_by D_web_behind gs_NONE_parties gs_ODD gs_SAME gd_SIGNS⟩⟩

abbrev s_Party___init__ : Stmt := meth 72 0
abbrev N_Party___init__ : List Str := ["self", "people"]
abbrev ps_Party___init__ : List Str := ["self", "people"]
theorem sc_Party___init__ : FnScope N_Party___init__ ps_Party___init__ (defScope s_Party___init__) := ⟨rfl, rfl, rfl, by decide +kernel, rfl, by decide +kernel, by decide +kernel⟩
def B_Party___init__ : FS := (S.seq (S.fld "Party" fs_Party "web" (E.var 0) (E.web F_Web___init__ (· ++ [.tup [], .tup []]) (A.cons (E.var 1) A.nil)))
  (S.seq (S.fld "Party" fs_Party "people" (E.var 0) (E.var 1))
  (S.seq (S.fld "Party" fs_Party "deeds" (E.var 0) (E.tup A.nil))
  (S.seq (S.fld "Party" fs_Party "past" (E.var 0) (E.mk (E.lst A.nil)))
  S.nop))))
def F_Party___init__ : FM := mkM 2 2 B_Party___init__
theorem fn_Party___init__ {P : Program} {w : World} {K : PySem.W.Frag} {mg : Str → Option Value} {base : Heap} {f : Addr} {fd : FuncData} {dvs : List V} (Fd : FunD K "__init__" "Party.__init__" (defArgs s_Party___init__) (defBody s_Party___init__) (defScope s_Party___init__) dvs [] f fd) (nw_Web1 : NewD P w K mg base "Web" 9 [.tup [], .tup []] F_Web___init__) (OT_Party : ObjT K mg "Party" fs_Party) : FnOk P w K mg base (L2.CX P w) 11 f fd ps_Party___init__ (spM ⟨K, mg⟩ F_Party___init__) := by
  refine def_fnM (N := N_Party___init__) (body := B_Party___init__) Fd sc_Party___init__ (by decide) fun cdv A outer s H E hr => ?_
  have un := un_lt hr
  have un0 := un_lt0 hr
  exact (ds_cons (ds_fld OT_Party (de_var 0) (de_webD nw_Web1 (hr.mono (by decide)) (da_cons (de_var 1) da_nil)))
  (ds_cons (ds_fld OT_Party (de_var 0) (de_var 1))
  (ds_cons (ds_fld OT_Party (de_var 0) (de_tup da_nil))
  (ds_cons (ds_fld OT_Party (de_var 0) (df_lst da_nil).dm)
  ds_nil))))
theorem nd_Party_of {P : Program} {w : World} {K : PySem.W.Frag} {mg : Str → Option Value} {base : Heap} (At : InitAt K mg "Party" "Party.__init__" s_Party___init__ []) (nw_Web1 : NewD P w K mg base "Web" 9 [.tup [], .tup []] F_Web___init__) (OT_Party : ObjT K mg "Party" fs_Party) : NewD P w K mg base "Party" 11 [] F_Party___init__ := newD_of At (fun Fd => fn_Party___init__ Fd nw_Web1 OT_Party) (fun _ _ _ _ _ _ us hl => match us, hl with | [_, _], _ => rfl)
theorem nk_Party_of {P : Program} {w : World} {K : PySem.W.Frag} {mg : Str → Option Value} {base : Heap} (At : InitAt K mg "Party" "Party.__init__" s_Party___init__ []) (nw_Web1 : NewD P w K mg base "Web" 9 [.tup [], .tup []] F_Web___init__) (OT_Party : ObjT K mg "Party" fs_Party) : NewK P w K mg base "Party" 11 ["people"] id F_Party___init__ := newK_of At (fun Fd => fn_Party___init__ Fd nw_Web1 OT_Party) (fun _ _ _ _ _ _ _ ws hl => match ws, hl with | [_], _ => rfl)

abbrev s_Party_do : Stmt := meth 72 1
abbrev N_Party_do : List Str := ["self", "deed", "reason"]
abbrev ps_Party_do : List Str := ["self", "deed"]
theorem sc_Party_do : FnScope N_Party_do ps_Party_do (defScope s_Party_do) := ⟨rfl, rfl, rfl, by decide +kernel, rfl, by decide +kernel, by decide +kernel⟩
def B_Party_do : FS := (S.seq (S.expr (E.call F_check_deed (A.cons (E.fldO "Party" fs_Party "web" (E.var 0)) (A.cons (E.var 1) A.nil))))
  (S.seq (S.set 2 (E.callM F_reason_against (A.cons (E.fldO "Party" fs_Party "web" (E.var 0)) (A.cons (E.var 1) A.nil))))
  (S.seq (S.ifs (Tt.val (E.bin ntND (E.var 2) (E.cst .non))) (S.seq (S.raise1 "Barred" "reason" (E.var 2))
  S.nop) S.nop)
  (S.seq (S.appM (E.fldO "Party" fs_Party "past" (E.var 0)) (E.fldO "Party" fs_Party "web" (E.var 0)))
  (S.seq (S.fld "Party" fs_Party "web" (E.var 0) (E.callM F_web_behind (A.cons (E.fldO "Party" fs_Party "web" (E.var 0)) (A.cons (E.var 1) A.nil))))
  (S.seq (S.fld "Party" fs_Party "deeds" (E.var 0) (E.bin addD (E.fldO "Party" fs_Party "deeds" (E.var 0)) (E.tup (A.cons (E.var 1) A.nil))))
  S.nop))))))
def F_Party_do : FM := mkM 3 2 B_Party_do
theorem fn_Party_do {P : Program} {w : World} {K : PySem.W.Frag} {mg : Str → Option Value} {base : Heap} {f : Addr} {fd : FuncData} (Fd : FunD K "do" "Party.do" (defArgs s_Party_do) (defBody s_Party_do) (defScope s_Party_do) [] [] f fd) (D_check_deed : DefOk P w K mg base "check_deed" 5 F_check_deed) (D_reason_against : DefOkM P w K mg base "reason_against" 14 F_reason_against) (D_web_behind : DefOkM P w K mg base "web_behind" 13 F_web_behind) (xt_Barred : ExcT P w K mg base "Barred" "reason") (OT_Party : ObjT K mg "Party" fs_Party) : FnOk P w K mg base (L2.CX P w) 15 f fd ps_Party_do (spM ⟨K, mg⟩ F_Party_do) := by
  refine def_fnM (N := N_Party_do) (body := B_Party_do) Fd sc_Party_do (by decide) fun cdv A outer s H E hr => ?_
  have un := un_lt hr
  have un0 := un_lt0 hr
  exact (ds_cons (ds_expr (de_call D_check_deed (hr.mono (by decide)) (da_cons (de_fldO OT_Party (de_var 0)) (da_cons (de_var 1) da_nil))))
  (ds_cons (ds_set 2 sc_Party_do.nd (de_callM D_reason_against (hr.mono (by decide)) (da_cons (de_fldO OT_Party (de_var 0)) (da_cons (de_var 1) da_nil))))
  (ds_cons (ds_if (dt_cmp op_ntND (de_var 2) de_non) (ds_cons (ds_raise1 rfl xt_Barred (hr.mono (by decide)) (de_var 2))
  ds_nil) ds_nil)
  (ds_cons (ds_appM (de_fldO OT_Party (de_var 0)) (de_fldO OT_Party (de_var 0)))
  (ds_cons (ds_fld OT_Party (de_var 0) (de_callM D_web_behind (hr.mono (by decide)) (da_cons (de_fldO OT_Party (de_var 0)) (da_cons (de_var 1) da_nil))))
  (ds_cons (ds_fld OT_Party (de_var 0) (de_bin op_addD (de_fldO OT_Party (de_var 0)) (de_tup (da_cons (de_var 1) da_nil))))
  ds_nil))))))
theorem mo_Party_do_of {P : Program} {w : World} {K : PySem.W.Frag} {mg : Str → Option Value} {base : Heap} (At : MethAt K mg "Party" "do" "Party.do" s_Party_do) (D_check_deed : DefOk P w K mg base "check_deed" 5 F_check_deed) (D_reason_against : DefOkM P w K mg base "reason_against" 14 F_reason_against) (D_web_behind : DefOkM P w K mg base "web_behind" 13 F_web_behind) (xt_Barred : ExcT P w K mg base "Barred" "reason") (OT_Party : ObjT K mg "Party" fs_Party) : MethOk P w K mg base "Party" "do" 15 F_Party_do := methOk_of At (fun Fd => fn_Party_do Fd D_check_deed D_reason_against D_web_behind xt_Barred OT_Party) (fun _ _ _ _ _ _ us hl => match us, hl with | [_, _], _ => rfl)
theorem mk_Party_do_of {P : Program} {w : World} {K : PySem.W.Frag} {mg : Str → Option Value} {base : Heap} (At : MethAt K mg "Party" "do" "Party.do" s_Party_do) (D_check_deed : DefOk P w K mg base "check_deed" 5 F_check_deed) (D_reason_against : DefOkM P w K mg base "reason_against" 14 F_reason_against) (D_web_behind : DefOkM P w K mg base "web_behind" 13 F_web_behind) (xt_Barred : ExcT P w K mg base "Barred" "reason") (OT_Party : ObjT K mg "Party" fs_Party) : MethK P w K mg base "Party" "do" 15 ["deed"] id F_Party_do := methK_of At (fun Fd => fn_Party_do Fd D_check_deed D_reason_against D_web_behind xt_Barred OT_Party) (fun _ _ _ _ _ _ _ ws hl => match ws, hl with | [_], _ => rfl)

abbrev s_Party_undo : Stmt := meth 72 2
abbrev N_Party_undo : List Str := ["self"]
abbrev ps_Party_undo : List Str := ["self"]
theorem sc_Party_undo : FnScope N_Party_undo ps_Party_undo (defScope s_Party_undo) := ⟨rfl, rfl, rfl, by decide +kernel, rfl, by decide +kernel, by decide +kernel⟩
def B_Party_undo : FS := (S.seq (S.ifs (Tt.val (E.bin eqD (E.fldO "Party" fs_Party "past" (E.var 0)) (E.fz (E.lst A.nil)))) (S.seq (S.raise0 "NothingToUndo")
  S.nop) S.nop)
  (S.seq (S.fld "Party" fs_Party "web" (E.var 0) (E.popM (E.fldO "Party" fs_Party "past" (E.var 0))))
  (S.seq (S.fld "Party" fs_Party "deeds" (E.var 0) (E.sl (E.fldO "Party" fs_Party "deeds" (E.var 0)) P.no (P.at (E.c1 negD (E.cst (.int 1))))))
  S.nop)))
def F_Party_undo : FM := mkM 1 1 B_Party_undo
theorem fn_Party_undo {P : Program} {w : World} {K : PySem.W.Frag} {mg : Str → Option Value} {base : Heap} {f : Addr} {fd : FuncData} (Fd : FunD K "undo" "Party.undo" (defArgs s_Party_undo) (defBody s_Party_undo) (defScope s_Party_undo) [] [] f fd) (xr_NothingToUndo : ExcR K mg "NothingToUndo") (OT_Party : ObjT K mg "Party" fs_Party) : FnOk P w K mg base (L2.CX P w) 3 f fd ps_Party_undo (spM ⟨K, mg⟩ F_Party_undo) := by
  refine def_fnM (N := N_Party_undo) (body := B_Party_undo) Fd sc_Party_undo (by decide) fun cdv A outer s H E hr => ?_
  have un := un_lt hr
  have un0 := un_lt0 hr
  exact (ds_cons (ds_if (dt_cmp (op_eqDD (un 64 (by decide))) (de_fldO OT_Party (de_var 0)) (df_lst da_nil).de) (ds_cons (ds_raise0 rfl xr_NothingToUndo)
  ds_nil) ds_nil)
  (ds_cons (ds_fld OT_Party (de_var 0) (de_popM (de_fldO OT_Party (de_var 0))))
  (ds_cons (ds_fld OT_Party (de_var 0) (de_sl (de_fldO OT_Party (de_var 0)) dp_no (dp_at (de_un u_neg de_int))))
  ds_nil)))
theorem mo_Party_undo_of {P : Program} {w : World} {K : PySem.W.Frag} {mg : Str → Option Value} {base : Heap} (At : MethAt K mg "Party" "undo" "Party.undo" s_Party_undo) (xr_NothingToUndo : ExcR K mg "NothingToUndo") (OT_Party : ObjT K mg "Party" fs_Party) : MethOk P w K mg base "Party" "undo" 3 F_Party_undo := methOk_of At (fun Fd => fn_Party_undo Fd xr_NothingToUndo OT_Party) (fun _ _ _ _ _ _ us hl => match us, hl with | [_], _ => rfl)

abbrev s_Party_camp : Stmt := meth 72 3
abbrev N_Party_camp : List Str := ["self"]
abbrev ps_Party_camp : List Str := ["self"]
theorem sc_Party_camp : FnScope N_Party_camp ps_Party_camp (defScope s_Party_camp) := ⟨rfl, rfl, rfl, by decide +kernel, rfl, by decide +kernel, by decide +kernel⟩
def B_Party_camp : FS := (S.seq (S.ret (E.call F_camp_by (A.cons (E.fldO "Party" fs_Party "web" (E.var 0)) A.nil)))
  S.nop)
def F_Party_camp : FM := mkM 1 1 B_Party_camp
theorem fn_Party_camp {P : Program} {w : World} {K : PySem.W.Frag} {mg : Str → Option Value} {base : Heap} {f : Addr} {fd : FuncData} (Fd : FunD K "camp" "Party.camp" (defArgs s_Party_camp) (defBody s_Party_camp) (defScope s_Party_camp) [] [] f fd) (D_camp_by : DefOk P w K mg base "camp_by" 3 F_camp_by) (OT_Party : ObjT K mg "Party" fs_Party) : FnOk P w K mg base (L2.CX P w) 4 f fd ps_Party_camp (spM ⟨K, mg⟩ F_Party_camp) := by
  refine def_fnM (N := N_Party_camp) (body := B_Party_camp) Fd sc_Party_camp (by decide) fun cdv A outer s H E hr => ?_
  have un := un_lt hr
  have un0 := un_lt0 hr
  exact (ds_cons (ds_ret (de_call D_camp_by (hr.mono (by decide)) (da_cons (de_fldO OT_Party (de_var 0)) da_nil)))
  ds_nil)
theorem mo_Party_camp_of {P : Program} {w : World} {K : PySem.W.Frag} {mg : Str → Option Value} {base : Heap} (At : MethAt K mg "Party" "camp" "Party.camp" s_Party_camp) (D_camp_by : DefOk P w K mg base "camp_by" 3 F_camp_by) (OT_Party : ObjT K mg "Party" fs_Party) : MethOk P w K mg base "Party" "camp" 4 F_Party_camp := methOk_of At (fun Fd => fn_Party_camp Fd D_camp_by OT_Party) (fun _ _ _ _ _ _ us hl => match us, hl with | [_], _ => rfl)

abbrev s_Party_at_heart : Stmt := meth 72 4
abbrev N_Party_at_heart : List Str := ["self", "one", "other"]
abbrev ps_Party_at_heart : List Str := ["self", "one", "other"]
theorem sc_Party_at_heart : FnScope N_Party_at_heart ps_Party_at_heart (defScope s_Party_at_heart) := ⟨rfl, rfl, rfl, by decide +kernel, rfl, by decide +kernel, by decide +kernel⟩
def B_Party_at_heart : FS := (S.seq (S.ret (E.call F_at_heart (A.cons (E.fldO "Party" fs_Party "web" (E.var 0)) (A.cons (E.var 1) (A.cons (E.var 2) A.nil)))))
  S.nop)
def F_Party_at_heart : FM := mkM 3 3 B_Party_at_heart
theorem fn_Party_at_heart {P : Program} {w : World} {K : PySem.W.Frag} {mg : Str → Option Value} {base : Heap} {f : Addr} {fd : FuncData} (Fd : FunD K "at_heart" "Party.at_heart" (defArgs s_Party_at_heart) (defBody s_Party_at_heart) (defScope s_Party_at_heart) [] [] f fd) (OT_Party : ObjT K mg "Party" fs_Party) (D_at_heart_falling : DefOk P w K mg base "at_heart_falling" 7 F_at_heart) : FnOk P w K mg base (L2.CX P w) 8 f fd ps_Party_at_heart (spM ⟨K, mg⟩ F_Party_at_heart) := by
  refine def_fnM (N := N_Party_at_heart) (body := B_Party_at_heart) Fd sc_Party_at_heart (by decide) fun cdv A outer s H E hr => ?_
  have un := un_lt hr
  have un0 := un_lt0 hr
  exact (ds_cons (ds_ret (de_call D_at_heart_falling (hr.mono (by decide)) (da_cons (de_fldO OT_Party (de_var 0)) (da_cons (de_var 1) (da_cons (de_var 2) da_nil)))))
  ds_nil)
theorem mo_Party_at_heart_of {P : Program} {w : World} {K : PySem.W.Frag} {mg : Str → Option Value} {base : Heap} (At : MethAt K mg "Party" "at_heart" "Party.at_heart" s_Party_at_heart) (OT_Party : ObjT K mg "Party" fs_Party) (D_at_heart_falling : DefOk P w K mg base "at_heart_falling" 7 F_at_heart) : MethOk P w K mg base "Party" "at_heart" 8 F_Party_at_heart := methOk_of At (fun Fd => fn_Party_at_heart Fd OT_Party D_at_heart_falling) (fun _ _ _ _ _ _ us hl => match us, hl with | [_, _, _], _ => rfl)
theorem mk_Party_at_heart_of {P : Program} {w : World} {K : PySem.W.Frag} {mg : Str → Option Value} {base : Heap} (At : MethAt K mg "Party" "at_heart" "Party.at_heart" s_Party_at_heart) (OT_Party : ObjT K mg "Party" fs_Party) (D_at_heart_falling : DefOk P w K mg base "at_heart_falling" 7 F_at_heart) : MethK P w K mg base "Party" "at_heart" 8 ["one", "other"] id F_Party_at_heart := methK_of At (fun Fd => fn_Party_at_heart Fd OT_Party D_at_heart_falling) (fun _ _ _ _ _ _ _ ws hl => match ws, hl with | [_, _], _ => rfl)

abbrev s_check_party : Stmt := top 73
abbrev N_check_party : List Str := ["value"]
abbrev ps_check_party : List Str := ["value"]
theorem sc_check_party : FnScope N_check_party ps_check_party (defScope s_check_party) := ⟨rfl, rfl, rfl, by decide +kernel, rfl, by decide +kernel, by decide +kernel⟩
def B_check_party : FS := (S.seq (S.ifs (Tt.not (Tt.val (E.isO "Party" (E.var 0)))) (S.seq (S.raise1 "NotAParty" "given" (E.var 0))
  S.nop) S.nop)
  S.nop)
def F_check_party : FM := mkM 1 1 B_check_party
theorem fn_check_party {P : Program} {w : World} {K : PySem.W.Frag} {mg : Str → Option Value} {base : Heap} {f : Addr} {fd : FuncData} (Fd : FunD K "check_party" "check_party" (defArgs s_check_party) (defBody s_check_party) (defScope s_check_party) [] [] f fd) (fr_isinstance : mg "isinstance" = none) (xt_NotAParty : ExcT P w K mg base "NotAParty" "given") (IS_Party : InsI K mg "Party") : FnOk P w K mg base (L2.CX P w) 3 f fd ps_check_party (spM ⟨K, mg⟩ F_check_party) := by
  refine def_fnM (N := N_check_party) (body := B_check_party) Fd sc_check_party (by decide) fun cdv A outer s H E hr => ?_
  have un := un_lt hr
  have un0 := un_lt0 hr
  exact (ds_cons (ds_if (dt_not (dt_val (de_isO IS_Party fr_isinstance (de_var 0)))) (ds_cons (ds_raise1 rfl xt_NotAParty (hr.mono (by decide)) (de_var 0))
  ds_nil) ds_nil)
  ds_nil)
theorem ok_check_party {P : Program} {w : World} {K : PySem.W.Frag} {mg : Str → Option Value} {base : Heap} (Fd : FunAt K mg "check_party" s_check_party) (fr_isinstance : mg "isinstance" = none) (xt_NotAParty : ExcT P w K mg base "NotAParty" "given") (IS_Party : InsI K mg "Party") : DefOkM P w K mg base "check_party" 3 F_check_party := by
  obtain ⟨f, fd, hm, Fd⟩ := Fd.ex
  exact ⟨⟨f, fd, ps_check_party, hm, Fd.kp, Fd.bindsN fun _ _ _ _ _ _ us hl => match us, hl with | [_], _ => rfl, fn_check_party Fd fr_isinstance xt_NotAParty IS_Party⟩⟩

abbrev s_copy_of : Stmt := top 74
abbrev N_copy_of : List Str := ["party", "found", "deed"]
abbrev ps_copy_of : List Str := ["party"]
theorem sc_copy_of : FnScope N_copy_of ps_copy_of (defScope s_copy_of) := ⟨rfl, rfl, rfl, by decide +kernel, rfl, by decide +kernel, by decide +kernel⟩
def B_copy_of : FS := (S.seq (S.set 1 (E.newX "Party" F_Party___init__ (· ++ []) (A.cons (E.fldO "Party" fs_Party "people" (E.var 0)) A.nil)))
  (S.seq (S.for_ (I.seq (E.fldO "Party" fs_Party "deeds" (E.var 0))) (.nm 2) (S.seq (S.expr (E.meth "Party" "do" F_Party_do (E.var 1) (A.cons (E.var 2) A.nil)))
  S.nop))
  (S.seq (S.ret (E.var 1))
  S.nop)))
def F_copy_of : FM := mkM 3 1 B_copy_of
theorem fn_copy_of {P : Program} {w : World} {K : PySem.W.Frag} {mg : Str → Option Value} {base : Heap} {f : Addr} {fd : FuncData} (Fd : FunD K "copy_of" "copy_of" (defArgs s_copy_of) (defBody s_copy_of) (defScope s_copy_of) [] [] f fd) (OT_Party : ObjT K mg "Party" fs_Party) (nd_Party : NewD P w K mg base "Party" 11 [] F_Party___init__) (mo_Party_do : MethOk P w K mg base "Party" "do" 15 F_Party_do) : FnOk P w K mg base (L2.CX P w) 16 f fd ps_copy_of (spM ⟨K, mg⟩ F_copy_of) := by
  refine def_fnM (N := N_copy_of) (body := B_copy_of) Fd sc_copy_of (by decide) fun cdv A outer s H E hr => ?_
  have un := un_lt hr
  have un0 := un_lt0 hr
  exact (ds_cons (ds_set 1 sc_copy_of.nd (de_newD nd_Party (hr.mono (by decide)) (da_cons (de_fldO OT_Party (de_var 0)) da_nil)))
  (ds_cons (ds_for rfl (di_seq (de_fldO OT_Party (de_var 0))) (dg_nm 2 sc_copy_of.nd) (ds_cons (ds_expr (de_meth mo_Party_do (hr.mono (by decide)) (de_var 1) (da_cons (de_var 2) da_nil)))
  ds_nil))
  (ds_cons (ds_ret (de_var 1))
  ds_nil)))
theorem ok_copy_of {P : Program} {w : World} {K : PySem.W.Frag} {mg : Str → Option Value} {base : Heap} (Fd : FunAt K mg "copy_of" s_copy_of) (OT_Party : ObjT K mg "Party" fs_Party) (nd_Party : NewD P w K mg base "Party" 11 [] F_Party___init__) (mo_Party_do : MethOk P w K mg base "Party" "do" 15 F_Party_do) : DefOkM P w K mg base "copy_of" 16 F_copy_of := by
  obtain ⟨f, fd, hm, Fd⟩ := Fd.ex
  exact ⟨⟨f, fd, ps_copy_of, hm, Fd.kp, Fd.bindsN fun _ _ _ _ _ _ us hl => match us, hl with | [_], _ => rfl, fn_copy_of Fd OT_Party nd_Party mo_Party_do⟩⟩

abbrev s_deed_in : Stmt := top 80
abbrev N_deed_in : List Str := ["word", "numbers"]
abbrev ps_deed_in : List Str := ["word", "numbers"]
theorem sc_deed_in : FnScope N_deed_in ps_deed_in (defScope s_deed_in) := ⟨rfl, rfl, rfl, by decide +kernel, rfl, by decide +kernel, by decide +kernel⟩
def B_deed_in : FS := (S.seq (S.ret (E.ite (Tt.val (E.bin eqD (E.var 0) (E.cst (.str "switch")))) (E.tup (A.cons (E.var 0) (A.cons (E.var 1) A.nil))) (E.tup (A.cons (E.var 0) (A.star (E.var 1) A.nil)))))
  S.nop)
def F_deed_in : List D → FO := mkF 2 2 B_deed_in
theorem fn_deed_in {P : Program} {w : World} {K : PySem.W.Frag} {mg : Str → Option Value} {base : Heap} {f : Addr} {fd : FuncData} (Fd : FunD K "deed_in" "deed_in" (defArgs s_deed_in) (defBody s_deed_in) (defScope s_deed_in) [] [] f fd) : FnOk P w K mg base (L2.CX P w) 1 f fd ps_deed_in (spD ⟨K, mg⟩ F_deed_in) := by
  refine def_fn (N := N_deed_in) (body := B_deed_in) Fd sc_deed_in (by decide) fun cdv A outer s H E hr => ?_
  have un := un_lt hr
  have un0 := un_lt0 hr
  exact (ds_cons (ds_ret (de_ite (dt_cmp (op_eqDD (un 64 (by decide))) (de_var 0) de_str) (de_tup (da_cons (de_var 0) (da_cons (de_var 1) da_nil))) (de_tup (da_cons (de_var 0) (da_star (de_var 1) da_nil)))))
  ds_nil)
theorem ok_deed_in {P : Program} {w : World} {K : PySem.W.Frag} {mg : Str → Option Value} {base : Heap} (Fd : FunAt K mg "deed_in" s_deed_in) : DefOk P w K mg base "deed_in" 1 F_deed_in := by
  obtain ⟨f, fd, hm, Fd⟩ := Fd.ex
  exact ⟨⟨f, fd, ps_deed_in, hm, Fd.kp, Fd.bindsN fun _ _ _ _ _ _ us hl => match us, hl with | [_, _], _ => rfl, fn_deed_in Fd ⟩⟩

abbrev s_said_of_deed : Stmt := top 81
abbrev N_said_of_deed : List Str := ["party", "deed", "barred"]
abbrev ps_said_of_deed : List Str := ["party", "deed"]
theorem sc_said_of_deed : FnScope N_said_of_deed ps_said_of_deed (defScope s_said_of_deed) := ⟨rfl, rfl, rfl, by decide +kernel, rfl, by decide +kernel, by decide +kernel⟩
def B_said_of_deed : FS := (S.seq (S.tryD errs (S.seq (S.expr (E.meth "Party" "do" F_Party_do (E.var 0) (A.cons (E.var 1) A.nil)))
  S.nop) (("InvalidDeed", none, (S.seq (S.ret (E.cst (.str "not understood")))
  S.nop)) :: (("Barred", some 2, (S.seq (S.ret (E.c1 (fldX errs "reason") (E.var 2)))
  S.nop)) :: [])))
  (S.seq (S.ret (E.cst (.str "done")))
  S.nop))
def F_said_of_deed : FM := mkM 3 2 B_said_of_deed
theorem fn_said_of_deed {P : Program} {w : World} {K : PySem.W.Frag} {mg : Str → Option Value} {base : Heap} {f : Addr} {fd : FuncData} (Fd : FunD K "said_of_deed" "said_of_deed" (defArgs s_said_of_deed) (defBody s_said_of_deed) (defScope s_said_of_deed) [] [] f fd) (gs_DONE : ∃ t, mg "DONE" = some (.str "done" t)) (gs_LOST : ∃ t, mg "LOST" = some (.str "not understood" t)) (ET : ErrAll errs flds K mg) (EX : ErrX K mg errs) (mo_Party_do : MethOk P w K mg base "Party" "do" 15 F_Party_do) : FnOk P w K mg base (L2.CX P w) 16 f fd ps_said_of_deed (spM ⟨K, mg⟩ F_said_of_deed) := by
  refine def_fnM (N := N_said_of_deed) (body := B_said_of_deed) Fd sc_said_of_deed (by decide) fun cdv A outer s H E hr => ?_
  have un := un_lt hr
  have un0 := un_lt0 hr
  exact (ds_cons (ds_tryD EX sc_said_of_deed.nd (HdsD.only rfl (by decide) (fun a pn => (ds_cons (ds_ret (de_gstr gs_LOST.choose_spec))
  ds_nil)) (HdsD.as rfl (by decide) rfl rfl (fun a pn => (ds_cons (ds_ret (de_fldX ET.t (ET.no "reason" (by decide)) (de_var 2)))
  ds_nil)) HdsD.nil)) (fun pn xe => (ds_cons (ds_expr (de_meth mo_Party_do (hr.mono (by decide)) (de_var 0) (da_cons (de_var 1) da_nil)))
  ds_nil)))
  (ds_cons (ds_ret (de_gstr gs_DONE.choose_spec))
  ds_nil))
theorem ok_said_of_deed {P : Program} {w : World} {K : PySem.W.Frag} {mg : Str → Option Value} {base : Heap} (Fd : FunAt K mg "said_of_deed" s_said_of_deed) (gs_DONE : ∃ t, mg "DONE" = some (.str "done" t)) (gs_LOST : ∃ t, mg "LOST" = some (.str "not understood" t)) (ET : ErrAll errs flds K mg) (EX : ErrX K mg errs) (mo_Party_do : MethOk P w K mg base "Party" "do" 15 F_Party_do) : DefOkM P w K mg base "said_of_deed" 16 F_said_of_deed := by
  obtain ⟨f, fd, hm, Fd⟩ := Fd.ex
  exact ⟨⟨f, fd, ps_said_of_deed, hm, Fd.kp, Fd.bindsN fun _ _ _ _ _ _ us hl => match us, hl with | [_, _], _ => rfl, fn_said_of_deed Fd gs_DONE gs_LOST ET EX mo_Party_do⟩⟩

abbrev s_said_of_undo : Stmt := top 82
abbrev N_said_of_undo : List Str := ["party"]
abbrev ps_said_of_undo : List Str := ["party"]
theorem sc_said_of_undo : FnScope N_said_of_undo ps_said_of_undo (defScope s_said_of_undo) := ⟨rfl, rfl, rfl, by decide +kernel, rfl, by decide +kernel, by decide +kernel⟩
def B_said_of_undo : FS := (S.seq (S.tryD errs (S.seq (S.expr (E.meth "Party" "undo" F_Party_undo (E.var 0) A.nil))
  S.nop) (("NothingToUndo", none, (S.seq (S.ret (E.cst (.str "nothing")))
  S.nop)) :: []))
  (S.seq (S.ret (E.cst (.str "done")))
  S.nop))
def F_said_of_undo : FM := mkM 1 1 B_said_of_undo
theorem fn_said_of_undo {P : Program} {w : World} {K : PySem.W.Frag} {mg : Str → Option Value} {base : Heap} {f : Addr} {fd : FuncData} (Fd : FunD K "said_of_undo" "said_of_undo" (defArgs s_said_of_undo) (defBody s_said_of_undo) (defScope s_said_of_undo) [] [] f fd) (gs_DONE : ∃ t, mg "DONE" = some (.str "done" t)) (gs_NOTHING : ∃ t, mg "NOTHING" = some (.str "nothing" t)) (EX : ErrX K mg errs) (mo_Party_undo : MethOk P w K mg base "Party" "undo" 3 F_Party_undo) : FnOk P w K mg base (L2.CX P w) 4 f fd ps_said_of_undo (spM ⟨K, mg⟩ F_said_of_undo) := by
  refine def_fnM (N := N_said_of_undo) (body := B_said_of_undo) Fd sc_said_of_undo (by decide) fun cdv A outer s H E hr => ?_
  have un := un_lt hr
  have un0 := un_lt0 hr
  exact (ds_cons (ds_tryD EX sc_said_of_undo.nd (HdsD.only rfl (by decide) (fun a pn => (ds_cons (ds_ret (de_gstr gs_NOTHING.choose_spec))
  ds_nil)) HdsD.nil) (fun pn xe => (ds_cons (ds_expr (de_meth0 mo_Party_undo (hr.mono (by decide)) (de_var 0)))
  ds_nil)))
  (ds_cons (ds_ret (de_gstr gs_DONE.choose_spec))
  ds_nil))
theorem ok_said_of_undo {P : Program} {w : World} {K : PySem.W.Frag} {mg : Str → Option Value} {base : Heap} (Fd : FunAt K mg "said_of_undo" s_said_of_undo) (gs_DONE : ∃ t, mg "DONE" = some (.str "done" t)) (gs_NOTHING : ∃ t, mg "NOTHING" = some (.str "nothing" t)) (EX : ErrX K mg errs) (mo_Party_undo : MethOk P w K mg base "Party" "undo" 3 F_Party_undo) : DefOkM P w K mg base "said_of_undo" 4 F_said_of_undo := by
  obtain ⟨f, fd, hm, Fd⟩ := Fd.ex
  exact ⟨⟨f, fd, ps_said_of_undo, hm, Fd.kp, Fd.bindsN fun _ _ _ _ _ _ us hl => match us, hl with | [_], _ => rfl, fn_said_of_undo Fd gs_DONE gs_NOTHING EX mo_Party_undo⟩⟩

abbrev s_said_of_heart : Stmt := top 83
abbrev N_said_of_heart : List Str := ["party", "one", "other"]
abbrev ps_said_of_heart : List Str := ["party", "one", "other"]
theorem sc_said_of_heart : FnScope N_said_of_heart ps_said_of_heart (defScope s_said_of_heart) := ⟨rfl, rfl, rfl, by decide +kernel, rfl, by decide +kernel, by decide +kernel⟩
def B_said_of_heart : FS := (S.seq (S.ifs (Tt.or (Tt.not (Tt.val (E.call F_is_person (A.cons (E.fldO "Party" fs_Party "web" (E.var 0)) (A.cons (E.var 1) A.nil))))) (Tt.or (Tt.not (Tt.val (E.call F_is_person (A.cons (E.fldO "Party" fs_Party "web" (E.var 0)) (A.cons (E.var 2) A.nil))))) (Tt.val (E.bin eqD (E.var 1) (E.var 2))))) (S.seq (S.ret (E.cst (.str "none")))
  S.nop) S.nop)
  (S.seq (S.ret (E.meth "Party" "at_heart" F_Party_at_heart (E.var 0) (A.cons (E.var 1) (A.cons (E.var 2) A.nil))))
  S.nop))
def F_said_of_heart : FM := mkM 3 3 B_said_of_heart
theorem fn_said_of_heart {P : Program} {w : World} {K : PySem.W.Frag} {mg : Str → Option Value} {base : Heap} {f : Addr} {fd : FuncData} (Fd : FunD K "said_of_heart" "said_of_heart" (defArgs s_said_of_heart) (defBody s_said_of_heart) (defScope s_said_of_heart) [] [] f fd) (D_is_person : DefOk P w K mg base "is_person" 3 F_is_person) (gs_NONE_consoles : ∃ t, mg "NONE_consoles" = some (.str "none" t)) (OT_Party : ObjT K mg "Party" fs_Party) (mo_Party_at_heart : MethOk P w K mg base "Party" "at_heart" 8 F_Party_at_heart) : FnOk P w K mg base (L2.CX P w) 9 f fd ps_said_of_heart (spM ⟨K, mg⟩ F_said_of_heart) := by
  refine def_fnM (N := N_said_of_heart) (body := B_said_of_heart) Fd sc_said_of_heart (by decide) fun cdv A outer s H E hr => ?_
  have un := un_lt hr
  have un0 := un_lt0 hr
  exact (ds_cons (ds_if (dw_or (dt_not (dt_val (de_call D_is_person (hr.mono (by decide)) (da_cons (de_fldO OT_Party (de_var 0)) (da_cons (de_var 1) da_nil))))) (dw_or (dt_not (dt_val (de_call D_is_person (hr.mono (by decide)) (da_cons (de_fldO OT_Party (de_var 0)) (da_cons (de_var 2) da_nil))))) (dw_or1 (dt_cmp (op_eqDD (un 64 (by decide))) (de_var 1) (de_var 2))))).dt (ds_cons (ds_ret (de_gstr gs_NONE_consoles.choose_spec))
  ds_nil) ds_nil)
  (ds_cons (ds_ret (de_meth mo_Party_at_heart (hr.mono (by decide)) (de_var 0) (da_cons (de_var 1) (da_cons (de_var 2) da_nil))))
  ds_nil))
theorem ok_said_of_heart {P : Program} {w : World} {K : PySem.W.Frag} {mg : Str → Option Value} {base : Heap} (Fd : FunAt K mg "said_of_heart" s_said_of_heart) (D_is_person : DefOk P w K mg base "is_person" 3 F_is_person) (gs_NONE_consoles : ∃ t, mg "NONE_consoles" = some (.str "none" t)) (OT_Party : ObjT K mg "Party" fs_Party) (mo_Party_at_heart : MethOk P w K mg base "Party" "at_heart" 8 F_Party_at_heart) : DefOkM P w K mg base "said_of_heart" 9 F_said_of_heart := by
  obtain ⟨f, fd, hm, Fd⟩ := Fd.ex
  exact ⟨⟨f, fd, ps_said_of_heart, hm, Fd.kp, Fd.bindsN fun _ _ _ _ _ _ us hl => match us, hl with | [_, _, _], _ => rfl, fn_said_of_heart Fd D_is_person gs_NONE_consoles OT_Party mo_Party_at_heart⟩⟩

abbrev s_said_of_camp : Stmt := top 84
abbrev N_said_of_camp : List Str := ["party", "camp", "person"]
abbrev ps_said_of_camp : List Str := ["party"]
theorem sc_said_of_camp : FnScope N_said_of_camp ps_said_of_camp (defScope s_said_of_camp) := ⟨rfl, rfl, rfl, by decide +kernel, rfl, by decide +kernel, by decide +kernel⟩
def B_said_of_camp : FS := (S.seq (S.set 1 (E.meth "Party" "camp" F_Party_camp (E.var 0) A.nil))
  (S.seq (S.ret (E.ite (Tt.val (E.bin neD (E.var 1) (E.tup A.nil))) (E.sm joinD (E.cst (.str " ")) (E.fz (E.lc (I.seq (E.var 1)) (.nm 2) [2] Tt.yes (E.c1 strD (E.var 2))))) (E.cst (.str "none"))))
  S.nop))
def F_said_of_camp : FM := mkM 3 1 B_said_of_camp
theorem fn_said_of_camp {P : Program} {w : World} {K : PySem.W.Frag} {mg : Str → Option Value} {base : Heap} {f : Addr} {fd : FuncData} (Fd : FunD K "said_of_camp" "said_of_camp" (defArgs s_said_of_camp) (defBody s_said_of_camp) (defScope s_said_of_camp) [] [] f fd) (fr_str : mg "str" = none) (gs_NONE_consoles : ∃ t, mg "NONE_consoles" = some (.str "none" t)) (mo_Party_camp : MethOk P w K mg base "Party" "camp" 4 F_Party_camp) : FnOk P w K mg base (L2.CX P w) 5 f fd ps_said_of_camp (spM ⟨K, mg⟩ F_said_of_camp) := by
  refine def_fnM (N := N_said_of_camp) (body := B_said_of_camp) Fd sc_said_of_camp (by decide) fun cdv A outer s H E hr => ?_
  have un := un_lt hr
  have un0 := un_lt0 hr
  exact (ds_cons (ds_set 1 sc_said_of_camp.nd (de_meth0 mo_Party_camp (hr.mono (by decide)) (de_var 0)))
  (ds_cons (ds_ret (de_ite (dt_cmp (op_neDD (un 64 (by decide))) (de_var 1) (de_tup da_nil)) (de_join de_str (df_lc (own := [("person", 2)]) rfl sc_said_of_camp.nd (di_seq (de_var 1)) (show BlkOk N_said_of_camp (defScope s_said_of_camp) _ _ from blkOk_by (by decide +kernel)) (by decide) (fun s H C cl fp => (dg_nm 2 sc_said_of_camp.nd)) (fun s H C cl fp => dts_nil) (fun s H C cl fp => (de_t1 c_str fr_str (by decide +kernel) (de_var 2)))).de) (de_gstr gs_NONE_consoles.choose_spec)))
  ds_nil))
theorem ok_said_of_camp {P : Program} {w : World} {K : PySem.W.Frag} {mg : Str → Option Value} {base : Heap} (Fd : FunAt K mg "said_of_camp" s_said_of_camp) (fr_str : mg "str" = none) (gs_NONE_consoles : ∃ t, mg "NONE_consoles" = some (.str "none" t)) (mo_Party_camp : MethOk P w K mg base "Party" "camp" 4 F_Party_camp) : DefOkM P w K mg base "said_of_camp" 5 F_said_of_camp := by
  obtain ⟨f, fd, hm, Fd⟩ := Fd.ex
  exact ⟨⟨f, fd, ps_said_of_camp, hm, Fd.kp, Fd.bindsN fun _ _ _ _ _ _ us hl => match us, hl with | [_], _ => rfl, fn_said_of_camp Fd fr_str gs_NONE_consoles mo_Party_camp⟩⟩

abbrev s_said_of_word : Stmt := top 85
abbrev N_said_of_word : List Str := ["party", "word"]
abbrev ps_said_of_word : List Str := ["party", "word"]
theorem sc_said_of_word : FnScope N_said_of_word ps_said_of_word (defScope s_said_of_word) := ⟨rfl, rfl, rfl, by decide +kernel, rfl, by decide +kernel, by decide +kernel⟩
def B_said_of_word : FS := (S.seq (S.ifs (Tt.val (E.bin eqD (E.var 1) (E.cst (.str "undo")))) (S.seq (S.ret (E.callM F_said_of_undo (A.cons (E.var 0) A.nil)))
  S.nop) S.nop)
  (S.seq (S.ifs (Tt.val (E.bin eqD (E.var 1) (E.cst (.str "camp")))) (S.seq (S.ret (E.callM F_said_of_camp (A.cons (E.var 0) A.nil)))
  S.nop) S.nop)
  (S.seq (S.ifs (Tt.val (E.bin eqD (E.var 1) (E.cst (.str "ties")))) (S.seq (S.ret (E.c1 strD (E.c1 lenD (E.call F_ties_by (A.cons (E.fldO "Party" fs_Party "web" (E.var 0)) A.nil)))))
  S.nop) S.nop)
  (S.seq (S.ifs (Tt.val (E.bin eqD (E.var 1) (E.cst (.str "camps")))) (S.seq (S.ret (E.c1 strD (E.call F_count_camps_by (A.cons (E.fldO "Party" fs_Party "web" (E.var 0)) A.nil))))
  S.nop) S.nop)
  (S.seq (S.ret (E.cst (.str "not understood")))
  S.nop)))))
def F_said_of_word : FM := mkM 2 2 B_said_of_word
theorem fn_said_of_word {P : Program} {w : World} {K : PySem.W.Frag} {mg : Str → Option Value} {base : Heap} {f : Addr} {fd : FuncData} (Fd : FunD K "said_of_word" "said_of_word" (defArgs s_said_of_word) (defBody s_said_of_word) (defScope s_said_of_word) [] [] f fd) (D_said_of_undo : DefOkM P w K mg base "said_of_undo" 4 F_said_of_undo) (D_said_of_camp : DefOkM P w K mg base "said_of_camp" 5 F_said_of_camp) (D_ties_by : DefOk P w K mg base "ties_by" 1 F_ties_by) (D_count_camps_by : DefOk P w K mg base "count_camps_by" 6 F_count_camps_by) (fr_str : mg "str" = none) (fr_len : mg "len" = none) (gs_LOST : ∃ t, mg "LOST" = some (.str "not understood" t)) (OT_Party : ObjT K mg "Party" fs_Party) : FnOk P w K mg base (L2.CX P w) 7 f fd ps_said_of_word (spM ⟨K, mg⟩ F_said_of_word) := by
  refine def_fnM (N := N_said_of_word) (body := B_said_of_word) Fd sc_said_of_word (by decide) fun cdv A outer s H E hr => ?_
  have un := un_lt hr
  have un0 := un_lt0 hr
  exact (ds_cons (ds_if (dt_cmp (op_eqDD (un 64 (by decide))) (de_var 1) de_str) (ds_cons (ds_ret (de_callM D_said_of_undo (hr.mono (by decide)) (da_cons (de_var 0) da_nil)))
  ds_nil) ds_nil)
  (ds_cons (ds_if (dt_cmp (op_eqDD (un 64 (by decide))) (de_var 1) de_str) (ds_cons (ds_ret (de_callM D_said_of_camp (hr.mono (by decide)) (da_cons (de_var 0) da_nil)))
  ds_nil) ds_nil)
  (ds_cons (ds_if (dt_cmp (op_eqDD (un 64 (by decide))) (de_var 1) de_str) (ds_cons (ds_ret (de_t1 c_str fr_str (by decide +kernel) (de_b1 c_len fr_len (by decide +kernel) (de_call D_ties_by (hr.mono (by decide)) (da_cons (de_fldO OT_Party (de_var 0)) da_nil)))))
  ds_nil) ds_nil)
  (ds_cons (ds_if (dt_cmp (op_eqDD (un 64 (by decide))) (de_var 1) de_str) (ds_cons (ds_ret (de_t1 c_str fr_str (by decide +kernel) (de_call D_count_camps_by (hr.mono (by decide)) (da_cons (de_fldO OT_Party (de_var 0)) da_nil))))
  ds_nil) ds_nil)
  (ds_cons (ds_ret (de_gstr gs_LOST.choose_spec))
  ds_nil)))))
theorem ok_said_of_word {P : Program} {w : World} {K : PySem.W.Frag} {mg : Str → Option Value} {base : Heap} (Fd : FunAt K mg "said_of_word" s_said_of_word) (D_said_of_undo : DefOkM P w K mg base "said_of_undo" 4 F_said_of_undo) (D_said_of_camp : DefOkM P w K mg base "said_of_camp" 5 F_said_of_camp) (D_ties_by : DefOk P w K mg base "ties_by" 1 F_ties_by) (D_count_camps_by : DefOk P w K mg base "count_camps_by" 6 F_count_camps_by) (fr_str : mg "str" = none) (fr_len : mg "len" = none) (gs_LOST : ∃ t, mg "LOST" = some (.str "not understood" t)) (OT_Party : ObjT K mg "Party" fs_Party) : DefOkM P w K mg base "said_of_word" 7 F_said_of_word := by
  obtain ⟨f, fd, hm, Fd⟩ := Fd.ex
  exact ⟨⟨f, fd, ps_said_of_word, hm, Fd.kp, Fd.bindsN fun _ _ _ _ _ _ us hl => match us, hl with | [_, _], _ => rfl, fn_said_of_word Fd D_said_of_undo D_said_of_camp D_ties_by D_count_camps_by fr_str fr_len gs_LOST OT_Party⟩⟩

abbrev s_Console___init__ : Stmt := meth 86 0
abbrev N_Console___init__ : List Str := ["self", "party"]
abbrev ps_Console___init__ : List Str := ["self", "party"]
theorem sc_Console___init__ : FnScope N_Console___init__ ps_Console___init__ (defScope s_Console___init__) := ⟨rfl, rfl, rfl, by decide +kernel, rfl, by decide +kernel, by decide +kernel⟩
def B_Console___init__ : FS := (S.seq (S.expr (E.callM F_check_party (A.cons (E.var 1) A.nil)))
  (S.seq (S.fld "Console" fs_Console "party" (E.var 0) (E.callM F_copy_of (A.cons (E.var 1) A.nil)))
  S.nop))
def F_Console___init__ : FM := mkM 2 2 B_Console___init__
theorem fn_Console___init__ {P : Program} {w : World} {K : PySem.W.Frag} {mg : Str → Option Value} {base : Heap} {f : Addr} {fd : FuncData} {dvs : List V} (Fd : FunD K "__init__" "Console.__init__" (defArgs s_Console___init__) (defBody s_Console___init__) (defScope s_Console___init__) dvs [] f fd) (D_check_party : DefOkM P w K mg base "check_party" 3 F_check_party) (D_copy_of : DefOkM P w K mg base "copy_of" 16 F_copy_of) (OT_Console : ObjT K mg "Console" fs_Console) : FnOk P w K mg base (L2.CX P w) 17 f fd ps_Console___init__ (spM ⟨K, mg⟩ F_Console___init__) := by
  refine def_fnM (N := N_Console___init__) (body := B_Console___init__) Fd sc_Console___init__ (by decide) fun cdv A outer s H E hr => ?_
  have un := un_lt hr
  have un0 := un_lt0 hr
  exact (ds_cons (ds_expr (de_callM D_check_party (hr.mono (by decide)) (da_cons (de_var 1) da_nil)))
  (ds_cons (ds_fld OT_Console (de_var 0) (de_callM D_copy_of (hr.mono (by decide)) (da_cons (de_var 1) da_nil)))
  ds_nil))
theorem nd_Console_of {P : Program} {w : World} {K : PySem.W.Frag} {mg : Str → Option Value} {base : Heap} (At : InitAt K mg "Console" "Console.__init__" s_Console___init__ []) (D_check_party : DefOkM P w K mg base "check_party" 3 F_check_party) (D_copy_of : DefOkM P w K mg base "copy_of" 16 F_copy_of) (OT_Console : ObjT K mg "Console" fs_Console) : NewD P w K mg base "Console" 17 [] F_Console___init__ := newD_of At (fun Fd => fn_Console___init__ Fd D_check_party D_copy_of OT_Console) (fun _ _ _ _ _ _ us hl => match us, hl with | [_, _], _ => rfl)
theorem nk_Console_of {P : Program} {w : World} {K : PySem.W.Frag} {mg : Str → Option Value} {base : Heap} (At : InitAt K mg "Console" "Console.__init__" s_Console___init__ []) (D_check_party : DefOkM P w K mg base "check_party" 3 F_check_party) (D_copy_of : DefOkM P w K mg base "copy_of" 16 F_copy_of) (OT_Console : ObjT K mg "Console" fs_Console) : NewK P w K mg base "Console" 17 ["party"] id F_Console___init__ := newK_of At (fun Fd => fn_Console___init__ Fd D_check_party D_copy_of OT_Console) (fun _ _ _ _ _ _ _ ws hl => match ws, hl with | [_], _ => rfl)

abbrev s_Console_say : Stmt := meth 86 1
abbrev N_Console_say : List Str := ["self", "line", "words", "numbers"]
abbrev ps_Console_say : List Str := ["self", "line"]
theorem sc_Console_say : FnScope N_Console_say ps_Console_say (defScope s_Console_say) := ⟨rfl, rfl, rfl, by decide +kernel, rfl, by decide +kernel, by decide +kernel⟩
def B_Console_say : FS := (S.seq (S.ifs (Tt.not (Tt.val (E.call F_is_string (A.cons (E.var 1) A.nil)))) (S.seq (S.raise1 "InvalidLine" "given" (E.var 1))
  S.nop) S.nop)
  (S.seq (S.set 2 (E.call F_words_of (A.cons (E.var 1) A.nil)))
  (S.seq (S.set 3 (E.ite (Tt.val (E.bin ntND (E.var 2) (E.cst .non))) (E.call F_numbers_in (A.cons (E.sl (E.var 2) (P.at (E.cst (.int 1))) P.no) A.nil)) (E.cst .non)))
  (S.seq (S.ifs (Tt.val (E.bin isND (E.var 3) (E.cst .non))) (S.seq (S.ret (E.cst (.str "not understood")))
  S.nop) S.nop)
  (S.seq (S.ifs (Tt.val (E.bin eqD (E.var 2) (E.fz (E.lst (A.cons (E.cst (.str "foes")) A.nil))))) (S.seq (S.ret (E.c1 strD (E.c1 lenD (E.c1 (fldD "foes") (E.fldO "Party" fs_Party "web" (E.fldO "Console" fs_Console "party" (E.var 0)))))))
  S.nop) S.nop)
  (S.seq (S.ifs (Tt.val (E.c1 (ginD tbl_SIZES) (E.bin ixD (E.var 2) (E.cst (.int 0))))) (S.seq (S.ret (E.callM F_said_of_deed (A.cons (E.fldO "Console" fs_Console "party" (E.var 0)) (A.cons (E.call F_deed_in (A.cons (E.bin ixD (E.var 2) (E.cst (.int 0))) (A.cons (E.var 3) A.nil))) A.nil))))
  S.nop) S.nop)
  (S.seq (S.ifs (Tt.and (Tt.val (E.bin eqD (E.bin ixD (E.var 2) (E.cst (.int 0))) (E.cst (.str "heart")))) (Tt.val (E.bin eqD (E.c1 lenD (E.var 3)) (E.cst (.int 2))))) (S.seq (S.ret (E.callM F_said_of_heart (A.cons (E.fldO "Console" fs_Console "party" (E.var 0)) (A.cons (E.bin ixD (E.var 3) (E.cst (.int 0))) (A.cons (E.bin ixD (E.var 3) (E.cst (.int 1))) A.nil)))))
  S.nop) S.nop)
  (S.seq (S.ret (E.ite (Tt.val (E.bin eqD (E.c1 lenD (E.var 2)) (E.cst (.int 1)))) (E.callM F_said_of_word (A.cons (E.fldO "Console" fs_Console "party" (E.var 0)) (A.cons (E.bin ixD (E.var 2) (E.cst (.int 0))) A.nil))) (E.cst (.str "not understood"))))
  S.nop))))))))
def F_Console_say : FM := mkM 4 2 B_Console_say
theorem fn_Console_say {P : Program} {w : World} {K : PySem.W.Frag} {mg : Str → Option Value} {base : Heap} {f : Addr} {fd : FuncData} (Fd : FunD K "say" "Console.say" (defArgs s_Console_say) (defBody s_Console_say) (defScope s_Console_say) [] [] f fd) (D_is_string : DefOk P w K mg base "is_string" 1 F_is_string) (D_words_of : DefOk P w K mg base "words_of" 1 F_words_of) (D_numbers_in : DefOk P w K mg base "numbers_in" 3 F_numbers_in) (D_said_of_deed : DefOkM P w K mg base "said_of_deed" 16 F_said_of_deed) (D_deed_in : DefOk P w K mg base "deed_in" 1 F_deed_in) (D_said_of_heart : DefOkM P w K mg base "said_of_heart" 9 F_said_of_heart) (D_said_of_word : DefOkM P w K mg base "said_of_word" 7 F_said_of_word) (fr_str : mg "str" = none) (fr_len : mg "len" = none) (gs_LOST : ∃ t, mg "LOST" = some (.str "not understood" t)) (xt_InvalidLine : ExcT P w K mg base "InvalidLine" "given") (OT_Console : ObjT K mg "Console" fs_Console) (OT_Party : ObjT K mg "Party" fs_Party) (WT : WebT K mg) (gd_SIZES : GDictM w K mg "SIZES" tbl_SIZES) : FnOk P w K mg base (L2.CX P w) 17 f fd ps_Console_say (spM ⟨K, mg⟩ F_Console_say) := by
  refine def_fnM (N := N_Console_say) (body := B_Console_say) Fd sc_Console_say (by decide) fun cdv A outer s H E hr => ?_
  have un := un_lt hr
  have un0 := un_lt0 hr
  exact (ds_cons (ds_if (dt_not (dt_val (de_call D_is_string (hr.mono (by decide)) (da_cons (de_var 1) da_nil)))) (ds_cons (ds_raise1 rfl xt_InvalidLine (hr.mono (by decide)) (de_var 1))
  ds_nil) ds_nil)
  (ds_cons (ds_set 2 sc_Console_say.nd (de_call D_words_of (hr.mono (by decide)) (da_cons (de_var 1) da_nil)))
  (ds_cons (ds_set 3 sc_Console_say.nd (de_ite (dt_cmp op_ntND (de_var 2) de_non) (de_call D_numbers_in (hr.mono (by decide)) (da_cons (de_sl (de_var 2) (dp_at de_int) dp_no) da_nil)) de_non))
  (ds_cons (ds_if (dt_cmp op_isND (de_var 3) de_non) (ds_cons (ds_ret (de_gstr gs_LOST.choose_spec))
  ds_nil) ds_nil)
  (ds_cons (ds_if (dt_cmp (op_eqDD (un 64 (by decide))) (de_var 2) (df_lst (da_cons de_str da_nil)).de) (ds_cons (ds_ret (de_t1 c_str fr_str (by decide +kernel) (de_b1 c_len fr_len (by decide +kernel) (de_fld WT (de_fldO OT_Party (de_fldO OT_Console (de_var 0)))))))
  ds_nil) ds_nil)
  (ds_cons (ds_if (dt_gin gd_SIZES.x (de_ix (un 1 (by decide)) (de_var 2) de_int)) (ds_cons (ds_ret (de_callM D_said_of_deed (hr.mono (by decide)) (da_cons (de_fldO OT_Console (de_var 0)) (da_cons (de_call D_deed_in (hr.mono (by decide)) (da_cons (de_ix (un 1 (by decide)) (de_var 2) de_int) (da_cons (de_var 3) da_nil))) da_nil))))
  ds_nil) ds_nil)
  (ds_cons (ds_if (dw_and (dt_cmp (op_eqDD (un 64 (by decide))) (de_ix (un 1 (by decide)) (de_var 2) de_int) de_str) (dw_and1 (dt_cmp (op_eqDD (un 64 (by decide))) (de_b1 c_len fr_len (by decide +kernel) (de_var 3)) de_int))).dt (ds_cons (ds_ret (de_callM D_said_of_heart (hr.mono (by decide)) (da_cons (de_fldO OT_Console (de_var 0)) (da_cons (de_ix (un 1 (by decide)) (de_var 3) de_int) (da_cons (de_ix (un 1 (by decide)) (de_var 3) de_int) da_nil)))))
  ds_nil) ds_nil)
  (ds_cons (ds_ret (de_ite (dt_cmp (op_eqDD (un 64 (by decide))) (de_b1 c_len fr_len (by decide +kernel) (de_var 2)) de_int) (de_callM D_said_of_word (hr.mono (by decide)) (da_cons (de_fldO OT_Console (de_var 0)) (da_cons (de_ix (un 1 (by decide)) (de_var 2) de_int) da_nil))) (de_gstr gs_LOST.choose_spec)))
  ds_nil))))))))
theorem mo_Console_say_of {P : Program} {w : World} {K : PySem.W.Frag} {mg : Str → Option Value} {base : Heap} (At : MethAt K mg "Console" "say" "Console.say" s_Console_say) (D_is_string : DefOk P w K mg base "is_string" 1 F_is_string) (D_words_of : DefOk P w K mg base "words_of" 1 F_words_of) (D_numbers_in : DefOk P w K mg base "numbers_in" 3 F_numbers_in) (D_said_of_deed : DefOkM P w K mg base "said_of_deed" 16 F_said_of_deed) (D_deed_in : DefOk P w K mg base "deed_in" 1 F_deed_in) (D_said_of_heart : DefOkM P w K mg base "said_of_heart" 9 F_said_of_heart) (D_said_of_word : DefOkM P w K mg base "said_of_word" 7 F_said_of_word) (fr_str : mg "str" = none) (fr_len : mg "len" = none) (gs_LOST : ∃ t, mg "LOST" = some (.str "not understood" t)) (xt_InvalidLine : ExcT P w K mg base "InvalidLine" "given") (OT_Console : ObjT K mg "Console" fs_Console) (OT_Party : ObjT K mg "Party" fs_Party) (WT : WebT K mg) (gd_SIZES : GDictM w K mg "SIZES" tbl_SIZES) : MethOk P w K mg base "Console" "say" 17 F_Console_say := methOk_of At (fun Fd => fn_Console_say Fd D_is_string D_words_of D_numbers_in D_said_of_deed D_deed_in D_said_of_heart D_said_of_word fr_str fr_len gs_LOST xt_InvalidLine OT_Console OT_Party WT gd_SIZES) (fun _ _ _ _ _ _ us hl => match us, hl with | [_, _], _ => rfl)
theorem mk_Console_say_of {P : Program} {w : World} {K : PySem.W.Frag} {mg : Str → Option Value} {base : Heap} (At : MethAt K mg "Console" "say" "Console.say" s_Console_say) (D_is_string : DefOk P w K mg base "is_string" 1 F_is_string) (D_words_of : DefOk P w K mg base "words_of" 1 F_words_of) (D_numbers_in : DefOk P w K mg base "numbers_in" 3 F_numbers_in) (D_said_of_deed : DefOkM P w K mg base "said_of_deed" 16 F_said_of_deed) (D_deed_in : DefOk P w K mg base "deed_in" 1 F_deed_in) (D_said_of_heart : DefOkM P w K mg base "said_of_heart" 9 F_said_of_heart) (D_said_of_word : DefOkM P w K mg base "said_of_word" 7 F_said_of_word) (fr_str : mg "str" = none) (fr_len : mg "len" = none) (gs_LOST : ∃ t, mg "LOST" = some (.str "not understood" t)) (xt_InvalidLine : ExcT P w K mg base "InvalidLine" "given") (OT_Console : ObjT K mg "Console" fs_Console) (OT_Party : ObjT K mg "Party" fs_Party) (WT : WebT K mg) (gd_SIZES : GDictM w K mg "SIZES" tbl_SIZES) : MethK P w K mg base "Console" "say" 17 ["line"] id F_Console_say := methK_of At (fun Fd => fn_Console_say Fd D_is_string D_words_of D_numbers_in D_said_of_deed D_deed_in D_said_of_heart D_said_of_word fr_str fr_len gs_LOST xt_InvalidLine OT_Console OT_Party WT gd_SIZES) (fun _ _ _ _ _ _ _ ws hl => match ws, hl with | [_], _ => rfl)

abbrev s__law_pool : Stmt := top 88
abbrev N__law_pool : List Str := ["script", "k", "cell", "mixed", "wide", "each"]
abbrev ps__law_pool : List Str := ["script", "k"]
theorem sc__law_pool : FnScope N__law_pool ps__law_pool (defScope s__law_pool) := ⟨rfl, rfl, rfl, by decide +kernel, rfl, by decide +kernel, by decide +kernel⟩
def B__law_pool : FS := (S.seq (S.par [2, 3] (A.cons (E.c1 sumD (E.sl (E.var 0) (P.at (E.var 1)) (P.at (E.bin addD (E.var 1) (E.cst (.int 1)))))) (A.cons (E.bin addD (E.cst (.int 50021)) (E.bin mulD (E.cst (.int 977)) (E.var 1))) A.nil)))
  (S.seq (S.set 4 (E.bin mulW (E.bin mulW (E.bin mulW (E.bin mulW (E.bin mulW (E.bin powD (E.cst (.int 10)) (E.cst (.int 64))) (E.bin powD (E.cst (.int 10)) (E.cst (.int 64)))) (E.bin powD (E.cst (.int 10)) (E.cst (.int 64)))) (E.bin powD (E.cst (.int 10)) (E.cst (.int 64)))) (E.bin powD (E.cst (.int 10)) (E.cst (.int 64)))) (E.bin powD (E.cst (.int 10)) (E.cst (.int 64)))))
  (S.seq (S.for_ (I.seq (E.sl (E.var 0) P.no (P.at (E.cst (.int 12))))) (.nm 5) (S.seq (S.set 3 (E.bin modD (E.bin addD (E.bin addD (E.bin mulD (E.var 3) (E.cst (.int 48271))) (E.bin mulD (E.bin modD (E.var 5) (E.cst (.int 2147483399))) (E.cst (.int 19)))) (E.cst (.int 7))) (E.cst (.int 2147483399))))
  S.nop))
  (S.seq (S.ret (E.mk (E.lst (A.cons (E.ite (Tt.or (Tt.val (E.bin ltD (E.var 2) (E.cst (.int 0)))) (Tt.val (E.bin geD (E.var 2) (E.bin powD (E.cst (.int 10)) (E.cst (.int 18)))))) (E.bin modD (E.c1 absD (E.var 2)) (E.var 4)) (E.cst (.int 0))) (A.cons (E.var 3) (A.cons (E.cst (.int 0)) A.nil))))))
  S.nop))))
def F__law_pool : FM := mkM 6 2 B__law_pool
theorem fn__law_pool {P : Program} {w : World} {K : PySem.W.Frag} {mg : Str → Option Value} {base : Heap} {f : Addr} {fd : FuncData} (Fd : FunD K "_law_pool" "_law_pool" (defArgs s__law_pool) (defBody s__law_pool) (defScope s__law_pool) [] [] f fd) (fr_sum : mg "sum" = none) (fr_abs : mg "abs" = none) : FnOk P w K mg base (L2.CX P w) 1 f fd ps__law_pool (spM ⟨K, mg⟩ F__law_pool) := by
  refine def_fnM (N := N__law_pool) (body := B__law_pool) Fd sc__law_pool (by decide) fun cdv A outer s H E hr => ?_
  have un := un_lt hr
  have un0 := un_lt0 hr
  exact (ds_cons (ds_par 2 3 rfl sc__law_pool.nd (da_cons (de_b1 (c_sum rfl) fr_sum (by decide +kernel) (de_sl (de_var 0) (dp_at (de_var 1)) (dp_at (de_bin op_addD (de_var 1) de_int)))) (da_cons (de_bin op_addD de_int (de_bin op_mulD de_int (de_var 1))) da_nil)))
  (ds_cons (ds_set 4 sc__law_pool.nd (de_bin op_mulWD (de_bin op_mulWD (de_bin op_mulWD (de_bin op_mulWD (de_bin op_mulWD (de_bin op_powD de_int de_int) (de_bin op_powD de_int de_int)) (de_bin op_powD de_int de_int)) (de_bin op_powD de_int de_int)) (de_bin op_powD de_int de_int)) (de_bin op_powD de_int de_int)))
  (ds_cons (ds_for rfl (di_seq (de_sl (de_var 0) dp_no (dp_at de_int))) (dg_nm 5 sc__law_pool.nd) (ds_cons (ds_set 3 sc__law_pool.nd (de_bin op_modD (de_bin op_addD (de_bin op_addD (de_bin op_mulD (de_var 3) de_int) (de_bin op_mulD (de_bin op_modD (de_var 5) de_int) de_int)) de_int) de_int))
  ds_nil))
  (ds_cons (ds_ret (df_lst (da_cons (de_ite (dw_or (dt_cmp (op_ltD un0) (de_var 2) de_int) (dw_or1 (dt_cmp op_geD (de_var 2) (de_bin op_powD de_int de_int)))).dt (de_bin op_modD (de_b1 c_abs fr_abs (by decide +kernel) (de_var 2)) (de_var 4)) de_int) (da_cons (de_var 3) (da_cons de_int da_nil)))).dm)
  ds_nil))))
theorem ok__law_pool {P : Program} {w : World} {K : PySem.W.Frag} {mg : Str → Option Value} {base : Heap} (Fd : FunAt K mg "_law_pool" s__law_pool) (fr_sum : mg "sum" = none) (fr_abs : mg "abs" = none) : DefOkM P w K mg base "_law_pool" 1 F__law_pool := by
  obtain ⟨f, fd, hm, Fd⟩ := Fd.ex
  exact ⟨⟨f, fd, ps__law_pool, hm, Fd.kp, Fd.bindsN fun _ _ _ _ _ _ us hl => match us, hl with | [_, _], _ => rfl, fn__law_pool Fd fr_sum fr_abs⟩⟩

abbrev s__law_take : Stmt := top 89
abbrev N__law_take : List Str := ["pool", "many", "digit", "stirred"]
abbrev ps__law_take : List Str := ["pool", "many"]
theorem sc__law_take : FnScope N__law_take ps__law_take (defScope s__law_take) := ⟨rfl, rfl, rfl, by decide +kernel, rfl, by decide +kernel, by decide +kernel⟩
def B__law_take : FS := (S.seq (S.ifs (Tt.val (E.bin gtD (E.bin ixD (E.var 0) (E.cst (.int 0))) (E.cst (.int 0)))) (S.seq (S.asg (.tp [(.six 0 0), (.nm 2)]) (E.cb dvmD (A.cons (E.bin ixD (E.var 0) (E.cst (.int 0))) (A.cons (E.var 1) A.nil))))
  (S.seq (S.ret (E.var 2))
  S.nop)) S.nop)
  (S.seq (S.asg (.six 0 2) (E.bin addD (E.bin ixD (E.var 0) (E.cst (.int 2))) (E.cst (.int 1))))
  (S.seq (S.set 3 (E.bin modD (E.bin addD (E.bin ixD (E.var 0) (E.cst (.int 1))) (E.bin mulD (E.cst (.int 28657)) (E.bin ixD (E.var 0) (E.cst (.int 2))))) (E.cst (.int 2147483399))))
  (S.seq (S.asg (.six 0 1) (E.bin modD (E.bin addD (E.bin mulD (E.var 3) (E.bin addD (E.bin modD (E.var 3) (E.cst (.int 5003))) (E.cst (.int 48271)))) (E.bin mulD (E.cst (.int 17)) (E.bin ixD (E.var 0) (E.cst (.int 2))))) (E.cst (.int 2147483399))))
  (S.seq (S.ret (E.bin modD (E.bin fdivD (E.bin ixD (E.var 0) (E.cst (.int 1))) (E.cst (.int 613))) (E.var 1)))
  S.nop)))))
def F__law_take : FM := mkM 4 2 B__law_take
theorem fn__law_take {P : Program} {w : World} {K : PySem.W.Frag} {mg : Str → Option Value} {base : Heap} {f : Addr} {fd : FuncData} (Fd : FunD K "_law_take" "_law_take" (defArgs s__law_take) (defBody s__law_take) (defScope s__law_take) [] [] f fd) (fr_divmod : mg "divmod" = none) : FnOk P w K mg base (L2.CX P w) 1 f fd ps__law_take (spM ⟨K, mg⟩ F__law_take) := by
  refine def_fnM (N := N__law_take) (body := B__law_take) Fd sc__law_take (by decide) fun cdv A outer s H E hr => ?_
  have un := un_lt hr
  have un0 := un_lt0 hr
  exact (ds_cons (ds_if (dt_cmp op_gtD (de_ix (un 1 (by decide)) (de_var 0) de_int) de_int) (ds_cons (ds_asg (de_cb c_divmod fr_divmod (by decide +kernel) (da_cons (de_ix (un 1 (by decide)) (de_var 0) de_int) (da_cons (de_var 1) da_nil))) (dg_tp rfl (dgs_cons (dg_six 0 0 pe_int) (dgs_cons (dg_nm 2 sc__law_take.nd) dgs_nil))))
  (ds_cons (ds_ret (de_var 2))
  ds_nil)) ds_nil)
  (ds_cons (ds_asg (de_bin op_addD (de_ix (un 1 (by decide)) (de_var 0) de_int) de_int) (dg_six 0 2 pe_int))
  (ds_cons (ds_set 3 sc__law_take.nd (de_bin op_modD (de_bin op_addD (de_ix (un 1 (by decide)) (de_var 0) de_int) (de_bin op_mulD de_int (de_ix (un 1 (by decide)) (de_var 0) de_int))) de_int))
  (ds_cons (ds_asg (de_bin op_modD (de_bin op_addD (de_bin op_mulD (de_var 3) (de_bin op_addD (de_bin op_modD (de_var 3) de_int) de_int)) (de_bin op_mulD de_int (de_ix (un 1 (by decide)) (de_var 0) de_int))) de_int) (dg_six 0 1 pe_int))
  (ds_cons (ds_ret (de_bin op_modD (de_bin op_fdivD (de_ix (un 1 (by decide)) (de_var 0) de_int) de_int) (de_var 1)))
  ds_nil)))))
theorem ok__law_take {P : Program} {w : World} {K : PySem.W.Frag} {mg : Str → Option Value} {base : Heap} (Fd : FunAt K mg "_law_take" s__law_take) (fr_divmod : mg "divmod" = none) : DefOkM P w K mg base "_law_take" 1 F__law_take := by
  obtain ⟨f, fd, hm, Fd⟩ := Fd.ex
  exact ⟨⟨f, fd, ps__law_take, hm, Fd.kp, Fd.bindsN fun _ _ _ _ _ _ us hl => match us, hl with | [_, _], _ => rfl, fn__law_take Fd fr_divmod⟩⟩

abbrev s__law_refusal : Stmt := top 91
abbrev N__law_refusal : List Str := ["call", "caught", "e"]
abbrev ps__law_refusal : List Str := ["call"]
theorem sc__law_refusal : FnScope N__law_refusal ps__law_refusal (defScope s__law_refusal) := ⟨rfl, rfl, rfl, by decide +kernel, rfl, by decide +kernel, by decide +kernel⟩
noncomputable def B__law_refusal (TH : FM) (f : Addr) (G0 : Hp) : FS := (S.seq (S.set 1 (E.cst .non))
  (S.seq (S.tryD errs (S.seq (S.expr (E.act 0 f G0 TH A.nil))
  S.nop) (("CampError", some 2, (S.seq (S.set 1 (E.var 2))
  S.nop)) :: []))
  (S.seq (S.ifs (Tt.val (E.bin isND (E.var 1) (E.cst .non))) (S.seq (S.ret (E.cst .non))
  S.nop) S.nop)
  (S.seq (S.ifs (Tt.val (E.c1 (isE errs "InvalidLine") (E.var 1))) (S.seq (S.ret (E.fz (E.lst (A.cons (E.cst (.str "line")) (A.cons (E.c1 (fldX errs "given") (E.var 1)) A.nil)))))
  S.nop) S.nop)
  (S.seq (S.ret (E.ite (Tt.val (E.c1 (isE errs "NotAParty") (E.var 1))) (E.fz (E.lst (A.cons (E.cst (.str "party")) (A.cons (E.c1 (fldX errs "given") (E.var 1)) A.nil)))) (E.fz (E.lst (A.cons (E.cst (.str "other")) A.nil)))))
  S.nop)))))
noncomputable def F__law_refusal (TH : FM) (f : Addr) (G0 : Hp) : FM := mkM N__law_refusal.length ps__law_refusal.length (B__law_refusal TH f G0)
theorem okL__law_refusal {P : Program} {w : World} {K : PySem.W.Frag} {mg : Str → Option Value} {base : Heap} (Fd : FunAt K mg "_law_refusal" s__law_refusal) (fr_isinstance : mg "isinstance" = none) (ET : ErrAll errs flds K mg) (EX : ErrX K mg errs) : DefOkL P w K mg base "_law_refusal" 1 40 F__law_refusal := by
  obtain ⟨g, fd, hm, Fd⟩ := Fd.ex
  refine defL_of (N := N__law_refusal) (ps := ps__law_refusal) (body := B__law_refusal) Fd sc__law_refusal (by decide) hm (Fd.bindsN fun _ _ _ _ _ _ us hl => match us, hl with | [_], _ => rfl) fun f G0 TH cdv A up s H E hr LP => ?_
  have un := un_lt hr
  have un0 := un_lt0 hr
  exact (ds_cons (ds_set 1 sc__law_refusal.nd de_non)
  (ds_cons (ds_tryD EX sc__law_refusal.nd (HdsD.as rfl (by decide) rfl rfl (fun a pn => (ds_cons (ds_set 1 sc__law_refusal.nd (de_var 2))
  ds_nil)) HdsD.nil) (fun pn xe => (have LP := LP.tr pn xe; (ds_cons (ds_expr (de_act0 0 LP (hr.mono (by decide))))
  ds_nil))))
  (ds_cons (ds_if (dt_cmp op_isND (de_var 1) de_non) (ds_cons (ds_ret de_non)
  ds_nil) ds_nil)
  (ds_cons (ds_if (dt_val (de_isE ET.t (by decide) (ET.m "InvalidLine" (by decide)) fr_isinstance (de_var 1))) (ds_cons (ds_ret (df_lst (da_cons de_str (da_cons (de_fldX ET.t (ET.no "given" (by decide)) (de_var 1)) da_nil))).de)
  ds_nil) ds_nil)
  (ds_cons (ds_ret (de_ite (dt_val (de_isE ET.t (by decide) (ET.m "NotAParty" (by decide)) fr_isinstance (de_var 1))) (df_lst (da_cons de_str (da_cons (de_fldX ET.t (ET.no "given" (by decide)) (de_var 1)) da_nil))).de (df_lst (da_cons de_str da_nil)).de))
  ds_nil)))))

def refTail (x : Xn) (M : List D) : MO := if subE (xC x) "InvalidLine" = true then (match fldX errs "given" (xD x) with
    | some v => .ok (.lst [.str "line", v]) M
    | none => .stk)
  else if subE (xC x) "NotAParty" = true then (match fldX errs "given" (xD x) with
    | some v => .ok (.lst [.str "party", v]) M
    | none => .stk)
  else .ok (.lst [.str "other"]) M
def Sp__law_refusal (TH : FM) : FM := fun M ds => match TH M [] with
  | .ok _ M' => .ok .non M'
  | .exc x M' => if xC x ∈ errs then (if subE (xC x) "CampError" = true then refTail x M' else .exc x M') else .stk
  | .stk => .stk
theorem hF__law_refusal (TH : FM) (f : Addr) (G0 : Hp) (M : List D) : F__law_refusal TH f G0 M [.adr f G0] = Sp__law_refusal TH M [] := by
  unfold F__law_refusal mkM
  rw [if_pos (by rfl), runM_out]
  show outM (B__law_refusal TH f G0 [.val (.adr f G0), .no, .no, .sto M]) = _
  unfold B__law_refusal Sp__law_refusal
  have h1 : S.set 1 (E.cst .non) [.val (.adr f G0), .no, .no, .sto M] = .nx [.val (.adr f G0), .val .non, .no, .sto M] := rfl
  rw [S.seq, h1]
  dsimp only
  have ha : E.act 0 f G0 TH A.nil [.val (.adr f G0), .val .non, .no, .sto M] = moR [.val (.adr f G0), .val .non, .no, .sto M] (TH M []) := by
    unfold E.act
    simp only [List.getElem?_cons_zero, and_self, if_true]
    rfl
  cases q : TH M [] with
  | stk =>
    rw [q] at ha
    simp [S.seq, S.tryD, S.expr, ha, moR, outM]
  | ok z M' =>
    rw [q] at ha
    have : S.tryD errs (S.seq (S.expr (E.act 0 f G0 TH A.nil)) S.nop) (("CampError", some 2, (S.seq (S.set 1 (E.var 2)) S.nop)) :: []) [.val (.adr f G0), .val .non, .no, .sto M] = .nx [.val (.adr f G0), .val .non, .no, .sto M'] := by
      simp [S.seq, S.tryD, S.expr, ha, moR, S.nop, setSto]
    rw [S.seq, this]
    rfl
  | exc x M' =>
    rw [q] at ha
    have ht : S.tryD errs (S.seq (S.expr (E.act 0 f G0 TH A.nil)) S.nop) (("CampError", some 2, (S.seq (S.set 1 (E.var 2)) S.nop)) :: []) [.val (.adr f G0), .val .non, .no, .sto M] =
        if xC x ∈ errs then (if subE (xC x) "CampError" = true then .nx [.val (.adr f G0), .val (xD x), .no, .sto M'] else .exc x [.val (.adr f G0), .val .non, .no, .sto M']) else .stk := by
      have hm : ("CampError" : Str) ∈ errs := by decide
      have hx : S.seq (S.expr (E.act 0 f G0 TH A.nil)) S.nop [.val (.adr f G0), .val .non, .no, .sto M] = .exc x [.val (.adr f G0), .val .non, .no, .sto M'] := by
        simp [S.seq, S.expr, ha, moR, setSto]
      unfold S.tryD
      rw [hx]
      show hdsS errs _ x _ = _
      unfold hdsS
      by_cases hc : xC x ∈ errs
      · rw [if_pos ⟨hc, hm⟩, if_pos hc]
        by_cases hs : subE (xC x) "CampError" = true
        · rw [if_pos hs, if_pos hs]
          cases x <;> rfl
        · rw [if_neg hs, if_neg hs]
          rfl
      · rw [if_neg (fun z => hc z.1), if_neg hc]
    rw [S.seq, ht]
    dsimp only
    by_cases hc : xC x ∈ errs
    · rw [if_pos hc, if_pos hc]
      by_cases hs : subE (xC x) "CampError" = true
      · rw [if_pos hs, if_pos hs]
        dsimp only
        have hE : ∀ b, isE errs b (xD x) = some (.bl (subE (xC x) b)) := fun b => by
          cases x <;> (have hc' := hc; unfold xC at hc'; unfold isE xD; dsimp only at hc' ⊢; rw [if_pos hc']; rfl)
        have hV : isV errs (xD x) = some (.bl true) := by
          cases x <;> (have hc' := hc; unfold xC at hc'; unfold isV xD; dsimp only at hc' ⊢; rw [if_pos hc'])
        have hl : ∀ e : Ev, look e (xD x) = some (xD x) := fun e => by cases x <;> rfl
        have hn : isNone (xD x) = false := by cases x <;> rfl
        unfold refTail
        have e1 := hE "InvalidLine"
        have e2 := hE "NotAParty"
        generalize subE (xC x) "InvalidLine" = a1 at e1 ⊢
        generalize subE (xC x) "NotAParty" = a2 at e2 ⊢
        have r1 : ∀ e : Ev, rd e (.dv (xD x)) = some (xD x) := hl
        have s1 : S.ifs (Tt.val (E.bin isND (E.var 1) (E.cst .non))) (S.seq (S.ret (E.cst .non)) S.nop) S.nop [.val (.adr f G0), .val (xD x), .no, .sto M'] = .nx [.val (.adr f G0), .val (xD x), .no, .sto M'] := by
          have : rd [.val (.adr f G0), .val (xD x), .no, .sto M'] (.dv .non) = some .non := rfl
          have k : rd [.val (.adr f G0), .val (xD x), .no, .sto M'] (.dv (.bl false)) = some (.bl false) := rfl
          simp [S.ifs, Tt.val, E.bin, E.var, E.cst, r1, this, isND, hn, S.nop, k]
        rw [S.seq, s1]
        dsimp only
        have r3 : ∀ b : Bool, rd [.val (.adr f G0), .val (xD x), .no, .sto M'] (.dv (.bl b)) = some (.bl b) := fun _ => rfl
        have h1 : (1 : Nat) ≤ sizeLine := by decide
        have h2 : (2 : Nat) ≤ sizeLine := by decide
        cases a1 with
        | true =>
          simp only [S.seq, S.ifs, Tt.val, E.c1, E.var, E.cst, List.getElem?_cons_succ, List.getElem?_cons_zero, Out.bind_ok, r1, r3, e1, Out.toS_ok, if_true, S.ret, E.fz, E.lst, A.cons, A.nil, frz]
          cases fldX errs "given" (xD x) <;> simp [outM, stoOf, h2]
        | false =>
          simp only [S.seq, S.ifs, Tt.val, E.c1, E.var, E.cst, List.getElem?_cons_succ, List.getElem?_cons_zero, Out.bind_ok, r1, r3, e1, Out.toS_ok, S.ret, E.fz, E.lst, A.cons, A.nil, frz, Bool.false_eq_true, if_false, S.nop, E.ite, e2]
          cases a2 with
          | true =>
            simp only [if_true]
            cases fldX errs "given" (xD x) <;> simp [outM, stoOf, h2]
          | false =>
            simp [outM, stoOf, h1]
      · rw [if_neg hs, if_neg hs]
        rfl
    · rw [if_neg hc, if_neg hc]
      rfl

abbrev s__law_right : Stmt := top 92
abbrev N__law_right : List Str := ["pool", "most", "people", "console", "far", "lines", "line", "odd"]
abbrev ps__law_right : List Str := ["pool", "most"]
theorem sc__law_right : FnScope N__law_right ps__law_right (defScope s__law_right) := ⟨rfl, rfl, rfl, by decide +kernel, rfl, by decide +kernel, by decide +kernel⟩
def B__law_right : FS := (S.seq (S.set 2 (E.bin addD (E.cst (.int 2)) (E.callM F__law_take (A.cons (E.var 0) (A.cons (E.bin subD (E.var 1) (E.cst (.int 1))) A.nil)))))
  (S.seq (S.asg (.tp [(.nm 3), (.nm 4)]) (E.tup (A.cons (E.newX "Console" F_Console___init__ (· ++ []) (A.cons (E.newX "Party" F_Party___init__ (· ++ []) (A.cons (E.var 2) A.nil)) A.nil)) (A.cons (E.c1 strD (E.var 2)) A.nil))))
  (S.seq (S.set 5 (E.fz (E.lst (A.cons (E.cst (.str "")) (A.cons (E.cst (.str " ")) (A.cons (E.cst (.str "friends")) (A.cons (E.cst (.str "friends 0")) (A.cons (E.cst (.str "friends 0 1 ")) (A.cons (E.cst (.str " friends 0 1")) (A.cons (E.cst (.str "friends  0 1")) (A.cons (E.cst (.str "Friends 0 1")) A.nil)))))))))))
  (S.seq (S.set 5 (E.bin addD (E.var 5) (E.fz (E.lst (A.cons (E.cst (.str "friends 00 1")) (A.cons (E.cst (.str "friends 0 01")) (A.cons (E.cst (.str "friends +0 1")) (A.cons (E.cst (.str "foes -1 0")) (A.cons (E.cst (.str "foes 0,1")) (A.cons (E.cst (.str "part 0 1 0")) (A.cons (E.cst (.str "part 0")) A.nil)))))))))))
  (S.seq (S.set 5 (E.bin addD (E.var 5) (E.fz (E.lst (A.cons (E.cst (.str "heart")) (A.cons (E.cst (.str "heart 0")) (A.cons (E.cst (.str "heart 0 1 1")) (A.cons (E.cst (.str "heart 0 x")) (A.cons (E.cst (.str "heart 00 1")) (A.cons (E.cst (.str "undo 1")) (A.cons (E.cst (.str "undo ")) (A.cons (E.cst (.str "UNDO")) (A.cons (E.cst (.str "ties 1")) A.nil)))))))))))))
  (S.seq (S.set 5 (E.bin addD (E.var 5) (E.fz (E.lst (A.cons (E.cst (.str "switch 0 0")) (A.cons (E.cst (.str "switch 1 0")) (A.cons (E.bin addD (E.cst (.str "switch ")) (E.var 4)) (A.cons (E.cst (.str "switch 0 ")) (A.cons (E.cst (.str "switch x")) (A.cons (E.cst (.str "switch  0")) (A.cons (E.cst (.str "camps 0")) A.nil)))))))))))
  (S.seq (S.set 5 (E.bin addD (E.var 5) (E.fz (E.lst (A.cons (E.bin addD (E.bin addD (E.cst (.str "foes ")) (E.var 4)) (E.cst (.str " 0"))) (A.cons (E.cst (.str "friends 1 1")) (A.cons (E.cst (.str "part 0 0")) (A.cons (E.cst (.str "what")) (A.cons (E.cst (.str "0 1")) (A.cons (E.cst (.str "friends\n0 1")) (A.cons (E.cst (.str "camp\n")) (A.cons (E.cst (.str "foes ")) A.nil))))))))))))
  (S.seq (S.set 5 (E.bin addD (E.var 5) (E.fz (E.lst (A.cons (E.cst (.str "friends 0 1 1")) (A.cons (E.cst (.str " camp")) (A.cons (E.bin addD (E.cst (.str "friends 0 ")) (E.var 4)) (A.cons (E.cst (.str "foes 0")) A.nil))))))))
  (S.seq (S.for_ (I.seq (E.var 5)) (.nm 6) (S.seq (S.ifs (Tt.val (E.bin neD (E.c1 rpD (E.fz (E.lst (A.cons (E.meth "Console" "say" F_Console_say (E.var 3) (A.cons (E.var 6) A.nil)) (A.cons (E.methK "Console" "say" F_Console_say id (E.var 3) (A.cons (E.var 6) A.nil)) A.nil))))) (E.c1 rpD (E.bin mulW (E.fz (E.lst (A.cons (E.cst (.str "not understood")) A.nil))) (E.cst (.int 2)))))) (S.seq (S.ret (E.cst (.bl false)))
  S.nop) S.nop)
  S.nop))
  (S.seq (S.for_ (I.seq (E.fz (E.lst (A.cons (E.cst .non) (A.cons (E.cst (.int 5)) (A.cons (E.fz (E.lst (A.cons (E.cst (.str "undo")) A.nil))) (A.cons (E.tup (A.cons (E.cst (.str "undo")) A.nil)) (A.cons (E.cst (.bl true)) (A.cons (E.cst (.int 0)) A.nil))))))))) (.nm 7) (S.seq (S.ifs (Tt.val (E.bin neD (E.c1 rpD (E.lam1 "_law_right" Sp__law_refusal [] (E.meth "Console" "say" F_Console_say (E.var 3) (A.cons (E.var 7) A.nil)))) (E.c1 rpD (E.fz (E.lst (A.cons (E.cst (.str "line")) (A.cons (E.var 7) A.nil))))))) (S.seq (S.ret (E.cst (.bl false)))
  S.nop) S.nop)
  (S.seq (S.ifs (Tt.val (E.bin neD (E.c1 rpD (E.lam1 "_law_right" Sp__law_refusal [] (E.newX "Console" F_Console___init__ (· ++ []) (A.cons (E.var 7) A.nil)))) (E.c1 rpD (E.fz (E.lst (A.cons (E.cst (.str "party")) (A.cons (E.var 7) A.nil))))))) (S.seq (S.ret (E.cst (.bl false)))
  S.nop) S.nop)
  S.nop)))
  (S.seq (S.ifs (Tt.val (E.bin neD (E.c1 rpD (E.lam1 "_law_right" Sp__law_refusal [] (E.newX "Console" F_Console___init__ id (A.cons (E.cst (.str "ties")) A.nil)))) (E.c1 rpD (E.fz (E.lst (A.cons (E.cst (.str "party")) (A.cons (E.cst (.str "ties")) A.nil))))))) (S.seq (S.ret (E.cst (.bl false)))
  S.nop) S.nop)
  (S.seq (S.ret (E.bin eqD (E.fz (E.lc (I.seq (E.fz (E.lst (A.cons (E.cst (.str "ties")) (A.cons (E.cst (.str "foes")) (A.cons (E.cst (.str "undo")) (A.cons (E.cst (.str "camp")) A.nil))))))) (.nm 6) [6] Tt.yes (E.meth "Console" "say" F_Console_say (E.var 3) (A.cons (E.var 6) A.nil)))) (E.fz (E.lst (A.cons (E.cst (.str "0")) (A.cons (E.cst (.str "0")) (A.cons (E.cst (.str "nothing")) (A.cons (E.cst (.str "none")) A.nil))))))))
  S.nop))))))))))))
def F__law_right : FM := mkM 8 2 B__law_right
theorem fn__law_right {P : Program} {w : World} {K : PySem.W.Frag} {mg : Str → Option Value} {base : Heap} {f : Addr} {fd : FuncData} (Fd : FunD K "_law_right" "_law_right" (defArgs s__law_right) (defBody s__law_right) (defScope s__law_right) [] [] f fd) (hm : mg "_law_right" = some (.ref f)) (D__law_take : DefOkM P w K mg base "_law_take" 1 F__law_take) (fr_str : mg "str" = none) (fr_repr : mg "repr" = none) (nd_Party : NewD P w K mg base "Party" 11 [] F_Party___init__) (nd_Console : NewD P w K mg base "Console" 17 [] F_Console___init__) (mk_Console_say : MethK P w K mg base "Console" "say" 17 ["line"] id F_Console_say) (mo_Console_say : MethOk P w K mg base "Console" "say" 17 F_Console_say) (D__law_refusal : DefOkL P w K mg base "_law_refusal" 1 40 F__law_refusal) (tb__law_right : TabH K mg base "_law_right") (nk_Console : NewK P w K mg base "Console" 17 ["party"] id F_Console___init__) : FnG P w K mg base (L2.CX P w) 42 f fd ps__law_right (spM ⟨K, mg⟩ F__law_right) := by
  refine def_fnMGC (N := N__law_right) (body := B__law_right) Fd hm sc__law_right (by decide) fun cdv A outer s H E hcode g0 hr => ?_
  have un := un_lt hr
  have un0 := un_lt0 hr
  exact (ds_cons (ds_set 2 sc__law_right.nd (de_bin op_addD de_int (de_callM D__law_take (hr.mono (by decide)) (da_cons (de_var 0) (da_cons (de_bin op_subD (de_var 1) de_int) da_nil)))))
  (ds_cons (ds_asg (de_tup (da_cons (de_newD nd_Console (hr.mono (by decide)) (da_cons (de_newD nd_Party (hr.mono (by decide)) (da_cons (de_var 2) da_nil)) da_nil)) (da_cons (de_t1 c_str fr_str (by decide +kernel) (de_var 2)) da_nil))) (dg_tp rfl (dgs_cons (dg_nm 3 sc__law_right.nd) (dgs_cons (dg_nm 4 sc__law_right.nd) dgs_nil))))
  (ds_cons (ds_set 5 sc__law_right.nd (df_lst (da_cons de_str (da_cons de_str (da_cons de_str (da_cons de_str (da_cons de_str (da_cons de_str (da_cons de_str (da_cons de_str da_nil))))))))).de)
  (ds_cons (ds_set 5 sc__law_right.nd (de_bin op_addD (de_var 5) (df_lst (da_cons de_str (da_cons de_str (da_cons de_str (da_cons de_str (da_cons de_str (da_cons de_str (da_cons de_str da_nil)))))))).de))
  (ds_cons (ds_set 5 sc__law_right.nd (de_bin op_addD (de_var 5) (df_lst (da_cons de_str (da_cons de_str (da_cons de_str (da_cons de_str (da_cons de_str (da_cons de_str (da_cons de_str (da_cons de_str (da_cons de_str da_nil)))))))))).de))
  (ds_cons (ds_set 5 sc__law_right.nd (de_bin op_addD (de_var 5) (df_lst (da_cons de_str (da_cons de_str (da_cons (de_bin op_addD de_str (de_var 4)) (da_cons de_str (da_cons de_str (da_cons de_str (da_cons de_str da_nil)))))))).de))
  (ds_cons (ds_set 5 sc__law_right.nd (de_bin op_addD (de_var 5) (df_lst (da_cons (de_bin op_addD (de_bin op_addD de_str (de_var 4)) de_str) (da_cons de_str (da_cons de_str (da_cons de_str (da_cons de_str (da_cons de_str (da_cons de_str (da_cons de_str da_nil))))))))).de))
  (ds_cons (ds_set 5 sc__law_right.nd (de_bin op_addD (de_var 5) (df_lst (da_cons de_str (da_cons de_str (da_cons (de_bin op_addD de_str (de_var 4)) (da_cons de_str da_nil))))).de))
  (ds_cons (ds_for rfl (di_seq (de_var 5)) (dg_nm 6 sc__law_right.nd) (ds_cons (ds_if (dt_cmp (op_neDD (un 64 (by decide))) (de_b1 (c_repr g0 (un 100 (by decide))) fr_repr (by decide +kernel) (df_lst (da_cons (de_meth mo_Console_say (hr.mono (by decide)) (de_var 3) (da_cons (de_var 6) da_nil)) (da_cons (de_methK mk_Console_say (hr.mono (by decide)) (de_var 3) (dk_cons (de_var 6) dk_nil)) da_nil))).de) (de_b1 (c_repr g0 (un 100 (by decide))) fr_repr (by decide +kernel) (de_bin op_mulWD (df_lst (da_cons de_str da_nil)).de de_int))) (ds_cons (ds_ret de_bl)
  ds_nil) ds_nil)
  ds_nil))
  (ds_cons (ds_for rfl (di_seq (df_lst (da_cons de_non (da_cons de_int (da_cons (df_lst (da_cons de_str da_nil)).de (da_cons (de_tup (da_cons de_str da_nil)) (da_cons de_bl (da_cons de_int da_nil))))))).de) (dg_nm 7 sc__law_right.nd) (ds_cons (ds_if (dt_cmp (op_neDD (un 64 (by decide))) (de_b1 (c_repr g0 (un 100 (by decide))) fr_repr (by decide +kernel) (de_lam1 D__law_refusal (LamD.mk (ps := []) (j := 17) (tb__law_right.x hcode) (by first | rfl | decide +kernel) rfl (lamSP_by (sc := defScope s__law_right) (by decide +kernel)) sc__law_right.nd rfl (fun _ _ _ _ _ us hl => match us, hl with | [], _ => rfl) (fun f c' A outer s H E hr => (have un := un_lt hr; have un0 := un_lt0 hr; (de_meth mo_Console_say (hr.mono (by decide)) (de_var 3) (da_cons (de_var 7) da_nil))))) (hr.mono (by decide)) (fun _ _ _ _ => hF__law_refusal ..))) (de_b1 (c_repr g0 (un 100 (by decide))) fr_repr (by decide +kernel) (df_lst (da_cons de_str (da_cons (de_var 7) da_nil))).de)) (ds_cons (ds_ret de_bl)
  ds_nil) ds_nil)
  (ds_cons (ds_if (dt_cmp (op_neDD (un 64 (by decide))) (de_b1 (c_repr g0 (un 100 (by decide))) fr_repr (by decide +kernel) (de_lam1 D__law_refusal (LamD.mk (ps := []) (j := 18) (tb__law_right.x hcode) (by first | rfl | decide +kernel) rfl (lamSP_by (sc := defScope s__law_right) (by decide +kernel)) sc__law_right.nd rfl (fun _ _ _ _ _ us hl => match us, hl with | [], _ => rfl) (fun f c' A outer s H E hr => (have un := un_lt hr; have un0 := un_lt0 hr; (de_newD nd_Console (hr.mono (by decide)) (da_cons (de_var 7) da_nil))))) (hr.mono (by decide)) (fun _ _ _ _ => hF__law_refusal ..))) (de_b1 (c_repr g0 (un 100 (by decide))) fr_repr (by decide +kernel) (df_lst (da_cons de_str (da_cons (de_var 7) da_nil))).de)) (ds_cons (ds_ret de_bl)
  ds_nil) ds_nil)
  ds_nil)))
  (ds_cons (ds_if (dt_cmp (op_neDD (un 64 (by decide))) (de_b1 (c_repr g0 (un 100 (by decide))) fr_repr (by decide +kernel) (de_lam1 D__law_refusal (LamD.mk (ps := []) (j := 18) (tb__law_right.x hcode) (by first | rfl | decide +kernel) rfl (lamSP_by (sc := defScope s__law_right) (by decide +kernel)) sc__law_right.nd rfl (fun _ _ _ _ _ us hl => match us, hl with | [], _ => rfl) (fun f c' A outer s H E hr => (have un := un_lt hr; have un0 := un_lt0 hr; (de_newK nk_Console (hr.mono (by decide)) (dk_cons de_str dk_nil))))) (hr.mono (by decide)) (fun _ _ _ _ => hF__law_refusal ..))) (de_b1 (c_repr g0 (un 100 (by decide))) fr_repr (by decide +kernel) (df_lst (da_cons de_str (da_cons de_str da_nil))).de)) (ds_cons (ds_ret de_bl)
  ds_nil) ds_nil)
  (ds_cons (ds_ret (de_cmp (op_eqDD (un 64 (by decide))) (df_lc (own := [("line", 6)]) rfl sc__law_right.nd (di_seq (df_lst (da_cons de_str (da_cons de_str (da_cons de_str (da_cons de_str da_nil))))).de) (show BlkOk N__law_right (defScope s__law_right) _ _ from blkOk_by (by decide +kernel)) (by decide) (fun s H C cl fp => (dg_nm 6 sc__law_right.nd)) (fun s H C cl fp => dts_nil) (fun s H C cl fp => (de_meth mo_Console_say (hr.mono (by decide)) (de_var 3) (da_cons (de_var 6) da_nil)))).de (df_lst (da_cons de_str (da_cons de_str (da_cons de_str (da_cons de_str da_nil))))).de))
  ds_nil))))))))))))
theorem ok__law_right {P : Program} {w : World} {K : PySem.W.Frag} {mg : Str → Option Value} {base : Heap} (Fd : FunAt K mg "_law_right" s__law_right) (D__law_take : DefOkM P w K mg base "_law_take" 1 F__law_take) (fr_str : mg "str" = none) (fr_repr : mg "repr" = none) (nd_Party : NewD P w K mg base "Party" 11 [] F_Party___init__) (nd_Console : NewD P w K mg base "Console" 17 [] F_Console___init__) (mk_Console_say : MethK P w K mg base "Console" "say" 17 ["line"] id F_Console_say) (mo_Console_say : MethOk P w K mg base "Console" "say" 17 F_Console_say) (D__law_refusal : DefOkL P w K mg base "_law_refusal" 1 40 F__law_refusal) (tb__law_right : TabH K mg base "_law_right") (nk_Console : NewK P w K mg base "Console" 17 ["party"] id F_Console___init__) : DefOkMG P w K mg base "_law_right" 42 F__law_right := by
  obtain ⟨f, fd, hm, Fd⟩ := Fd.ex
  exact ⟨⟨f, fd, ps__law_right, hm, Fd.kp, Fd.bindsN fun _ _ _ _ _ _ us hl => match us, hl with | [_, _], _ => rfl, fn__law_right Fd hm D__law_take fr_str fr_repr nd_Party nd_Console mk_Console_say mo_Console_say D__law_refusal tb__law_right nk_Console⟩⟩

abbrev s_law : Stmt := top 93
abbrev N_law : List Str := ["script", "k", "pool", "most"]
abbrev ps_law : List Str := ["script"]
theorem sc_law : FnScope N_law ps_law (defScope s_law) := ⟨rfl, rfl, rfl, by decide +kernel, rfl, by decide +kernel, by decide +kernel⟩
def B_law : FS := (S.seq (S.for_ (I.rng1 (A.cons (E.cb max2D (A.cons (E.cst (.int 2)) (A.cons (E.cb min2D (A.cons (E.c1 lenD (E.var 0)) (A.cons (E.cst (.int 3)) A.nil))) A.nil))) A.nil)) (.nm 1) (S.seq (S.set 2 (E.callM F__law_pool (A.cons (E.var 0) (A.cons (E.var 1) A.nil))))
  (S.seq (S.for_ (I.seq (E.fz (E.lst (A.cons (E.cst (.int 5)) (A.cons (E.cst (.int 4)) (A.cons (E.cst (.int 6)) (A.cons (E.cst (.int 7)) A.nil))))))) (.nm 3) (S.seq (S.ifs (Tt.not (Tt.val (E.callM F__law_right (A.cons (E.var 2) (A.cons (E.var 3) A.nil))))) (S.seq (S.ret (E.cst (.bl false)))
  S.nop) S.nop)
  S.nop))
  S.nop)))
  (S.seq (S.ret (E.cst (.bl true)))
  S.nop))
def F_law : FM := mkM 4 1 B_law
theorem fn_law {P : Program} {w : World} {K : PySem.W.Frag} {mg : Str → Option Value} {base : Heap} {f : Addr} {fd : FuncData} (Fd : FunD K "law" "law" (defArgs s_law) (defBody s_law) (defScope s_law) [] [] f fd) (D__law_pool : DefOkM P w K mg base "_law_pool" 1 F__law_pool) (D__law_right : DefOkMG P w K mg base "_law_right" 42 F__law_right) (fr_range : mg "range" = none) (fr_max : mg "max" = none) (fr_min : mg "min" = none) (fr_len : mg "len" = none) : FnG P w K mg base (L2.CX P w) 43 f fd ps_law (spM ⟨K, mg⟩ F_law) := by
  refine def_fnMG (N := N_law) (body := B_law) Fd sc_law (by decide) fun cdv A outer s H E g0 hr => ?_
  have un := un_lt hr
  have un0 := un_lt0 hr
  exact (ds_cons (ds_for rfl (di_rng1 fr_range (da_cons (de_cb (c_max2 rfl) fr_max (by decide +kernel) (da_cons de_int (da_cons (de_cb (c_min2 rfl) fr_min (by decide +kernel) (da_cons (de_b1 c_len fr_len (by decide +kernel) (de_var 0)) (da_cons de_int da_nil))) da_nil))) da_nil)) (dg_nm 1 sc_law.nd) (ds_cons (ds_set 2 sc_law.nd (de_callM D__law_pool (hr.mono (by decide)) (da_cons (de_var 0) (da_cons (de_var 1) da_nil))))
  (ds_cons (ds_for rfl (di_seq (df_lst (da_cons de_int (da_cons de_int (da_cons de_int (da_cons de_int da_nil))))).de) (dg_nm 3 sc_law.nd) (ds_cons (ds_if (dt_not (dt_val (de_callMG D__law_right g0 (hr.mono (by decide)) (da_cons (de_var 2) (da_cons (de_var 3) da_nil))))) (ds_cons (ds_ret de_bl)
  ds_nil) ds_nil)
  ds_nil))
  ds_nil)))
  (ds_cons (ds_ret de_bl)
  ds_nil))
theorem ok_law {P : Program} {w : World} {K : PySem.W.Frag} {mg : Str → Option Value} {base : Heap} (Fd : FunAt K mg "law" s_law) (D__law_pool : DefOkM P w K mg base "_law_pool" 1 F__law_pool) (D__law_right : DefOkMG P w K mg base "_law_right" 42 F__law_right) (fr_range : mg "range" = none) (fr_max : mg "max" = none) (fr_min : mg "min" = none) (fr_len : mg "len" = none) : DefOkMG P w K mg base "law" 43 F_law := by
  obtain ⟨f, fd, hm, Fd⟩ := Fd.ex
  exact ⟨⟨f, fd, ps_law, hm, Fd.kp, Fd.bindsN fun _ _ _ _ _ _ us hl => match us, hl with | [_], _ => rfl, fn_law Fd D__law_pool D__law_right fr_range fr_max fr_min fr_len⟩⟩

end G85
-- G85b
set_option maxRecDepth 100000
set_option maxHeartbeats 0
/-! G85: the head. -/
namespace G85
open PySem PySem.Spec PyProof.Rows L2 DL He
abbrev m_InvalidNumber : Stmt := meth 3 0
abbrev m_InvalidLine : Stmt := meth 4 0
abbrev m_NotAWeb : Stmt := meth 5 0
abbrev m_NotAParty : Stmt := meth 6 0
abbrev m_InvalidFriends : Stmt := meth 7 0
abbrev m_InvalidFoes : Stmt := meth 8 0
abbrev m_InvalidDeed : Stmt := meth 9 0
abbrev m_Barred : Stmt := meth 10 0
def fn : List DefD := [defT "is_whole" s_is_whole,
  defT "is_between" s_is_between,
  defT "is_string" s_is_string,
  defT "is_made_of" s_is_made_of,
  defT "is_tuple_of" s_is_tuple_of,
  defT "first_wrong" s_first_wrong,
  defT "words_of" s_words_of,
  defT "number_in" s_number_in,
  defT "numbers_in" s_numbers_in,
  defT "is_people" s_is_people,
  defT "is_pair" s_is_pair,
  defT "is_next" s_is_next,
  defT "wrong_pair" s_wrong_pair,
  defT "check_web" s_check_web,
  defT "is_person" s_is_person,
  defT "check_person" s_check_person,
  defT "check_other" s_check_other,
  defT "is_lot" s_is_lot,
  defT "all_lots" s_all_lots,
  defT "ties_by" s_ties_by,
  defT "sign_of" s_sign_of,
  defT "are_tied" s_are_tied,
  defT "neighbours_of" s_neighbours_of,
  defT "signs_of" s_signs_of,
  defT "made_of" s_made_of,
  defT "switched_by" s_switched_by,
  defT "part_of" s_part_of,
  defT "parts_by" s_parts_by,
  defT "is_camp_by" s_is_camp_by,
  defT "camp_by" s_camp_by,
  defT "are_in_camps_by" s_are_in_camps_by,
  defT "count_camps_by" s_count_camps_by,
  defT "heart_by" s_heart_by,
  defT "check_camps" s_check_camps,
  defT "check_heart" s_check_heart,
  defT "at_heart" s_at_heart,
  defT "has_form" s_has_form,
  defT "check_deed" s_check_deed,
  defT "web_behind" s_web_behind,
  defT "reason_against" s_reason_against,
  defT "check_party" s_check_party,
  defT "copy_of" s_copy_of,
  defT "deed_in" s_deed_in,
  defT "said_of_deed" s_said_of_deed,
  defT "said_of_undo" s_said_of_undo,
  defT "said_of_heart" s_said_of_heart,
  defT "said_of_camp" s_said_of_camp,
  defT "said_of_word" s_said_of_word,
  defT "_law_pool" s__law_pool,
  defT "_law_take" s__law_take,
  defT "_law_refusal" s__law_refusal,
  defT "_law_right" s__law_right,
  defT "law" s_law,
  { defM "Web" "__init__" "Web.__init__" s_Web___init__ with dfl := [.adr (dflAt ("Web", some "__init__") 0), .adr (dflAt ("Web", some "__init__") 1)] },
  defM "Party" "__init__" "Party.__init__" s_Party___init__,
  defM "Party" "do" "Party.do" s_Party_do,
  defM "Party" "undo" "Party.undo" s_Party_undo,
  defM "Party" "camp" "Party.camp" s_Party_camp,
  defM "Party" "at_heart" "Party.at_heart" s_Party_at_heart,
  defM "Console" "__init__" "Console.__init__" s_Console___init__,
  defM "Console" "say" "Console.say" s_Console_say,
  defM "InvalidNumber" "__init__" "InvalidNumber.__init__" m_InvalidNumber,
  defM "InvalidLine" "__init__" "InvalidLine.__init__" m_InvalidLine,
  defM "NotAWeb" "__init__" "NotAWeb.__init__" m_NotAWeb,
  defM "NotAParty" "__init__" "NotAParty.__init__" m_NotAParty,
  defM "InvalidFriends" "__init__" "InvalidFriends.__init__" m_InvalidFriends,
  defM "InvalidFoes" "__init__" "InvalidFoes.__init__" m_InvalidFoes,
  defM "InvalidDeed" "__init__" "InvalidDeed.__init__" m_InvalidDeed,
  defM "Barred" "__init__" "Barred.__init__" m_Barred]
def fa : List Fa := .glo "is_whole" :: .glo "is_between" :: .glo "is_string" :: .glo "is_made_of" :: .glo "is_tuple_of" :: .glo "first_wrong" :: .glo "words_of" :: .glo "number_in" :: .glo "numbers_in" :: .glo "is_people" :: .glo "is_pair" :: .glo "is_next" :: .glo "wrong_pair" :: .glo "check_web" :: .glo "is_person" :: .glo "check_person" :: .glo "check_other" :: .glo "is_lot" :: .glo "all_lots" :: .glo "ties_by" :: .glo "sign_of" :: .glo "are_tied" :: .glo "neighbours_of" :: .glo "signs_of" :: .glo "made_of" :: .glo "switched_by" :: .glo "part_of" :: .glo "parts_by" :: .glo "is_camp_by" :: .glo "camp_by" :: .glo "are_in_camps_by" :: .glo "count_camps_by" :: .glo "heart_by" :: .glo "check_camps" :: .glo "check_heart" :: .glo "at_heart" :: .glo "has_form" :: .glo "check_deed" :: .glo "web_behind" :: .glo "reason_against" :: .glo "check_party" :: .glo "copy_of" :: .glo "deed_in" :: .glo "said_of_deed" :: .glo "said_of_undo" :: .glo "said_of_heart" :: .glo "said_of_camp" :: .glo "said_of_word" :: .glo "_law_pool" :: .glo "_law_take" :: .glo "_law_refusal" :: .glo "_law_right" :: .glo "law" :: .glo "CampError" :: .glo "InvalidNumber" :: .glo "InvalidLine" :: .glo "NotAWeb" :: .glo "NotAParty" :: .glo "InvalidFriends" :: .glo "InvalidFoes" :: .glo "InvalidDeed" :: .glo "Barred" :: .glo "NothingToUndo" :: .glo "NotInCamps" :: .exc "CampError" :: .exc "NothingToUndo" :: .exc "NotInCamps" :: .glo "Party" :: .cls "Party" :: .mkr "Party" :: .noat "Party" "web" :: .noat "Party" "people" :: .noat "Party" "deeds" :: .noat "Party" "past" :: .glo "Web" :: .cls "Web" :: .mkr "Web" :: .noat "Web" "people" :: .noat "Web" "friends" :: .noat "Web" "foes" :: .noat "Web" "kept" :: .glo "Console" :: .cls "Console" :: .mkr "Console" :: .noat "Console" "party" :: .meth "Party" "do" :: .meth "Party" "undo" :: .meth "Party" "camp" :: .meth "Party" "at_heart" :: .meth "Console" "say" :: .glo "at_heart_falling" :: .glo "SIZES" :: .glo "SIGNS" :: .free "isinstance" :: .free "int" :: .free "bool" :: .free "str" :: .free "all" :: .free "tuple" :: .free "len" :: .free "enumerate" :: .str "FIGURES" "0123456789" :: .int "MOST_PEOPLE" (7) :: .free "zip" :: .free "range" :: .free "list" :: .free "sorted" :: .free "max" :: .free "min" :: .int "FOES" (-1) :: .int "FRIENDS" (1) :: .free "set" :: .str "OPEN" "open" :: .str "WITH_FOES" "foes" :: .str "WITH_FRIENDS" "friends" :: .str "NONE_parties" "none" :: .str "ODD" "odd" :: .str "SAME" "same" :: .str "DONE" "done" :: .str "LOST" "not understood" :: .str "NOTHING" "nothing" :: .str "NONE_consoles" "none" :: .free "sum" :: .free "abs" :: .free "divmod" :: .free "repr" :: []
def inis : List (Str × Str) := [("InvalidNumber", "given"), ("InvalidLine", "given"), ("NotAWeb", "given"), ("NotAParty", "given"), ("InvalidFriends", "index"), ("InvalidFoes", "index"), ("InvalidDeed", "index"), ("Barred", "reason")]
def ts : List Tab := [(fun K => ga K "SIZES", (tbl_SIZES.map (·.1))), (fun K => ga K "SIGNS", (tbl_SIGNS.map (·.1)))]
def tf : List Defn := [("wrong_pair", none), ("_law_right", none)]
def exs (K : PySem.W.Frag) : List Bool := [(errB K errs flds), (exmB K errs), (inis.all fun p => initB K p.1 p.2), (ndTabB K tf), (webIB K), (tyglB K "combinations" "itertools.combinations"), (tup0B K (dflAt ("Web", some "__init__") 0 K)), (tup0B K (dflAt ("Web", some "__init__") 1 K)), (dicS K (ga K "SIZES") tbl_SIZES), (dicS K (ga K "SIGNS") tbl_SIGNS), (insIB K "Party"), (aliB K "at_heart" "at_heart_falling")]
def ex (K : PySem.W.Frag) : Bool := (exs K).all id
theorem ex_at {K : PySem.W.Frag} (e : ex K = true) (i : Nat) {b : Bool} (h : (exs K)[i]? = some b) : b = true := List.all_eq_true.mp e b (List.mem_of_getElem? h)
section
variable {K : PySem.W.Frag} {h : Heap} {mg : Str → Option Value} {base : Heap} {P : Program} {w : World}
theorem sc_InvalidNumber : FnScope ["self", "given"] ["self", "given"] (defScope m_InvalidNumber) := ⟨rfl, rfl, rfl, by decide +kernel, rfl, by decide +kernel, by decide +kernel⟩
theorem xi_InvalidNumber (X : K.In h) (G : h.Ns mainGlobals mg) (c : SaysD fa fn K) (e : ex K = true) : ExcI P w K mg base "InvalidNumber" "given" := by
  obtain ⟨fd, F⟩ := c.def_ 61 (d := defM "InvalidNumber" "__init__" "InvalidNumber.__init__" m_InvalidNumber) rfl
  exact excI_of (st := m_InvalidNumber) (q := "InvalidNumber.__init__") X G (c.fact 54 (f := .glo "InvalidNumber") rfl) (List.all_eq_true.mp (ex_at e 2 rfl) ("InvalidNumber", "given") (by decide)) F sc_InvalidNumber (fun cdv A outer s H E => pss_one (ps_ost (pv 0) (pv 1))) (fun _ _ _ _ _ _ us hl => match us, hl with | [_, _], _ => rfl) (fun _ _ _ _ _ _ _ _ => rfl)
theorem sc_InvalidLine : FnScope ["self", "given"] ["self", "given"] (defScope m_InvalidLine) := ⟨rfl, rfl, rfl, by decide +kernel, rfl, by decide +kernel, by decide +kernel⟩
theorem xi_InvalidLine (X : K.In h) (G : h.Ns mainGlobals mg) (c : SaysD fa fn K) (e : ex K = true) : ExcI P w K mg base "InvalidLine" "given" := by
  obtain ⟨fd, F⟩ := c.def_ 62 (d := defM "InvalidLine" "__init__" "InvalidLine.__init__" m_InvalidLine) rfl
  exact excI_of (st := m_InvalidLine) (q := "InvalidLine.__init__") X G (c.fact 55 (f := .glo "InvalidLine") rfl) (List.all_eq_true.mp (ex_at e 2 rfl) ("InvalidLine", "given") (by decide)) F sc_InvalidLine (fun cdv A outer s H E => pss_one (ps_ost (pv 0) (pv 1))) (fun _ _ _ _ _ _ us hl => match us, hl with | [_, _], _ => rfl) (fun _ _ _ _ _ _ _ _ => rfl)
theorem sc_NotAWeb : FnScope ["self", "given"] ["self", "given"] (defScope m_NotAWeb) := ⟨rfl, rfl, rfl, by decide +kernel, rfl, by decide +kernel, by decide +kernel⟩
theorem xi_NotAWeb (X : K.In h) (G : h.Ns mainGlobals mg) (c : SaysD fa fn K) (e : ex K = true) : ExcI P w K mg base "NotAWeb" "given" := by
  obtain ⟨fd, F⟩ := c.def_ 63 (d := defM "NotAWeb" "__init__" "NotAWeb.__init__" m_NotAWeb) rfl
  exact excI_of (st := m_NotAWeb) (q := "NotAWeb.__init__") X G (c.fact 56 (f := .glo "NotAWeb") rfl) (List.all_eq_true.mp (ex_at e 2 rfl) ("NotAWeb", "given") (by decide)) F sc_NotAWeb (fun cdv A outer s H E => pss_one (ps_ost (pv 0) (pv 1))) (fun _ _ _ _ _ _ us hl => match us, hl with | [_, _], _ => rfl) (fun _ _ _ _ _ _ _ _ => rfl)
theorem sc_NotAParty : FnScope ["self", "given"] ["self", "given"] (defScope m_NotAParty) := ⟨rfl, rfl, rfl, by decide +kernel, rfl, by decide +kernel, by decide +kernel⟩
theorem xi_NotAParty (X : K.In h) (G : h.Ns mainGlobals mg) (c : SaysD fa fn K) (e : ex K = true) : ExcI P w K mg base "NotAParty" "given" := by
  obtain ⟨fd, F⟩ := c.def_ 64 (d := defM "NotAParty" "__init__" "NotAParty.__init__" m_NotAParty) rfl
  exact excI_of (st := m_NotAParty) (q := "NotAParty.__init__") X G (c.fact 57 (f := .glo "NotAParty") rfl) (List.all_eq_true.mp (ex_at e 2 rfl) ("NotAParty", "given") (by decide)) F sc_NotAParty (fun cdv A outer s H E => pss_one (ps_ost (pv 0) (pv 1))) (fun _ _ _ _ _ _ us hl => match us, hl with | [_, _], _ => rfl) (fun _ _ _ _ _ _ _ _ => rfl)
theorem sc_InvalidFriends : FnScope ["self", "index"] ["self", "index"] (defScope m_InvalidFriends) := ⟨rfl, rfl, rfl, by decide +kernel, rfl, by decide +kernel, by decide +kernel⟩
theorem xi_InvalidFriends (X : K.In h) (G : h.Ns mainGlobals mg) (c : SaysD fa fn K) (e : ex K = true) : ExcI P w K mg base "InvalidFriends" "index" := by
  obtain ⟨fd, F⟩ := c.def_ 65 (d := defM "InvalidFriends" "__init__" "InvalidFriends.__init__" m_InvalidFriends) rfl
  exact excI_of (st := m_InvalidFriends) (q := "InvalidFriends.__init__") X G (c.fact 58 (f := .glo "InvalidFriends") rfl) (List.all_eq_true.mp (ex_at e 2 rfl) ("InvalidFriends", "index") (by decide)) F sc_InvalidFriends (fun cdv A outer s H E => pss_one (ps_ost (pv 0) (pv 1))) (fun _ _ _ _ _ _ us hl => match us, hl with | [_, _], _ => rfl) (fun _ _ _ _ _ _ _ _ => rfl)
theorem sc_InvalidFoes : FnScope ["self", "index"] ["self", "index"] (defScope m_InvalidFoes) := ⟨rfl, rfl, rfl, by decide +kernel, rfl, by decide +kernel, by decide +kernel⟩
theorem xi_InvalidFoes (X : K.In h) (G : h.Ns mainGlobals mg) (c : SaysD fa fn K) (e : ex K = true) : ExcI P w K mg base "InvalidFoes" "index" := by
  obtain ⟨fd, F⟩ := c.def_ 66 (d := defM "InvalidFoes" "__init__" "InvalidFoes.__init__" m_InvalidFoes) rfl
  exact excI_of (st := m_InvalidFoes) (q := "InvalidFoes.__init__") X G (c.fact 59 (f := .glo "InvalidFoes") rfl) (List.all_eq_true.mp (ex_at e 2 rfl) ("InvalidFoes", "index") (by decide)) F sc_InvalidFoes (fun cdv A outer s H E => pss_one (ps_ost (pv 0) (pv 1))) (fun _ _ _ _ _ _ us hl => match us, hl with | [_, _], _ => rfl) (fun _ _ _ _ _ _ _ _ => rfl)
theorem sc_InvalidDeed : FnScope ["self", "index"] ["self", "index"] (defScope m_InvalidDeed) := ⟨rfl, rfl, rfl, by decide +kernel, rfl, by decide +kernel, by decide +kernel⟩
theorem xi_InvalidDeed (X : K.In h) (G : h.Ns mainGlobals mg) (c : SaysD fa fn K) (e : ex K = true) : ExcI P w K mg base "InvalidDeed" "index" := by
  obtain ⟨fd, F⟩ := c.def_ 67 (d := defM "InvalidDeed" "__init__" "InvalidDeed.__init__" m_InvalidDeed) rfl
  exact excI_of (st := m_InvalidDeed) (q := "InvalidDeed.__init__") X G (c.fact 60 (f := .glo "InvalidDeed") rfl) (List.all_eq_true.mp (ex_at e 2 rfl) ("InvalidDeed", "index") (by decide)) F sc_InvalidDeed (fun cdv A outer s H E => pss_one (ps_ost (pv 0) (pv 1))) (fun _ _ _ _ _ _ us hl => match us, hl with | [_, _], _ => rfl) (fun _ _ _ _ _ _ _ _ => rfl)
theorem sc_Barred : FnScope ["self", "reason"] ["self", "reason"] (defScope m_Barred) := ⟨rfl, rfl, rfl, by decide +kernel, rfl, by decide +kernel, by decide +kernel⟩
theorem xi_Barred (X : K.In h) (G : h.Ns mainGlobals mg) (c : SaysD fa fn K) (e : ex K = true) : ExcI P w K mg base "Barred" "reason" := by
  obtain ⟨fd, F⟩ := c.def_ 68 (d := defM "Barred" "__init__" "Barred.__init__" m_Barred) rfl
  exact excI_of (st := m_Barred) (q := "Barred.__init__") X G (c.fact 61 (f := .glo "Barred") rfl) (List.all_eq_true.mp (ex_at e 2 rfl) ("Barred", "reason") (by decide)) F sc_Barred (fun cdv A outer s H E => pss_one (ps_ost (pv 0) (pv 1))) (fun _ _ _ _ _ _ us hl => match us, hl with | [_, _], _ => rfl) (fun _ _ _ _ _ _ _ _ => rfl)
theorem law_ok (X : K.In h) (G : h.Ns mainGlobals mg) (S : SaysX fa fn ts tf ex w h K) : ∃ fd, (∀ (s : Shared) (v : Value), BindsTo s fd ⟨[v], []⟩ [("script", v)]) ∧ ∀ base : Heap, (∀ p ∈ tf.map (cT K), LamX.TabB base mg p.1 p.2) → FnG P w K mg base (L2.CX P w) 43 (ga K "law") fd ["script"] (spM ⟨K, mg⟩ F_law) := by
  have c := S.t.d
  have e := S.more
  obtain ⟨fd, F⟩ := c.def_ 52 (d := defT "law" s_law) rfl
  refine ⟨fd, fun s v => FunD.bindsA (ps := ["script"]) F (fun _ _ _ _ _ _ us hl => match us, hl with | [_], _ => rfl) s [v] rfl, fun base TB => ?_⟩
  have Fd_is_whole : FunAt K mg "is_whole" s_is_whole := funAt_of X G c "is_whole" s_is_whole 0 0 rfl rfl
  have Fd_is_between : FunAt K mg "is_between" s_is_between := funAt_of X G c "is_between" s_is_between 1 1 rfl rfl
  have Fd_is_string : FunAt K mg "is_string" s_is_string := funAt_of X G c "is_string" s_is_string 2 2 rfl rfl
  have Fd_is_made_of : FunAt K mg "is_made_of" s_is_made_of := funAt_of X G c "is_made_of" s_is_made_of 3 3 rfl rfl
  have Fd_is_tuple_of : FunAt K mg "is_tuple_of" s_is_tuple_of := funAt_of X G c "is_tuple_of" s_is_tuple_of 4 4 rfl rfl
  have Fd_first_wrong : FunAt K mg "first_wrong" s_first_wrong := funAt_of X G c "first_wrong" s_first_wrong 5 5 rfl rfl
  have Fd_words_of : FunAt K mg "words_of" s_words_of := funAt_of X G c "words_of" s_words_of 6 6 rfl rfl
  have Fd_number_in : FunAt K mg "number_in" s_number_in := funAt_of X G c "number_in" s_number_in 7 7 rfl rfl
  have Fd_numbers_in : FunAt K mg "numbers_in" s_numbers_in := funAt_of X G c "numbers_in" s_numbers_in 8 8 rfl rfl
  have Fd_is_people : FunAt K mg "is_people" s_is_people := funAt_of X G c "is_people" s_is_people 9 9 rfl rfl
  have Fd_is_pair : FunAt K mg "is_pair" s_is_pair := funAt_of X G c "is_pair" s_is_pair 10 10 rfl rfl
  have Fd_is_next : FunAt K mg "is_next" s_is_next := funAt_of X G c "is_next" s_is_next 11 11 rfl rfl
  have Fd_wrong_pair : FunAt K mg "wrong_pair" s_wrong_pair := funAt_of X G c "wrong_pair" s_wrong_pair 12 12 rfl rfl
  have Fd_check_web : FunAt K mg "check_web" s_check_web := funAt_of X G c "check_web" s_check_web 13 13 rfl rfl
  have Fd_is_person : FunAt K mg "is_person" s_is_person := funAt_of X G c "is_person" s_is_person 14 14 rfl rfl
  have Fd_check_person : FunAt K mg "check_person" s_check_person := funAt_of X G c "check_person" s_check_person 15 15 rfl rfl
  have Fd_check_other : FunAt K mg "check_other" s_check_other := funAt_of X G c "check_other" s_check_other 16 16 rfl rfl
  have Fd_is_lot : FunAt K mg "is_lot" s_is_lot := funAt_of X G c "is_lot" s_is_lot 17 17 rfl rfl
  have Fd_all_lots : FunAt K mg "all_lots" s_all_lots := funAt_of X G c "all_lots" s_all_lots 18 18 rfl rfl
  have Fd_ties_by : FunAt K mg "ties_by" s_ties_by := funAt_of X G c "ties_by" s_ties_by 19 19 rfl rfl
  have Fd_sign_of : FunAt K mg "sign_of" s_sign_of := funAt_of X G c "sign_of" s_sign_of 20 20 rfl rfl
  have Fd_are_tied : FunAt K mg "are_tied" s_are_tied := funAt_of X G c "are_tied" s_are_tied 21 21 rfl rfl
  have Fd_neighbours_of : FunAt K mg "neighbours_of" s_neighbours_of := funAt_of X G c "neighbours_of" s_neighbours_of 22 22 rfl rfl
  have Fd_signs_of : FunAt K mg "signs_of" s_signs_of := funAt_of X G c "signs_of" s_signs_of 23 23 rfl rfl
  have Fd_made_of : FunAt K mg "made_of" s_made_of := funAt_of X G c "made_of" s_made_of 24 24 rfl rfl
  have Fd_switched_by : FunAt K mg "switched_by" s_switched_by := funAt_of X G c "switched_by" s_switched_by 25 25 rfl rfl
  have Fd_part_of : FunAt K mg "part_of" s_part_of := funAt_of X G c "part_of" s_part_of 26 26 rfl rfl
  have Fd_parts_by : FunAt K mg "parts_by" s_parts_by := funAt_of X G c "parts_by" s_parts_by 27 27 rfl rfl
  have Fd_is_camp_by : FunAt K mg "is_camp_by" s_is_camp_by := funAt_of X G c "is_camp_by" s_is_camp_by 28 28 rfl rfl
  have Fd_camp_by : FunAt K mg "camp_by" s_camp_by := funAt_of X G c "camp_by" s_camp_by 29 29 rfl rfl
  have Fd_are_in_camps_by : FunAt K mg "are_in_camps_by" s_are_in_camps_by := funAt_of X G c "are_in_camps_by" s_are_in_camps_by 30 30 rfl rfl
  have Fd_count_camps_by : FunAt K mg "count_camps_by" s_count_camps_by := funAt_of X G c "count_camps_by" s_count_camps_by 31 31 rfl rfl
  have Fd_heart_by : FunAt K mg "heart_by" s_heart_by := funAt_of X G c "heart_by" s_heart_by 32 32 rfl rfl
  have Fd_check_camps : FunAt K mg "check_camps" s_check_camps := funAt_of X G c "check_camps" s_check_camps 33 33 rfl rfl
  have Fd_check_heart : FunAt K mg "check_heart" s_check_heart := funAt_of X G c "check_heart" s_check_heart 34 34 rfl rfl
  have Fd_at_heart : FunAt K mg "at_heart" s_at_heart := funAt_of X G c "at_heart" s_at_heart 35 35 rfl rfl
  have Fd_has_form : FunAt K mg "has_form" s_has_form := funAt_of X G c "has_form" s_has_form 36 36 rfl rfl
  have Fd_check_deed : FunAt K mg "check_deed" s_check_deed := funAt_of X G c "check_deed" s_check_deed 37 37 rfl rfl
  have Fd_web_behind : FunAt K mg "web_behind" s_web_behind := funAt_of X G c "web_behind" s_web_behind 38 38 rfl rfl
  have Fd_reason_against : FunAt K mg "reason_against" s_reason_against := funAt_of X G c "reason_against" s_reason_against 39 39 rfl rfl
  have Fd_check_party : FunAt K mg "check_party" s_check_party := funAt_of X G c "check_party" s_check_party 40 40 rfl rfl
  have Fd_copy_of : FunAt K mg "copy_of" s_copy_of := funAt_of X G c "copy_of" s_copy_of 41 41 rfl rfl
  have Fd_deed_in : FunAt K mg "deed_in" s_deed_in := funAt_of X G c "deed_in" s_deed_in 42 42 rfl rfl
  have Fd_said_of_deed : FunAt K mg "said_of_deed" s_said_of_deed := funAt_of X G c "said_of_deed" s_said_of_deed 43 43 rfl rfl
  have Fd_said_of_undo : FunAt K mg "said_of_undo" s_said_of_undo := funAt_of X G c "said_of_undo" s_said_of_undo 44 44 rfl rfl
  have Fd_said_of_heart : FunAt K mg "said_of_heart" s_said_of_heart := funAt_of X G c "said_of_heart" s_said_of_heart 45 45 rfl rfl
  have Fd_said_of_camp : FunAt K mg "said_of_camp" s_said_of_camp := funAt_of X G c "said_of_camp" s_said_of_camp 46 46 rfl rfl
  have Fd_said_of_word : FunAt K mg "said_of_word" s_said_of_word := funAt_of X G c "said_of_word" s_said_of_word 47 47 rfl rfl
  have Fd__law_pool : FunAt K mg "_law_pool" s__law_pool := funAt_of X G c "_law_pool" s__law_pool 48 48 rfl rfl
  have Fd__law_take : FunAt K mg "_law_take" s__law_take := funAt_of X G c "_law_take" s__law_take 49 49 rfl rfl
  have Fd__law_refusal : FunAt K mg "_law_refusal" s__law_refusal := funAt_of X G c "_law_refusal" s__law_refusal 50 50 rfl rfl
  have Fd__law_right : FunAt K mg "_law_right" s__law_right := funAt_of X G c "_law_right" s__law_right 51 51 rfl rfl
  have fr_isinstance : mg "isinstance" = none := free_ok X G (c.fact 93 (f := .free "isinstance") rfl)
  have fr_int : mg "int" = none := free_ok X G (c.fact 94 (f := .free "int") rfl)
  have fr_bool : mg "bool" = none := free_ok X G (c.fact 95 (f := .free "bool") rfl)
  have WI : WebI K mg := webI_of X G (c.fact 74 (f := .glo "Web") rfl) (c.fact 75 (f := .cls "Web") rfl) (ex_at e 4 rfl)
  have fr_str : mg "str" = none := free_ok X G (c.fact 96 (f := .free "str") rfl)
  have fr_all : mg "all" = none := free_ok X G (c.fact 97 (f := .free "all") rfl)
  have fr_tuple : mg "tuple" = none := free_ok X G (c.fact 98 (f := .free "tuple") rfl)
  have fr_len : mg "len" = none := free_ok X G (c.fact 99 (f := .free "len") rfl)
  have fr_enumerate : mg "enumerate" = none := free_ok X G (c.fact 100 (f := .free "enumerate") rfl)
  have gs_FIGURES : ∃ t, mg "FIGURES" = some (.str "0123456789" t) := str_ok X G (c.fact 101 (f := .str "FIGURES" "0123456789") rfl)
  have gi_MOST_PEOPLE : ∃ t, mg "MOST_PEOPLE" = some (.int (7) t) := int_ok X G (c.fact 102 (f := .int "MOST_PEOPLE" (7)) rfl)
  have tb_wrong_pair : TabH K mg base "wrong_pair" := by
    obtain ⟨fd2, F2⟩ := c.def_ 12 (d := defT "wrong_pair" s_wrong_pair) rfl
    exact tabH_of (st := s_wrong_pair) (q := "wrong_pair") (glo_ok X G (c.fact 12 (f := .glo "wrong_pair") rfl)) F2 (S.hd ("wrong_pair", none) (by decide)) (TB _ (List.mem_map.mpr ⟨("wrong_pair", none), by decide, rfl⟩))
  have xt_InvalidFoes : ExcT P w K mg base "InvalidFoes" "index" := excT_of (xi_InvalidFoes X G c e)
  have xt_InvalidFriends : ExcT P w K mg base "InvalidFriends" "index" := excT_of (xi_InvalidFriends X G c e)
  have xt_InvalidNumber : ExcT P w K mg base "InvalidNumber" "given" := excT_of (xi_InvalidNumber X G c e)
  have OT_Web : ObjT K mg "Web" fs_Web := objT_of X G (c.fact 74 (f := .glo "Web") rfl) (c.fact 75 (f := .cls "Web") rfl) (List.forall_mem_cons.mpr ⟨(c.fact 77 (f := .noat "Web" "people") rfl), List.forall_mem_cons.mpr ⟨(c.fact 78 (f := .noat "Web" "friends") rfl), List.forall_mem_cons.mpr ⟨(c.fact 79 (f := .noat "Web" "foes") rfl), List.forall_mem_cons.mpr ⟨(c.fact 80 (f := .noat "Web" "kept") rfl), fun _ h => nomatch h⟩⟩⟩⟩)
  have xt_NotAWeb : ExcT P w K mg base "NotAWeb" "given" := excT_of (xi_NotAWeb X G c e)
  have fr_zip : mg "zip" = none := free_ok X G (c.fact 103 (f := .free "zip") rfl)
  have fr_range : mg "range" = none := free_ok X G (c.fact 104 (f := .free "range") rfl)
  have fr_list : mg "list" = none := free_ok X G (c.fact 105 (f := .free "list") rfl)
  have fr_sorted : mg "sorted" = none := free_ok X G (c.fact 106 (f := .free "sorted") rfl)
  have gc_combinations : mg "combinations" = some (.type "itertools.combinations") := tygl_of X G (ex_at e 5 rfl)
  have fr_max : mg "max" = none := free_ok X G (c.fact 107 (f := .free "max") rfl)
  have fr_min : mg "min" = none := free_ok X G (c.fact 108 (f := .free "min") rfl)
  have gi_FOES : ∃ t, mg "FOES" = some (.int (-1) t) := int_ok X G (c.fact 109 (f := .int "FOES" (-1)) rfl)
  have gi_FRIENDS : ∃ t, mg "FRIENDS" = some (.int (1) t) := int_ok X G (c.fact 110 (f := .int "FRIENDS" (1)) rfl)
  have fr_set : mg "set" = none := free_ok X G (c.fact 111 (f := .free "set") rfl)
  have gs_OPEN : ∃ t, mg "OPEN" = some (.str "open" t) := str_ok X G (c.fact 112 (f := .str "OPEN" "open") rfl)
  have gs_WITH_FOES : ∃ t, mg "WITH_FOES" = some (.str "foes" t) := str_ok X G (c.fact 113 (f := .str "WITH_FOES" "foes") rfl)
  have gs_WITH_FRIENDS : ∃ t, mg "WITH_FRIENDS" = some (.str "friends" t) := str_ok X G (c.fact 114 (f := .str "WITH_FRIENDS" "friends") rfl)
  have xr_NotInCamps : ExcR K mg "NotInCamps" := ⟨⟨_, glo_ok X G (c.fact 63 (f := .glo "NotInCamps") rfl), (exc_ok (c.fact 66 (f := .exc "NotInCamps") rfl)).2.1, (exc_ok (c.fact 66 (f := .exc "NotInCamps") rfl)).1, (exc_ok (c.fact 66 (f := .exc "NotInCamps") rfl)).2.2.1, (exc_ok (c.fact 66 (f := .exc "NotInCamps") rfl)).2.2.2⟩⟩
  have gd_SIZES : GDictM w K mg "SIZES" tbl_SIZES := gdictM_of X G (c.fact 91 (f := .glo "SIZES") rfl) (S.t.tab 0 rfl) (ex_at e 8 rfl)
  have xt_InvalidDeed : ExcT P w K mg base "InvalidDeed" "index" := excT_of (xi_InvalidDeed X G c e)
  have gd_SIGNS : GDictM w K mg "SIGNS" tbl_SIGNS := gdictM_of X G (c.fact 92 (f := .glo "SIGNS") rfl) (S.t.tab 1 rfl) (ex_at e 9 rfl)
  have gs_NONE_parties : ∃ t, mg "NONE_parties" = some (.str "none" t) := str_ok X G (c.fact 115 (f := .str "NONE_parties" "none") rfl)
  have gs_ODD : ∃ t, mg "ODD" = some (.str "odd" t) := str_ok X G (c.fact 116 (f := .str "ODD" "odd") rfl)
  have gs_SAME : ∃ t, mg "SAME" = some (.str "same" t) := str_ok X G (c.fact 117 (f := .str "SAME" "same") rfl)
  have OT_Party : ObjT K mg "Party" fs_Party := objT_of X G (c.fact 67 (f := .glo "Party") rfl) (c.fact 68 (f := .cls "Party") rfl) (List.forall_mem_cons.mpr ⟨(c.fact 70 (f := .noat "Party" "web") rfl), List.forall_mem_cons.mpr ⟨(c.fact 71 (f := .noat "Party" "people") rfl), List.forall_mem_cons.mpr ⟨(c.fact 72 (f := .noat "Party" "deeds") rfl), List.forall_mem_cons.mpr ⟨(c.fact 73 (f := .noat "Party" "past") rfl), fun _ h => nomatch h⟩⟩⟩⟩)
  have xt_Barred : ExcT P w K mg base "Barred" "reason" := excT_of (xi_Barred X G c e)
  have xr_NothingToUndo : ExcR K mg "NothingToUndo" := ⟨⟨_, glo_ok X G (c.fact 62 (f := .glo "NothingToUndo") rfl), (exc_ok (c.fact 65 (f := .exc "NothingToUndo") rfl)).2.1, (exc_ok (c.fact 65 (f := .exc "NothingToUndo") rfl)).1, (exc_ok (c.fact 65 (f := .exc "NothingToUndo") rfl)).2.2.1, (exc_ok (c.fact 65 (f := .exc "NothingToUndo") rfl)).2.2.2⟩⟩
  have xt_NotAParty : ExcT P w K mg base "NotAParty" "given" := excT_of (xi_NotAParty X G c e)
  have IS_Party : InsI K mg "Party" := insI_of X G (c.fact 67 (f := .glo "Party") rfl) (c.fact 68 (f := .cls "Party") rfl) (ex_at e 10 rfl)
  have gs_DONE : ∃ t, mg "DONE" = some (.str "done" t) := str_ok X G (c.fact 118 (f := .str "DONE" "done") rfl)
  have gs_LOST : ∃ t, mg "LOST" = some (.str "not understood" t) := str_ok X G (c.fact 119 (f := .str "LOST" "not understood") rfl)
  have ET : ErrAll errs flds K mg := errAll_of X G (ex_at e 0 rfl)
  have EX : ErrX K mg errs := errX_of (fs := flds) X G (ex_at e 0 rfl) (ex_at e 1 rfl)
  have gs_NOTHING : ∃ t, mg "NOTHING" = some (.str "nothing" t) := str_ok X G (c.fact 120 (f := .str "NOTHING" "nothing") rfl)
  have gs_NONE_consoles : ∃ t, mg "NONE_consoles" = some (.str "none" t) := str_ok X G (c.fact 121 (f := .str "NONE_consoles" "none") rfl)
  have OT_Console : ObjT K mg "Console" fs_Console := objT_of X G (c.fact 81 (f := .glo "Console") rfl) (c.fact 82 (f := .cls "Console") rfl) (List.forall_mem_cons.mpr ⟨(c.fact 84 (f := .noat "Console" "party") rfl), fun _ h => nomatch h⟩)
  have xt_InvalidLine : ExcT P w K mg base "InvalidLine" "given" := excT_of (xi_InvalidLine X G c e)
  have fr_sum : mg "sum" = none := free_ok X G (c.fact 122 (f := .free "sum") rfl)
  have fr_abs : mg "abs" = none := free_ok X G (c.fact 123 (f := .free "abs") rfl)
  have fr_divmod : mg "divmod" = none := free_ok X G (c.fact 124 (f := .free "divmod") rfl)
  have fr_repr : mg "repr" = none := free_ok X G (c.fact 125 (f := .free "repr") rfl)
  have tb__law_right : TabH K mg base "_law_right" := by
    obtain ⟨fd2, F2⟩ := c.def_ 51 (d := defT "_law_right" s__law_right) rfl
    exact tabH_of (st := s__law_right) (q := "_law_right") (glo_ok X G (c.fact 51 (f := .glo "_law_right") rfl)) F2 (S.hd ("_law_right", none) (by decide)) (TB _ (List.mem_map.mpr ⟨("_law_right", none), by decide, rfl⟩))
  have WT : WebT K mg := webT_of OT_Web
  have At_Web___init__ : InitAt K mg "Web" "Web.__init__" s_Web___init__ [.tup [], .tup []] := by
    obtain ⟨fd2, F2⟩ := c.def_ 53 rfl
    exact initAt_of (st := s_Web___init__) X G (c.fact 74 (f := .glo "Web") rfl) (c.fact 76 (f := .mkr "Web") rfl) (fun _ => .cons (tup0_of (T := ⟨K, mg⟩) (ex_at e 6 rfl) _) (.cons (tup0_of (T := ⟨K, mg⟩) (ex_at e 7 rfl) _) .nil)) F2
  have At_Party___init__ : InitAt K mg "Party" "Party.__init__" s_Party___init__ [] := by
    obtain ⟨fd2, F2⟩ := c.def_ 54 rfl
    exact initAt_of (st := s_Party___init__) X G (c.fact 67 (f := .glo "Party") rfl) (c.fact 69 (f := .mkr "Party") rfl) (fun _ => .nil) F2
  have At_Party_do : MethAt K mg "Party" "do" "Party.do" s_Party_do := by
    obtain ⟨fd2, F2⟩ := c.def_ 55 (d := defM "Party" "do" "Party.do" s_Party_do) rfl
    exact methAt_of X G (c.fact 67 (f := .glo "Party") rfl) (c.fact 68 (f := .cls "Party") rfl) (c.fact 85 (f := .meth "Party" "do") rfl) F2
  have At_Party_undo : MethAt K mg "Party" "undo" "Party.undo" s_Party_undo := by
    obtain ⟨fd2, F2⟩ := c.def_ 56 (d := defM "Party" "undo" "Party.undo" s_Party_undo) rfl
    exact methAt_of X G (c.fact 67 (f := .glo "Party") rfl) (c.fact 68 (f := .cls "Party") rfl) (c.fact 86 (f := .meth "Party" "undo") rfl) F2
  have At_Party_camp : MethAt K mg "Party" "camp" "Party.camp" s_Party_camp := by
    obtain ⟨fd2, F2⟩ := c.def_ 57 (d := defM "Party" "camp" "Party.camp" s_Party_camp) rfl
    exact methAt_of X G (c.fact 67 (f := .glo "Party") rfl) (c.fact 68 (f := .cls "Party") rfl) (c.fact 87 (f := .meth "Party" "camp") rfl) F2
  have At_Party_at_heart : MethAt K mg "Party" "at_heart" "Party.at_heart" s_Party_at_heart := by
    obtain ⟨fd2, F2⟩ := c.def_ 58 (d := defM "Party" "at_heart" "Party.at_heart" s_Party_at_heart) rfl
    exact methAt_of X G (c.fact 67 (f := .glo "Party") rfl) (c.fact 68 (f := .cls "Party") rfl) (c.fact 88 (f := .meth "Party" "at_heart") rfl) F2
  have At_Console___init__ : InitAt K mg "Console" "Console.__init__" s_Console___init__ [] := by
    obtain ⟨fd2, F2⟩ := c.def_ 59 rfl
    exact initAt_of (st := s_Console___init__) X G (c.fact 81 (f := .glo "Console") rfl) (c.fact 83 (f := .mkr "Console") rfl) (fun _ => .nil) F2
  have At_Console_say : MethAt K mg "Console" "say" "Console.say" s_Console_say := by
    obtain ⟨fd2, F2⟩ := c.def_ 60 (d := defM "Console" "say" "Console.say" s_Console_say) rfl
    exact methAt_of X G (c.fact 81 (f := .glo "Console") rfl) (c.fact 82 (f := .cls "Console") rfl) (c.fact 89 (f := .meth "Console" "say") rfl) F2
  have D_is_whole := ok_is_whole (P := P) (w := w) (base := base) Fd_is_whole fr_isinstance fr_int fr_bool WI
  have D_is_between := ok_is_between (P := P) (w := w) (base := base) Fd_is_between D_is_whole
  have D_is_string := ok_is_string (P := P) (w := w) (base := base) Fd_is_string fr_isinstance fr_str WI
  have D_is_made_of := ok_is_made_of (P := P) (w := w) (base := base) Fd_is_made_of fr_all
  have D_is_tuple_of := ok_is_tuple_of (P := P) (w := w) (base := base) Fd_is_tuple_of fr_isinstance fr_tuple fr_len WI
  have D_first_wrong := okL_first_wrong (P := P) (w := w) (base := base) Fd_first_wrong fr_enumerate
  have D_words_of := ok_words_of (P := P) (w := w) (base := base) Fd_words_of 
  have D_number_in := ok_number_in (P := P) (w := w) (base := base) Fd_number_in D_is_made_of fr_len gs_FIGURES
  have D_numbers_in := ok_numbers_in (P := P) (w := w) (base := base) Fd_numbers_in D_number_in fr_tuple
  have D_is_people := ok_is_people (P := P) (w := w) (base := base) Fd_is_people D_is_between gi_MOST_PEOPLE
  have D_is_pair := ok_is_pair (P := P) (w := w) (base := base) Fd_is_pair D_is_tuple_of D_is_between fr_all
  have D_is_next := ok_is_next (P := P) (w := w) (base := base) Fd_is_next D_is_pair
  have D_wrong_pair := ok_wrong_pair (P := P) (w := w) (base := base) Fd_wrong_pair D_is_next D_first_wrong tb_wrong_pair
  have nw_Web1 := nw_Web1_of (P := P) (w := w) (base := base) At_Web___init__ D_is_people D_wrong_pair fr_isinstance fr_tuple xt_InvalidFoes xt_InvalidFriends xt_InvalidNumber WI OT_Web
  have nw_Web3 := nw_Web3_of (P := P) (w := w) (base := base) At_Web___init__ D_is_people D_wrong_pair fr_isinstance fr_tuple xt_InvalidFoes xt_InvalidFriends xt_InvalidNumber WI OT_Web
  have D_check_web := ok_check_web (P := P) (w := w) (base := base) Fd_check_web fr_isinstance xt_NotAWeb WI
  have D_is_person := ok_is_person (P := P) (w := w) (base := base) Fd_is_person D_is_between WT
  have D_check_person := ok_check_person (P := P) (w := w) (base := base) Fd_check_person D_is_person xt_InvalidNumber
  have D_check_other := ok_check_other (P := P) (w := w) (base := base) Fd_check_other D_check_person D_is_person xt_InvalidNumber
  have D_is_lot := ok_is_lot (P := P) (w := w) (base := base) Fd_is_lot D_is_person fr_isinstance fr_tuple fr_all fr_zip WI
  have D_all_lots := ok_all_lots (P := P) (w := w) (base := base) Fd_all_lots fr_range fr_int fr_list fr_sorted WT gc_combinations
  have D_ties_by := ok_ties_by (P := P) (w := w) (base := base) Fd_ties_by fr_tuple fr_sorted WT
  have D_sign_of := ok_sign_of (P := P) (w := w) (base := base) Fd_sign_of fr_max fr_min gi_FOES gi_FRIENDS WT
  have D_are_tied := ok_are_tied (P := P) (w := w) (base := base) Fd_are_tied D_sign_of
  have D_neighbours_of := ok_neighbours_of (P := P) (w := w) (base := base) Fd_neighbours_of D_are_tied fr_range WT
  have D_signs_of := ok_signs_of (P := P) (w := w) (base := base) Fd_signs_of gi_FOES gi_FRIENDS WT
  have D_made_of := ok_made_of (P := P) (w := w) (base := base) Fd_made_of fr_tuple fr_sorted gi_FOES gi_FRIENDS nw_Web3
  have D_switched_by := ok_switched_by (P := P) (w := w) (base := base) Fd_switched_by D_signs_of D_made_of WT
  have D_part_of := ok_part_of (P := P) (w := w) (base := base) Fd_part_of D_neighbours_of fr_len fr_tuple fr_sorted
  have D_parts_by := ok_parts_by (P := P) (w := w) (base := base) Fd_parts_by D_part_of fr_tuple fr_sorted fr_set fr_range WT
  have D_is_camp_by := ok_is_camp_by (P := P) (w := w) (base := base) Fd_is_camp_by D_signs_of gi_FRIENDS
  have D_camp_by := ok_camp_by (P := P) (w := w) (base := base) Fd_camp_by D_all_lots D_is_camp_by
  have D_are_in_camps_by := ok_are_in_camps_by (P := P) (w := w) (base := base) Fd_are_in_camps_by D_camp_by
  have D_count_camps_by := ok_count_camps_by (P := P) (w := w) (base := base) Fd_count_camps_by D_are_in_camps_by D_parts_by
  have D_heart_by := ok_heart_by (P := P) (w := w) (base := base) Fd_heart_by D_part_of D_camp_by gs_OPEN gs_WITH_FOES gs_WITH_FRIENDS
  have D_check_camps := ok_check_camps (P := P) (w := w) (base := base) Fd_check_camps D_check_web D_are_in_camps_by xr_NotInCamps
  have D_check_heart := ok_check_heart (P := P) (w := w) (base := base) Fd_check_heart D_check_web D_check_other D_check_camps
  have D_at_heart := ok_at_heart (P := P) (w := w) (base := base) Fd_at_heart D_check_heart D_heart_by
  have D_at_heart_falling := DefOk.alias (y := "at_heart_falling") (alias_of X G (c.fact 35 (f := .glo "at_heart") rfl) (c.fact 90 (f := .glo "at_heart_falling") rfl) (ex_at e 11 rfl)) D_at_heart
  have D_has_form := ok_has_form (P := P) (w := w) (base := base) Fd_has_form D_is_string fr_isinstance fr_tuple fr_len WI gd_SIZES
  have D_check_deed := ok_check_deed (P := P) (w := w) (base := base) Fd_check_deed D_has_form D_is_lot D_is_person xt_InvalidDeed
  have D_web_behind := ok_web_behind (P := P) (w := w) (base := base) Fd_web_behind D_switched_by D_made_of D_signs_of fr_max fr_min gd_SIGNS WT
  have D_reason_against := ok_reason_against (P := P) (w := w) (base := base) Fd_reason_against D_sign_of D_are_in_camps_by D_web_behind gs_NONE_parties gs_ODD gs_SAME gd_SIGNS
  have nd_Party := nd_Party_of (P := P) (w := w) (base := base) At_Party___init__ nw_Web1 OT_Party
  have nk_Party := nk_Party_of (P := P) (w := w) (base := base) At_Party___init__ nw_Web1 OT_Party
  have mo_Party_do := mo_Party_do_of (P := P) (w := w) (base := base) At_Party_do D_check_deed D_reason_against D_web_behind xt_Barred OT_Party
  have mk_Party_do := mk_Party_do_of (P := P) (w := w) (base := base) At_Party_do D_check_deed D_reason_against D_web_behind xt_Barred OT_Party
  have mo_Party_undo := mo_Party_undo_of (P := P) (w := w) (base := base) At_Party_undo xr_NothingToUndo OT_Party
  have mo_Party_camp := mo_Party_camp_of (P := P) (w := w) (base := base) At_Party_camp D_camp_by OT_Party
  have mo_Party_at_heart := mo_Party_at_heart_of (P := P) (w := w) (base := base) At_Party_at_heart OT_Party D_at_heart_falling
  have mk_Party_at_heart := mk_Party_at_heart_of (P := P) (w := w) (base := base) At_Party_at_heart OT_Party D_at_heart_falling
  have D_check_party := ok_check_party (P := P) (w := w) (base := base) Fd_check_party fr_isinstance xt_NotAParty IS_Party
  have D_copy_of := ok_copy_of (P := P) (w := w) (base := base) Fd_copy_of OT_Party nd_Party mo_Party_do
  have D_deed_in := ok_deed_in (P := P) (w := w) (base := base) Fd_deed_in 
  have D_said_of_deed := ok_said_of_deed (P := P) (w := w) (base := base) Fd_said_of_deed gs_DONE gs_LOST ET EX mo_Party_do
  have D_said_of_undo := ok_said_of_undo (P := P) (w := w) (base := base) Fd_said_of_undo gs_DONE gs_NOTHING EX mo_Party_undo
  have D_said_of_heart := ok_said_of_heart (P := P) (w := w) (base := base) Fd_said_of_heart D_is_person gs_NONE_consoles OT_Party mo_Party_at_heart
  have D_said_of_camp := ok_said_of_camp (P := P) (w := w) (base := base) Fd_said_of_camp fr_str gs_NONE_consoles mo_Party_camp
  have D_said_of_word := ok_said_of_word (P := P) (w := w) (base := base) Fd_said_of_word D_said_of_undo D_said_of_camp D_ties_by D_count_camps_by fr_str fr_len gs_LOST OT_Party
  have nd_Console := nd_Console_of (P := P) (w := w) (base := base) At_Console___init__ D_check_party D_copy_of OT_Console
  have nk_Console := nk_Console_of (P := P) (w := w) (base := base) At_Console___init__ D_check_party D_copy_of OT_Console
  have mo_Console_say := mo_Console_say_of (P := P) (w := w) (base := base) At_Console_say D_is_string D_words_of D_numbers_in D_said_of_deed D_deed_in D_said_of_heart D_said_of_word fr_str fr_len gs_LOST xt_InvalidLine OT_Console OT_Party WT gd_SIZES
  have mk_Console_say := mk_Console_say_of (P := P) (w := w) (base := base) At_Console_say D_is_string D_words_of D_numbers_in D_said_of_deed D_deed_in D_said_of_heart D_said_of_word fr_str fr_len gs_LOST xt_InvalidLine OT_Console OT_Party WT gd_SIZES
  have D__law_pool := ok__law_pool (P := P) (w := w) (base := base) Fd__law_pool fr_sum fr_abs
  have D__law_take := ok__law_take (P := P) (w := w) (base := base) Fd__law_take fr_divmod
  have D__law_refusal := okL__law_refusal (P := P) (w := w) (base := base) Fd__law_refusal fr_isinstance ET EX
  have D__law_right := ok__law_right (P := P) (w := w) (base := base) Fd__law_right D__law_take fr_str fr_repr nd_Party nd_Console mk_Console_say mo_Console_say D__law_refusal tb__law_right nk_Console
  exact fn_law F D__law_pool D__law_right fr_range fr_max fr_min fr_len
end
end G85
-- G85c
set_option maxRecDepth 100000
set_option maxHeartbeats 0
namespace G85
open PySem PySem.Spec PyProof.Rows L2 DL He
abbrev R : PySem.W.OpenRow := PySem.W.OpenLaw.row PySem.Challenge.rw_campwebs_k85_consoles_not_understood
abbrev hk : PySem.W.Hook := hookL (List.range 1500) fa fn ts tf ex
def ob (s : PySem.W.SharedT) : AlX := obsL (List.range 1500) fa fn ts tf ex (HandSHeadRun.getT s)
theorem ob_eq (s : PySem.W.SharedT) : ob s = hk.obs s.abs := obsL_eq (HandSHeadRun.getT_eq s)
def loose : List Str := "CampError" :: "InvalidNumber" :: "InvalidLine" :: "NotAWeb" :: "NotAParty" :: "InvalidFriends" :: "InvalidFoes" :: "InvalidDeed" :: "Barred" :: "NothingToUndo" :: "NotInCamps" :: "is_whole" :: "is_between" :: "is_string" :: "is_made_of" :: "is_tuple_of" :: "first_wrong" :: "words_of" :: "number_in" :: "numbers_in" :: "is_people" :: "is_pair" :: "wrong_pair" :: "is_next" :: "Web" :: "check_web" :: "parts_of" :: "is_person" :: "check_person" :: "check_other" :: "is_lot" :: "all_lots" :: "ties_by" :: "sign_of" :: "are_tied" :: "neighbours_of" :: "signs_of" :: "made_of" :: "switched_by" :: "part_of" :: "parts_by" :: "is_camp_by" :: "camp_by" :: "are_in_camps_by" :: "count_camps_by" :: "heart_by" :: "check_camps" :: "check_heart" :: "at_heart" :: "has_form" :: "check_deed" :: "web_behind" :: "reason_against" :: "Party" :: "check_party" :: "copy_of" :: "deed_in" :: "said_of_deed" :: "said_of_undo" :: "said_of_heart" :: "said_of_camp" :: "said_of_word" :: "Console" :: "_law_pool" :: "_law_take" :: "_law_of" :: "_law_refusal" :: "_law_right" :: "__name__" :: "FIGURES" :: "MOST_PEOPLE" :: "FRIENDS" :: "FOES" :: "WITH_FRIENDS" :: "WITH_FOES" :: "OPEN" :: "at_heart_falling" :: "SIZES" :: "SIGNS" :: "SAME" :: "ODD" :: "NONE_parties" :: "LOST" :: "DONE" :: "NONE_consoles" :: "NOTHING" :: []
noncomputable abbrev RN (b : Bool) (w : World) := HandSHeadRun.wholeF (fun p => HandSHeadRun.stepQ (HandSHeadRun.denQ HandSHeadRun.tabQ) p (w.withFollow "special-get-raises" b)) HandSHeadRun.fenceQ 15000 R.prog
theorem runt1 (w : World) : (RN true w).map (fun x => (HandSHeadRun.looksF R.prog x.1.heap x.2.abs, HandSHeadRun.seenQ (PySem.W.view R.prog [0, 93]) loose (importedModules R.prog.main.body) (fun s => PySem.W.xlAt (PySem.W.view R.prog [0, 93]) [] s && PySem.W.recOk R.toRowW.records s) x.2.abs)) = some (true, PySem.W.openGood (PySem.W.view R.prog [0, 93]) loose) := by
  kernel_rfl
theorem runt2 (w : World) : (RN true w).map (fun x => ob x.2) = some (hk.val (w.withFollow "special-get-raises" true)) := by
  kernel_rfl
theorem run2t (w : World) : HandSHeadRun.RunEqI R (PySem.W.view R.prog [0, 93]) hk ob 15000 loose (w.withFollow "special-get-raises" true) := run_parts (runt1 w) (runt2 w)
theorem runf1 (w : World) : (RN false w).map (fun x => (HandSHeadRun.looksF R.prog x.1.heap x.2.abs, HandSHeadRun.seenQ (PySem.W.view R.prog [0, 93]) loose (importedModules R.prog.main.body) (fun s => PySem.W.xlAt (PySem.W.view R.prog [0, 93]) [] s && PySem.W.recOk R.toRowW.records s) x.2.abs)) = some (true, PySem.W.openGood (PySem.W.view R.prog [0, 93]) loose) := by
  kernel_rfl
theorem runf2 (w : World) : (RN false w).map (fun x => ob x.2) = some (hk.val (w.withFollow "special-get-raises" false)) := by
  kernel_rfl
theorem run2f (w : World) : HandSHeadRun.RunEqI R (PySem.W.view R.prog [0, 93]) hk ob 15000 loose (w.withFollow "special-get-raises" false) := run_parts (runf1 w) (runf2 w)
theorem run (w : World) : HandSHeadRun.RunEqI R (PySem.W.view R.prog [0, 93]) hk ob 15000 loose w := by
  cases hb : w.params.followText "special-get-raises" with
  | true =>
    have h := run2t w
    rwa [← hb, World.withFollow_self] at h
  | false =>
    have h := run2f w
    rwa [← hb, World.withFollow_self] at h
end G85
-- G85p
set_option maxRecDepth 100000
set_option maxHeartbeats 8000000
/-! G85: the plain law. -/
namespace G85
open PySem PySem.Spec PyProof.Rows L2 DL
/-! ### slots -/
def nst (s : Slot) : Prop := ∀ M, s ≠ .sto M
theorem put1_zero {s x : Slot} {e : Ev} (h : nst s) : put1 (s :: e) 0 x = x :: e := by
  unfold put1
  cases s with
  | sto M => exact (h M rfl).elim
  | _ => rfl
theorem put1_succ {s x : Slot} {e : Ev} {i : Nat} : put1 (s :: e) (i + 1) x = s :: put1 e i x := by
  unfold put1
  rw [List.getElem?_cons_succ]
  cases e[i]? with
  | none => rfl
  | some r => cases r <;> rfl
theorem nst_no : nst .no := fun _ z => nomatch z
theorem nst_val {d : D} : nst (.val d) := fun _ z => nomatch z
theorem stoOf_one {M : List D} : stoOf [.sto M] = some M := rfl
theorem stoOf_cons {s t : Slot} {e : Ev} : stoOf (s :: t :: e) = stoOf (t :: e) := by
  unfold stoOf
  rw [List.getLast?_cons_cons]
theorem setSto_one {M M' : List D} : setSto [.sto M] M' = [.sto M'] := rfl
theorem setSto_cons {s t : Slot} {e : Ev} {M : List D} : setSto (s :: t :: e) M = s :: setSto (t :: e) M := by
  unfold setSto
  simp
theorem cut_map (xs : List Int) (lo hi : Option Int) : ∃ ys : List Int, DL.cutD (xs.map .int) lo hi = ys.map .int := by
  unfold DL.cutD
  rw [List.length_map]
  exact ⟨(xs.drop (HT.sIx xs.length 0 lo)).take (HT.sIx xs.length xs.length hi - HT.sIx xs.length 0 lo), by rw [List.map_take, List.map_drop]⟩
theorem two_le (n : Nat) (h : n ≤ 1000) : n ≤ sizeLine := by rw [sizeLine_eq]; omega
theorem look_np {env : Ev} {d : D} (h : ∀ n, d ≠ .ptr n) : look env d = some d := by
  cases d with
  | ptr n => exact (h n rfl).elim
  | _ => rfl
/-! ### the pool -/
def poolBody : FS := (S.seq (S.set 3 (E.bin modD (E.bin addD (E.bin addD (E.bin mulD (E.var 3) (E.cst (.int 48271))) (E.bin mulD (E.bin modD (E.var 5) (E.cst (.int 2147483399))) (E.cst (.int 19)))) (E.cst (.int 7))) (E.cst (.int 2147483399)))) S.nop)
theorem pool_loop {a b c w : D} {M : List D} : ∀ (ns : List Int) (m : Int) (x : Slot), nst x → ∃ m' x', nst x' ∧ loopS (.nm 5) poolBody (ns.map .int) [.val a, .val b, .val c, .val (.int m), .val w, x, .sto M] = .nx [.val a, .val b, .val c, .val (.int m'), .val w, x', .sto M]
  | [], m, x, h => ⟨m, x, h, rfl⟩
  | n :: ns, m, x, h => by
    obtain ⟨m', x', h', e⟩ := pool_loop (a := a) (b := b) (c := c) (w := w) (M := M) ns ((m * 48271 + n.fmod 2147483399 * 19 + 7).fmod 2147483399) (.val (.int n)) nst_val
    refine ⟨m', x', h', ?_⟩
    rw [← e]
    rw [List.map_cons, loopS]
    simp only [bindT, put1_succ, put1_zero h]
    simp [poolBody, S.seq, S.set, S.nop, E.bin, E.var, E.cst, rd, look, frz, mulD, modD, addD, iiD, put1_succ, put1_zero nst_val]
def wideI : Int := 10 ^ 64 * 10 ^ 64 * 10 ^ 64 * 10 ^ 64 * 10 ^ 64 * 10 ^ 64
def wideE : FE := (E.bin mulW (E.bin mulW (E.bin mulW (E.bin mulW (E.bin mulW (E.bin powD (E.cst (.int 10)) (E.cst (.int 64))) (E.bin powD (E.cst (.int 10)) (E.cst (.int 64)))) (E.bin powD (E.cst (.int 10)) (E.cst (.int 64)))) (E.bin powD (E.cst (.int 10)) (E.cst (.int 64)))) (E.bin powD (E.cst (.int 10)) (E.cst (.int 64)))) (E.bin powD (E.cst (.int 10)) (E.cst (.int 64))))
theorem B_pool : B__law_pool = S.seq (S.par [2, 3] (A.cons (E.c1 sumD (E.sl (E.var 0) (P.at (E.var 1)) (P.at (E.bin addD (E.var 1) (E.cst (.int 1)))))) (A.cons (E.bin addD (E.cst (.int 50021)) (E.bin mulD (E.cst (.int 977)) (E.var 1))) A.nil))) (S.seq (S.set 4 wideE) (S.seq (S.for_ (I.seq (E.sl (E.var 0) P.no (P.at (E.cst (.int 12))))) (.nm 5) poolBody)
  (S.seq (S.ret (E.mk (E.lst (A.cons (E.ite (Tt.or (Tt.val (E.bin ltD (E.var 2) (E.cst (.int 0)))) (Tt.val (E.bin geD (E.var 2) (E.bin powD (E.cst (.int 10)) (E.cst (.int 18)))))) (E.bin modD (E.c1 absD (E.var 2)) (E.var 4)) (E.cst (.int 0))) (A.cons (E.var 3) (A.cons (E.cst (.int 0)) A.nil)))))) S.nop))) := rfl
theorem F_pool (M : List D) (ns : List Int) (k : Int) : ∃ a b, F__law_pool M [.scr ns, .int k] = .ok (.ptr M.length) (M ++ [.lst [.int a, .int b, .int 0]]) := by
  obtain ⟨cs, hc⟩ := cut_map ns (some k) (some (k + 1))
  obtain ⟨ts, ht⟩ := cut_map ns none (some 12)
  obtain ⟨m', x', h', hl⟩ := pool_loop (a := .scr ns) (b := .int k) (c := .int cs.sum) (w := .int wideI) (M := M) ts (50021 + 977 * k) .no nst_no
  have e0 : F__law_pool M [.scr ns, .int k] = runM 6 B__law_pool M [.scr ns, .int k] := rfl
  have e1 : envOf [.scr ns, .int k] (6 - [D.scr ns, D.int k].length) [.sto M] = [.val (.scr ns), .val (.int k), .no, .no, .no, .no, .sto M] := rfl
  have s1 : (S.par [2, 3] (A.cons (E.c1 sumD (E.sl (E.var 0) (P.at (E.var 1)) (P.at (E.bin addD (E.var 1) (E.cst (.int 1)))))) (A.cons (E.bin addD (E.cst (.int 50021)) (E.bin mulD (E.cst (.int 977)) (E.var 1))) A.nil))) [.val (.scr ns), .val (.int k), .no, .no, .no, .no, .sto M]
      = .nx [.val (.scr ns), .val (.int k), .val (.int cs.sum), .val (.int (50021 + 977 * k)), .no, .no, .sto M] := by
    simp [S.par, A.cons, A.nil, E.c1, E.sl, E.var, P.at, E.bin, E.cst, rd, look, frz, sliceD, hc, sumD, addD, mulD, iiD, bindTs, bindT, put1_succ, put1_zero nst_no]
  have wd : wideE [.val (.scr ns), .val (.int k), .val (.int cs.sum), .val (.int (50021 + 977 * k)), .no, .no, .sto M] = .ok (.dv (.int wideI)) [.val (.scr ns), .val (.int k), .val (.int cs.sum), .val (.int (50021 + 977 * k)), .no, .no, .sto M] := by kernel_rfl
  have fo : (S.for_ (I.seq (E.sl (E.var 0) P.no (P.at (E.cst (.int 12))))) (.nm 5) poolBody) [.val (.scr ns), .val (.int k), .val (.int cs.sum), .val (.int (50021 + 977 * k)), .val (.int wideI), .no, .sto M] = .nx [.val (.scr ns), .val (.int k), .val (.int cs.sum), .val (.int m'), .val (.int wideI), x', .sto M] := by
    rw [← hl]
    simp [S.for_, I.seq, E.sl, E.var, P.at, P.no, E.cst, rd, look, frz, sliceD, ht, itemsD]
  have rt : ∃ a, (S.ret (E.mk (E.lst (A.cons (E.ite (Tt.or (Tt.val (E.bin ltD (E.var 2) (E.cst (.int 0)))) (Tt.val (E.bin geD (E.var 2) (E.bin powD (E.cst (.int 10)) (E.cst (.int 18)))))) (E.bin modD (E.c1 absD (E.var 2)) (E.var 4)) (E.cst (.int 0))) (A.cons (E.var 3) (A.cons (E.cst (.int 0)) A.nil))))))
      [.val (.scr ns), .val (.int k), .val (.int cs.sum), .val (.int m'), .val (.int wideI), x', .sto M] = .rt (.ptr M.length) [.val (.scr ns), .val (.int k), .val (.int cs.sum), .val (.int m'), .val (.int wideI), x', .sto (M ++ [.lst [.int a, .int m', .int 0]])] := by
    have w0 : wideI ≠ 0 := by decide +kernel
    have l3 := two_le 3 (by decide)
    by_cases q : cs.sum < 0 ∨ 1000000000000000000 ≤ cs.sum
    · refine ⟨(if cs.sum < 0 then -cs.sum else cs.sum).fmod wideI, ?_⟩
      rcases q with q | q
      · simp [S.ret, E.mk, E.lst, A.cons, A.nil, E.ite, Tt.or, Tt.val, E.bin, E.c1, E.var, E.cst, rd, look, frz, ltD, geD, cmD, powD, iiD, modD, absD, q, w0, l3, stoOf_cons, stoOf_one, setSto_cons, setSto_one]
      · by_cases q2 : cs.sum < 0
        · simp [S.ret, E.mk, E.lst, A.cons, A.nil, E.ite, Tt.or, Tt.val, E.bin, E.c1, E.var, E.cst, rd, look, frz, ltD, geD, cmD, powD, iiD, modD, absD, q2, w0, l3, stoOf_cons, stoOf_one, setSto_cons, setSto_one]
        · simp [S.ret, E.mk, E.lst, A.cons, A.nil, E.ite, Tt.or, Tt.val, E.bin, E.c1, E.var, E.cst, rd, look, frz, ltD, geD, cmD, powD, iiD, modD, absD, q, q2, w0, l3, stoOf_cons, stoOf_one, setSto_cons, setSto_one]
    · refine ⟨0, ?_⟩
      have q1 : ¬ cs.sum < 0 := fun z => q (.inl z)
      have q2 : ¬ 1000000000000000000 ≤ cs.sum := fun z => q (.inr z)
      simp [S.ret, E.mk, E.lst, A.cons, A.nil, E.ite, Tt.or, Tt.val, E.bin, E.c1, E.var, E.cst, rd, look, frz, ltD, geD, cmD, powD, iiD, modD, absD, q1, q2, w0, l3, stoOf_cons, stoOf_one, setSto_cons, setSto_one]
  obtain ⟨a, rt⟩ := rt
  refine ⟨a, m', ?_⟩
  rw [e0]
  unfold runM
  rw [e1, B_pool]
  simp only [S.seq, s1, S.set, wd, Out.toS_ok, frz, put1_succ, put1_zero nst_no, fo, rt]
  rw [stoOf_cons, stoOf_cons, stoOf_cons, stoOf_cons, stoOf_cons, stoOf_cons, stoOf_one]

theorem rd_int {e : Ev} {i : Int} : rd e (.dv (.int i)) = some (.int i) := rfl
theorem rd_str {e : Ev} {i : Str} : rd e (.dv (.str i)) = some (.str i) := rfl
theorem rd_bl {e : Ev} {i : Bool} : rd e (.dv (.bl i)) = some (.bl i) := rfl
theorem rd_non {e : Ev} : rd e (.dv .non) = some .non := rfl
theorem rd_tup {e : Ev} {i : List D} : rd e (.dv (.tup i)) = some (.tup i) := rfl
theorem rd_lst {e : Ev} {i : List D} : rd e (.dv (.lst i)) = some (.lst i) := rfl
theorem rd_scr {e : Ev} {i : List Int} : rd e (.dv (.scr i)) = some (.scr i) := rfl
theorem rd_x1 {e : Ev} {c f : Str} {d : D} : rd e (.dv (.exc1 c f d)) = some (.exc1 c f d) := rfl
theorem rd_x0 {e : Ev} {c : Str} : rd e (.dv (.exc0 c)) = some (.exc0 c) := rfl
theorem rd_ptr {e : Ev} {n : Nat} {M : List D} (h : stoOf e = some M) : rd e (.dv (.ptr n)) = lookP n M[n]? := by
  show look e (.ptr n) = _
  unfold look
  dsimp only
  rw [h]
  rfl
theorem lookP_lst {n : Nat} {xs : List D} : lookP n (some (.lst xs)) = some (.lst xs) := rfl
theorem frz_dv {e : Ev} {d : D} : frz e (.dv d) = some (d, e) := rfl
theorem ev_cst {d : D} {e : Ev} : E.cst d e = .ok (.dv d) e := rfl
theorem ev_var {i : Nat} {e : Ev} {d : D} (h : e[i]? = some (.val d)) : E.var i e = .ok (.dv d) e := by
  unfold E.var; rw [h]
theorem ev_bin {op : D → D → Option D} {f g : FE} {e e1 e2 : Ev} {a b : EV} {x y z : D} (h1 : f e = .ok a e1) (h2 : g e1 = .ok b e2) (h3 : rd e2 a = some x) (h4 : rd e2 b = some y) (h5 : op x y = some z) : E.bin op f g e = .ok (.dv z) e2 := by
  unfold E.bin; rw [h1, Out.bind_ok, h2, Out.bind_ok, h3, h4]; dsimp only; rw [h5]
theorem ev_c1 {op : D → Option D} {f : FE} {e e1 : Ev} {a : EV} {x z : D} (h1 : f e = .ok a e1) (h3 : rd e1 a = some x) (h5 : op x = some z) : E.c1 op f e = .ok (.dv z) e1 := by
  unfold E.c1; rw [h1, Out.bind_ok, h3]; dsimp only; rw [h5]
theorem ev_nil {e : Ev} : A.nil e = .ok [] e := rfl
theorem ev_cons {f : FE} {g : FA} {e e1 e2 e3 : Ev} {a : EV} {d : D} {ds : List D} (h1 : f e = .ok a e1) (h2 : frz e1 a = some (d, e2)) (h3 : g e2 = .ok ds e3) : A.cons f g e = .ok (d :: ds) e3 := by
  unfold A.cons; rw [h1, Out.bind_ok, h2]; dsimp only; rw [h3, Out.bind_ok]
theorem ev_cb {op : List D → Option D} {g : FA} {e e1 : Ev} {ds : List D} {z : D} (h1 : g e = .ok ds e1) (h2 : op ds = some z) : E.cb op g e = .ok (.dv z) e1 := by
  unfold E.cb; rw [h1, Out.bind_ok, h2]
theorem ev_val {f : FE} {e e1 : Ev} {a : EV} {b : Bool} (h1 : f e = .ok a e1) (h2 : rd e1 a = some (.bl b)) : Tt.val f e = .ok b e1 := by
  unfold Tt.val; rw [h1, Out.bind_ok, h2]
theorem ev_set {i : Nat} {f : FE} {e e1 e2 : Ev} {a : EV} {d : D} (h1 : f e = .ok a e1) (h2 : frz e1 a = some (d, e2)) : S.set i f e = .nx (put1 e2 i (.val d)) := by
  unfold S.set; rw [h1, Out.toS_ok, h2]
theorem ev_ret {f : FE} {e e1 e2 : Ev} {a : EV} {d : D} (h1 : f e = .ok a e1) (h2 : frz e1 a = some (d, e2)) : S.ret f e = .rt d e2 := by
  unfold S.ret; rw [h1, Out.toS_ok, h2]
theorem ev_asg {tg : Tgt} {f : FE} {e e1 e2 e3 : Ev} {a : EV} {d : D} (h1 : f e = .ok a e1) (h2 : frz e1 a = some (d, e2)) (h3 : bindT tg d e2 = some e3) : S.asg tg f e = .nx e3 := by
  unfold S.asg; rw [h1, Out.toS_ok, h2]; dsimp only; rw [h3]
theorem ev_ifT {t : FB} {f g : FS} {e e1 : Ev} (h : t e = .ok true e1) : S.ifs t f g e = f e1 := by
  unfold S.ifs; rw [h, Out.toS_ok, if_pos rfl]
theorem ev_ifF {t : FB} {f g : FS} {e e1 : Ev} (h : t e = .ok false e1) : S.ifs t f g e = g e1 := by
  unfold S.ifs; rw [h, Out.toS_ok, if_neg (by decide)]
theorem ev_seq {f g : FS} {e e1 : Ev} (h : f e = .nx e1) : S.seq f g e = g e1 := by
  unfold S.seq; rw [h]
theorem ev_rt {f g : FS} {e e1 : Ev} {d : D} (h : f e = .rt d e1) : S.seq f g e = .rt d e1 := by
  unfold S.seq; rw [h]
theorem mul_l {i j : Int} (h : -18446744073709551616 < i ∧ i < 18446744073709551616) : mulD (.int i) (.int j) = some (.int (i * j)) := by
  simp [mulD, iiD, h]
theorem mul_r {i j : Int} (h : -18446744073709551616 < j ∧ j < 18446744073709551616) : mulD (.int i) (.int j) = some (.int (i * j)) := by
  simp [mulD, iiD, h]
theorem mod_nz {i j : Int} (h : j ≠ 0) : modD (.int i) (.int j) = some (.int (i.fmod j)) := by
  simp [modD, iiD, h]
theorem six_set {e : Ev} {i : Nat} {k : Int} {d : D} {n : Nat} {M : List D} {xs : List D} (h1 : e[i]? = some (.val (.ptr n))) (h2 : stoOf e = some M) (h3 : M[n]? = some (.lst xs)) (h4 : 0 ≤ k ∧ k < xs.length) : bindT (.six i k) d e = some (setSto e (M.set n (.lst (xs.set k.toNat d)))) := by
  rw [bindT]; unfold sixE; rw [h1, h2]; dsimp only; unfold sixM; rw [h3]; dsimp only; rw [if_pos h4]
/-! ### take -/
theorem dig (x m : Int) (h : 0 < m) : 0 ≤ x.fmod m ∧ x.fmod m < m := ⟨Int.fmod_nonneg_of_pos _ h, Int.fmod_lt_of_pos _ h⟩
def takeA : FS := (S.ifs (Tt.val (E.bin gtD (E.bin ixD (E.var 0) (E.cst (.int 0))) (E.cst (.int 0)))) (S.seq (S.asg (.tp [(.six 0 0), (.nm 2)]) (E.cb dvmD (A.cons (E.bin ixD (E.var 0) (E.cst (.int 0))) (A.cons (E.var 1) A.nil)))) (S.seq (S.ret (E.var 2)) S.nop)) S.nop)
theorem B_take : B__law_take = S.seq takeA (S.seq (S.asg (.six 0 2) (E.bin addD (E.bin ixD (E.var 0) (E.cst (.int 2))) (E.cst (.int 1)))) (S.seq (S.set 3 (E.bin modD (E.bin addD (E.bin ixD (E.var 0) (E.cst (.int 1))) (E.bin mulD (E.cst (.int 28657)) (E.bin ixD (E.var 0) (E.cst (.int 2))))) (E.cst (.int 2147483399))))
  (S.seq (S.asg (.six 0 1) (E.bin modD (E.bin addD (E.bin mulD (E.var 3) (E.bin addD (E.bin modD (E.var 3) (E.cst (.int 5003))) (E.cst (.int 48271)))) (E.bin mulD (E.cst (.int 17)) (E.bin ixD (E.var 0) (E.cst (.int 2))))) (E.cst (.int 2147483399)))) (S.seq (S.ret (E.bin modD (E.bin fdivD (E.bin ixD (E.var 0) (E.cst (.int 1))) (E.cst (.int 613))) (E.var 1))) S.nop)))) := rfl
theorem F_take {M : List D} {n : Nat} {a b c m : Int} (hn : M[n]? = some (.lst [.int a, .int b, .int c])) (hm : 0 < m) (hb : m < 1000000) :
    ∃ r a' b' c', F__law_take M [.ptr n, .int m] = .ok (.int r) (M.set n (.lst [.int a', .int b', .int c'])) ∧ 0 ≤ r ∧ r < m := by
  have e0 : F__law_take M [.ptr n, .int m] = runM 4 B__law_take M [.ptr n, .int m] := rfl
  have e1 : envOf [.ptr n, .int m] (4 - [D.ptr n, D.int m].length) [.sto M] = [.val (.ptr n), .val (.int m), .no, .no, .sto M] := rfl
  have hlen : n < M.length := (List.getElem?_eq_some_iff.mp hn).1
  rw [e0]
  unfold runM
  rw [e1]
  have stM : ∀ (x y z w : Slot) (N : List D), stoOf [x, y, z, w, .sto N] = some N := fun x y z w N => by rw [stoOf_cons, stoOf_cons, stoOf_cons, stoOf_cons, stoOf_one]
  have seM : ∀ (x y z w : Slot) (N N' : List D), setSto [x, y, z, w, .sto N] N' = [x, y, z, w, .sto N'] := fun x y z w N N' => by rw [setSto_cons, setSto_cons, setSto_cons, setSto_cons, setSto_one]
  have hg : ∀ X : D, (M.set n X)[n]? = some X := fun X => List.getElem?_set_self hlen
  have lg : m.natAbs.log2 < 9000 := by
    have h1 : m.natAbs < 2 ^ 20 := by omega
    have := PySem.Flt.log2_lt_of (k := 20) (by decide) h1
    omega
  have m0 : m ≠ 0 := by omega
  have rdM : ∀ (x y z w : Slot) (N : List D) (j : Nat), rd [x, y, z, w, .sto N] (.dv (.ptr j)) = lookP j N[j]? := fun x y z w N j => rd_ptr (stM x y z w N)
  have tt : (Tt.val (E.bin gtD (E.bin ixD (E.var 0) (E.cst (.int 0))) (E.cst (.int 0)))) [.val (.ptr n), .val (.int m), .no, .no, .sto M] = .ok (decide (0 < a)) [.val (.ptr n), .val (.int m), .no, .no, .sto M] := by
    simp [Tt.val, E.bin, E.var, E.cst, rd, look, lookM, lookP, stM, hn, ixD, atI, ixN, gtD, cmD]
  rw [B_take]
  by_cases ha : 0 < a
  · refine ⟨a % m, a / m, b, c, ?_, Int.emod_nonneg _ m0, Int.emod_lt_of_pos _ hm⟩
    have s1 : (S.asg (.tp [(.six 0 0), (.nm 2)]) (E.cb dvmD (A.cons (E.bin ixD (E.var 0) (E.cst (.int 0))) (A.cons (E.var 1) A.nil)))) [.val (.ptr n), .val (.int m), .no, .no, .sto M] = .nx [.val (.ptr n), .val (.int m), .val (.int (a % m)), .no, .sto (M.set n (.lst [.int (a / m), .int b, .int c]))] := by
      refine ev_asg (ev_cb (ev_cons (ev_bin (ev_var rfl) ev_cst ((rdM _ _ _ _ M n).trans (by rw [hn]; rfl)) rd_int rfl) rfl (ev_cons (ev_var rfl) rfl ev_nil)) (show dvmD [.int a, .int m] = some (.tup [.int (a / m), .int (a % m)]) from if_pos ⟨hm, lg⟩)) rfl ?_
      rw [bindT, bindTs, six_set rfl (stM _ _ _ _ _) hn ⟨by decide, by simp⟩, seM, Option.bind_some, bindTs, bindT, Option.bind_some, bindTs]
      rfl
    have s2 : (S.ret (E.var 2)) [.val (.ptr n), .val (.int m), .val (.int (a % m)), .no, .sto (M.set n (.lst [.int (a / m), .int b, .int c]))] = .rt (.int (a % m)) [.val (.ptr n), .val (.int m), .val (.int (a % m)), .no, .sto (M.set n (.lst [.int (a / m), .int b, .int c]))] := rfl
    have s3 : takeA [.val (.ptr n), .val (.int m), .no, .no, .sto M] = .rt (.int (a % m)) [.val (.ptr n), .val (.int m), .val (.int (a % m)), .no, .sto (M.set n (.lst [.int (a / m), .int b, .int c]))] := by
      unfold takeA S.ifs
      rw [tt, Out.toS_ok, if_pos (decide_eq_true ha)]
      unfold S.seq
      rw [s1]
      dsimp only
      rw [s2]
    unfold S.seq
    rw [s3]
    dsimp only
    rw [stM]
  · obtain ⟨r1, r2⟩ := dig ((((b + 28657 * (c + 1)).fmod 2147483399 * (((b + 28657 * (c + 1)).fmod 2147483399).fmod 5003 + 48271) + 17 * (c + 1)).fmod 2147483399).fdiv 613) m hm
    have st := dig (b + 28657 * (c + 1)) 2147483399 (by decide)
    have big : -18446744073709551616 < (b + 28657 * (c + 1)).fmod 2147483399 ∧ (b + 28657 * (c + 1)).fmod 2147483399 < 18446744073709551616 := by omega
    refine ⟨_, a, (((b + 28657 * (c + 1)).fmod 2147483399 * (((b + 28657 * (c + 1)).fmod 2147483399).fmod 5003 + 48271) + 17 * (c + 1)).fmod 2147483399), c + 1, ?_, r1, r2⟩
    have s0 : takeA [.val (.ptr n), .val (.int m), .no, .no, .sto M] = .nx [.val (.ptr n), .val (.int m), .no, .no, .sto M] := by
      unfold takeA S.ifs
      rw [tt, Out.toS_ok, if_neg (by simp [ha])]
      rfl
    have s1 : (S.asg (.six 0 2) (E.bin addD (E.bin ixD (E.var 0) (E.cst (.int 2))) (E.cst (.int 1)))) [.val (.ptr n), .val (.int m), .no, .no, .sto M] = .nx [.val (.ptr n), .val (.int m), .no, .no, .sto (M.set n (.lst [.int a, .int b, .int (c + 1)]))] := by
      refine ev_asg (ev_bin (ev_bin (ev_var rfl) ev_cst ((rdM _ _ _ _ M n).trans (by rw [hn]; rfl)) rd_int rfl) ev_cst rd_int rd_int rfl) rfl ?_
      rw [six_set rfl (stM _ _ _ _ _) hn ⟨by decide, by simp⟩, seM]
      rfl
    have s2 : (S.set 3 (E.bin modD (E.bin addD (E.bin ixD (E.var 0) (E.cst (.int 1))) (E.bin mulD (E.cst (.int 28657)) (E.bin ixD (E.var 0) (E.cst (.int 2))))) (E.cst (.int 2147483399)))) [.val (.ptr n), .val (.int m), .no, .no, .sto (M.set n (.lst [.int a, .int b, .int (c + 1)]))]
        = .nx [.val (.ptr n), .val (.int m), .no, .val (.int ((b + 28657 * (c + 1)).fmod 2147483399)), .sto (M.set n (.lst [.int a, .int b, .int (c + 1)]))] := by
      have rg := (rdM (.val (.ptr n)) (.val (.int m)) .no .no (M.set n (.lst [.int a, .int b, .int (c + 1)])) n).trans (by rw [hg]; rfl : _ = some (.lst [.int a, .int b, .int (c + 1)]))
      exact ev_set (ev_bin (ev_bin (ev_bin (ev_var rfl) ev_cst rg rd_int rfl) (ev_bin ev_cst (ev_bin (ev_var rfl) ev_cst rg rd_int rfl) rd_int rd_int (mul_l ⟨by decide, by decide⟩)) rd_int rd_int rfl) ev_cst rd_int rd_int (mod_nz (by decide))) rfl
    have s3 : (S.asg (.six 0 1) (E.bin modD (E.bin addD (E.bin mulD (E.var 3) (E.bin addD (E.bin modD (E.var 3) (E.cst (.int 5003))) (E.cst (.int 48271)))) (E.bin mulD (E.cst (.int 17)) (E.bin ixD (E.var 0) (E.cst (.int 2))))) (E.cst (.int 2147483399))))
        [.val (.ptr n), .val (.int m), .no, .val (.int ((b + 28657 * (c + 1)).fmod 2147483399)), .sto (M.set n (.lst [.int a, .int b, .int (c + 1)]))]
        = .nx [.val (.ptr n), .val (.int m), .no, .val (.int ((b + 28657 * (c + 1)).fmod 2147483399)), .sto (M.set n (.lst [.int a, .int (((b + 28657 * (c + 1)).fmod 2147483399 * (((b + 28657 * (c + 1)).fmod 2147483399).fmod 5003 + 48271) + 17 * (c + 1)).fmod 2147483399), .int (c + 1)]))] := by
      have rg := (rdM (.val (.ptr n)) (.val (.int m)) .no (.val (.int ((b + 28657 * (c + 1)).fmod 2147483399))) (M.set n (.lst [.int a, .int b, .int (c + 1)])) n).trans (by rw [hg]; rfl : _ = some (.lst [.int a, .int b, .int (c + 1)]))
      refine ev_asg (ev_bin (ev_bin (ev_bin (ev_var rfl) (ev_bin (ev_bin (ev_var rfl) ev_cst rd_int rd_int (mod_nz (by decide))) ev_cst rd_int rd_int rfl) rd_int rd_int (mul_l big)) (ev_bin ev_cst (ev_bin (ev_var rfl) ev_cst rg rd_int rfl) rd_int rd_int (mul_l ⟨by decide, by decide⟩)) rd_int rd_int rfl) ev_cst rd_int rd_int (mod_nz (by decide))) rfl ?_
      rw [six_set rfl (stM _ _ _ _ _) (hg _) ⟨by decide, by simp⟩, seM, List.set_set]
      rfl
    have s4 : (S.ret (E.bin modD (E.bin fdivD (E.bin ixD (E.var 0) (E.cst (.int 1))) (E.cst (.int 613))) (E.var 1))) [.val (.ptr n), .val (.int m), .no, .val (.int ((b + 28657 * (c + 1)).fmod 2147483399)), .sto (M.set n (.lst [.int a, .int (((b + 28657 * (c + 1)).fmod 2147483399 * (((b + 28657 * (c + 1)).fmod 2147483399).fmod 5003 + 48271) + 17 * (c + 1)).fmod 2147483399), .int (c + 1)]))]
        = .rt (.int (((((b + 28657 * (c + 1)).fmod 2147483399 * (((b + 28657 * (c + 1)).fmod 2147483399).fmod 5003 + 48271) + 17 * (c + 1)).fmod 2147483399).fdiv 613).fmod m)) [.val (.ptr n), .val (.int m), .no, .val (.int ((b + 28657 * (c + 1)).fmod 2147483399)), .sto (M.set n (.lst [.int a, .int (((b + 28657 * (c + 1)).fmod 2147483399 * (((b + 28657 * (c + 1)).fmod 2147483399).fmod 5003 + 48271) + 17 * (c + 1)).fmod 2147483399), .int (c + 1)]))] := by
      refine ev_ret (ev_bin (ev_bin (ev_bin (ev_var rfl) ev_cst ((rdM _ _ _ _ _ n).trans (by rw [hg]; rfl)) rd_int rfl) ev_cst rd_int rd_int rfl) (ev_var rfl) rd_int rd_int (mod_nz m0)) rfl
    unfold S.seq
    rw [s0]
    dsimp only
    rw [s1]
    dsimp only
    rw [s2]
    dsimp only
    rw [s3]
    dsimp only
    rw [s4]
    dsimp only
    rw [stM]
end G85
-- G85q
set_option maxRecDepth 100000
set_option maxHeartbeats 0
/-! G85q: _law_right cut in three. -/
namespace G85
open PySem PySem.Spec PyProof.Rows L2 DL
def rB : FS := (S.set 2 (E.bin addD (E.cst (.int 2)) (E.callM F__law_take (A.cons (E.var 0) (A.cons (E.bin subD (E.var 1) (E.cst (.int 1))) A.nil)))))
def rC : FS := (S.seq (S.asg (.tp [(.nm 3), (.nm 4)]) (E.tup (A.cons (E.newX "Console" F_Console___init__ (· ++ []) (A.cons (E.newX "Party" F_Party___init__ (· ++ []) (A.cons (E.var 2) A.nil)) A.nil)) (A.cons (E.c1 strD (E.var 2)) A.nil))))
  (S.seq (S.set 5 (E.fz (E.lst (A.cons (E.cst (.str "")) (A.cons (E.cst (.str " ")) (A.cons (E.cst (.str "friends")) (A.cons (E.cst (.str "friends 0")) (A.cons (E.cst (.str "friends 0 1 ")) (A.cons (E.cst (.str " friends 0 1")) (A.cons (E.cst (.str "friends  0 1")) (A.cons (E.cst (.str "Friends 0 1")) A.nil)))))))))))
  (S.seq (S.set 5 (E.bin addD (E.var 5) (E.fz (E.lst (A.cons (E.cst (.str "friends 00 1")) (A.cons (E.cst (.str "friends 0 01")) (A.cons (E.cst (.str "friends +0 1")) (A.cons (E.cst (.str "foes -1 0")) (A.cons (E.cst (.str "foes 0,1")) (A.cons (E.cst (.str "part 0 1 0")) (A.cons (E.cst (.str "part 0")) A.nil)))))))))))
  (S.seq (S.set 5 (E.bin addD (E.var 5) (E.fz (E.lst (A.cons (E.cst (.str "heart")) (A.cons (E.cst (.str "heart 0")) (A.cons (E.cst (.str "heart 0 1 1")) (A.cons (E.cst (.str "heart 0 x")) (A.cons (E.cst (.str "heart 00 1")) (A.cons (E.cst (.str "undo 1")) (A.cons (E.cst (.str "undo ")) (A.cons (E.cst (.str "UNDO")) (A.cons (E.cst (.str "ties 1")) A.nil)))))))))))))
  (S.seq (S.set 5 (E.bin addD (E.var 5) (E.fz (E.lst (A.cons (E.cst (.str "switch 0 0")) (A.cons (E.cst (.str "switch 1 0")) (A.cons (E.bin addD (E.cst (.str "switch ")) (E.var 4)) (A.cons (E.cst (.str "switch 0 ")) (A.cons (E.cst (.str "switch x")) (A.cons (E.cst (.str "switch  0")) (A.cons (E.cst (.str "camps 0")) A.nil)))))))))))
  (S.seq (S.set 5 (E.bin addD (E.var 5) (E.fz (E.lst (A.cons (E.bin addD (E.bin addD (E.cst (.str "foes ")) (E.var 4)) (E.cst (.str " 0"))) (A.cons (E.cst (.str "friends 1 1")) (A.cons (E.cst (.str "part 0 0")) (A.cons (E.cst (.str "what")) (A.cons (E.cst (.str "0 1")) (A.cons (E.cst (.str "friends\n0 1")) (A.cons (E.cst (.str "camp\n")) (A.cons (E.cst (.str "foes ")) A.nil))))))))))))
  (S.seq (S.set 5 (E.bin addD (E.var 5) (E.fz (E.lst (A.cons (E.cst (.str "friends 0 1 1")) (A.cons (E.cst (.str " camp")) (A.cons (E.bin addD (E.cst (.str "friends 0 ")) (E.var 4)) (A.cons (E.cst (.str "foes 0")) A.nil))))))))
  (S.seq (S.for_ (I.seq (E.var 5)) (.nm 6) (S.seq (S.ifs (Tt.val (E.bin neD (E.c1 rpD (E.fz (E.lst (A.cons (E.meth "Console" "say" F_Console_say (E.var 3) (A.cons (E.var 6) A.nil)) (A.cons (E.methK "Console" "say" F_Console_say id (E.var 3) (A.cons (E.var 6) A.nil)) A.nil))))) (E.c1 rpD (E.bin mulW (E.fz (E.lst (A.cons (E.cst (.str "not understood")) A.nil))) (E.cst (.int 2)))))) (S.seq (S.ret (E.cst (.bl false)))
  S.nop) S.nop)
  S.nop))
  (S.seq (S.for_ (I.seq (E.fz (E.lst (A.cons (E.cst .non) (A.cons (E.cst (.int 5)) (A.cons (E.fz (E.lst (A.cons (E.cst (.str "undo")) A.nil))) (A.cons (E.tup (A.cons (E.cst (.str "undo")) A.nil)) (A.cons (E.cst (.bl true)) (A.cons (E.cst (.int 0)) A.nil))))))))) (.nm 7) (S.seq (S.ifs (Tt.val (E.bin neD (E.c1 rpD (E.lam1 "_law_right" Sp__law_refusal [] (E.meth "Console" "say" F_Console_say (E.var 3) (A.cons (E.var 7) A.nil)))) (E.c1 rpD (E.fz (E.lst (A.cons (E.cst (.str "line")) (A.cons (E.var 7) A.nil))))))) (S.seq (S.ret (E.cst (.bl false)))
  S.nop) S.nop)
  (S.seq (S.ifs (Tt.val (E.bin neD (E.c1 rpD (E.lam1 "_law_right" Sp__law_refusal [] (E.newX "Console" F_Console___init__ (· ++ []) (A.cons (E.var 7) A.nil)))) (E.c1 rpD (E.fz (E.lst (A.cons (E.cst (.str "party")) (A.cons (E.var 7) A.nil))))))) (S.seq (S.ret (E.cst (.bl false)))
  S.nop) S.nop)
  S.nop)))
  (S.seq (S.ifs (Tt.val (E.bin neD (E.c1 rpD (E.lam1 "_law_right" Sp__law_refusal [] (E.newX "Console" F_Console___init__ id (A.cons (E.cst (.str "ties")) A.nil)))) (E.c1 rpD (E.fz (E.lst (A.cons (E.cst (.str "party")) (A.cons (E.cst (.str "ties")) A.nil))))))) (S.seq (S.ret (E.cst (.bl false)))
  S.nop) S.nop)
  (S.seq (S.ret (E.bin eqD (E.fz (E.lc (I.seq (E.fz (E.lst (A.cons (E.cst (.str "ties")) (A.cons (E.cst (.str "foes")) (A.cons (E.cst (.str "undo")) (A.cons (E.cst (.str "camp")) A.nil))))))) (.nm 6) [6] Tt.yes (E.meth "Console" "say" F_Console_say (E.var 3) (A.cons (E.var 6) A.nil)))) (E.fz (E.lst (A.cons (E.cst (.str "0")) (A.cons (E.cst (.str "0")) (A.cons (E.cst (.str "nothing")) (A.cons (E.cst (.str "none")) A.nil))))))))
  S.nop)))))))))))
theorem B_right : B__law_right = S.seq rB rC := rfl
def shp : D → Option Bool
  | .obj _ _ _ => some true
  | .lst _ => some false
  | _ => none
/-- things of the store of the shapes sh -/
def sp : List Bool → (Nat → Str × List Str × List D) → List D
  | [], _ => []
  | true :: r, x => .obj (x 0).1 (x 0).2.1 (x 0).2.2 :: sp r fun n => x (n + 1)
  | false :: r, x => .lst (x 0).2.2 :: sp r fun n => x (n + 1)
theorem sp_of : ∀ {sh : List Bool} {X : List D}, X.map shp = sh.map some → ∃ x, X = sp sh x
  | [], [], _ => ⟨fun _ => ("", [], []), rfl⟩
  | [], _ :: _, h => by cases h
  | _ :: _, [], h => by cases h
  | b :: r, d :: X, h => by
    have h2 : shp d :: X.map shp = some b :: r.map some := h
    injection h2 with h3 h4
    obtain ⟨x, e⟩ := sp_of h4
    cases d with
    | obj c k xs =>
      obtain rfl : true = b := Option.some.inj h3
      exact ⟨fun n => match n with | 0 => (c, k, xs) | n + 1 => x n, by rw [e]; rfl⟩
    | lst xs =>
      obtain rfl : false = b := Option.some.inj h3
      exact ⟨fun n => match n with | 0 => ("", [], xs) | n + 1 => x n, by rw [e]; rfl⟩
    | _ => cases h3
def T2 : List D := [.tab "wrong_pair", .tab "_law_right"]
def blk : List Bool := [true, false, true, true, false, true, true, true, true, true, true, true]
def ptyO (p : Int) (n : Nat) : D := .obj "Party" ["web", "people", "deeds", "past"] [.web (.int p) (.tup []) (.tup []), .int p, .tup [], .ptr n]
def con0 : D := .obj "Console" [] []
def tailC (n : Nat) (p : Int) : List D := [ptyO p (n + 1), .lst [], .obj "Console" ["party"] [.ptr (n + 3)], ptyO p (n + 4), .lst [], con0, con0, con0, con0, con0, con0, con0]
def rtD : SO → Option (D × List D)
  | .rt d e => (stoOf e).map fun M => (d, M)
  | _ => none
abbrev RC (sh : List Bool) (p : Int) : Prop := ∀ (x : Nat → Str × List Str × List D) (q m : D), rtD (rC [.val q, .val m, .val (.int p), .no, .no, .no, .no, .no, .sto (T2 ++ sp sh x)]) = some (.bl true, (T2 ++ sp sh x) ++ tailC (T2 ++ sp sh x).length p)
def shK : Nat → List Bool
  | 0 => []
  | k + 1 => shK k ++ (false :: (blk ++ blk ++ blk ++ blk))
def shI (k : Nat) : Nat → List Bool
  | 0 => shK k ++ [false]
  | i + 1 => shI k i ++ blk
end G85
-- G85q0
set_option maxRecDepth 100000
set_option maxHeartbeats 0
namespace G85
open PySem PySem.Spec PyProof.Rows L2 DL
theorem RC002 : RC (shI 0 0) 2 := by
  intro x q m
  kernel_rfl
theorem RC003 : RC (shI 0 0) 3 := by
  intro x q m
  kernel_rfl
theorem RC004 : RC (shI 0 0) 4 := by
  intro x q m
  kernel_rfl
theorem RC005 : RC (shI 0 0) 5 := by
  intro x q m
  kernel_rfl
theorem RC012 : RC (shI 0 1) 2 := by
  intro x q m
  kernel_rfl
theorem RC013 : RC (shI 0 1) 3 := by
  intro x q m
  kernel_rfl
theorem RC014 : RC (shI 0 1) 4 := by
  intro x q m
  kernel_rfl
theorem RC022 : RC (shI 0 2) 2 := by
  intro x q m
  kernel_rfl
theorem RC023 : RC (shI 0 2) 3 := by
  intro x q m
  kernel_rfl
theorem RC024 : RC (shI 0 2) 4 := by
  intro x q m
  kernel_rfl
theorem RC025 : RC (shI 0 2) 5 := by
  intro x q m
  kernel_rfl
theorem RC026 : RC (shI 0 2) 6 := by
  intro x q m
  kernel_rfl
theorem RC032 : RC (shI 0 3) 2 := by
  intro x q m
  kernel_rfl
theorem RC033 : RC (shI 0 3) 3 := by
  intro x q m
  kernel_rfl
theorem RC034 : RC (shI 0 3) 4 := by
  intro x q m
  kernel_rfl
theorem RC035 : RC (shI 0 3) 5 := by
  intro x q m
  kernel_rfl
theorem RC036 : RC (shI 0 3) 6 := by
  intro x q m
  kernel_rfl
theorem RC037 : RC (shI 0 3) 7 := by
  intro x q m
  kernel_rfl
end G85
-- G85q1
set_option maxRecDepth 100000
set_option maxHeartbeats 0
namespace G85
open PySem PySem.Spec PyProof.Rows L2 DL
theorem RC102 : RC (shI 1 0) 2 := by
  intro x q m
  kernel_rfl
theorem RC103 : RC (shI 1 0) 3 := by
  intro x q m
  kernel_rfl
theorem RC104 : RC (shI 1 0) 4 := by
  intro x q m
  kernel_rfl
theorem RC105 : RC (shI 1 0) 5 := by
  intro x q m
  kernel_rfl
theorem RC112 : RC (shI 1 1) 2 := by
  intro x q m
  kernel_rfl
theorem RC113 : RC (shI 1 1) 3 := by
  intro x q m
  kernel_rfl
theorem RC114 : RC (shI 1 1) 4 := by
  intro x q m
  kernel_rfl
theorem RC122 : RC (shI 1 2) 2 := by
  intro x q m
  kernel_rfl
theorem RC123 : RC (shI 1 2) 3 := by
  intro x q m
  kernel_rfl
theorem RC124 : RC (shI 1 2) 4 := by
  intro x q m
  kernel_rfl
theorem RC125 : RC (shI 1 2) 5 := by
  intro x q m
  kernel_rfl
theorem RC126 : RC (shI 1 2) 6 := by
  intro x q m
  kernel_rfl
theorem RC132 : RC (shI 1 3) 2 := by
  intro x q m
  kernel_rfl
theorem RC133 : RC (shI 1 3) 3 := by
  intro x q m
  kernel_rfl
theorem RC134 : RC (shI 1 3) 4 := by
  intro x q m
  kernel_rfl
theorem RC135 : RC (shI 1 3) 5 := by
  intro x q m
  kernel_rfl
theorem RC136 : RC (shI 1 3) 6 := by
  intro x q m
  kernel_rfl
theorem RC137 : RC (shI 1 3) 7 := by
  intro x q m
  kernel_rfl
end G85
-- G85q2
set_option maxRecDepth 100000
set_option maxHeartbeats 0
namespace G85
open PySem PySem.Spec PyProof.Rows L2 DL
theorem RC202 : RC (shI 2 0) 2 := by
  intro x q m
  kernel_rfl
theorem RC203 : RC (shI 2 0) 3 := by
  intro x q m
  kernel_rfl
theorem RC204 : RC (shI 2 0) 4 := by
  intro x q m
  kernel_rfl
theorem RC205 : RC (shI 2 0) 5 := by
  intro x q m
  kernel_rfl
theorem RC212 : RC (shI 2 1) 2 := by
  intro x q m
  kernel_rfl
theorem RC213 : RC (shI 2 1) 3 := by
  intro x q m
  kernel_rfl
theorem RC214 : RC (shI 2 1) 4 := by
  intro x q m
  kernel_rfl
theorem RC222 : RC (shI 2 2) 2 := by
  intro x q m
  kernel_rfl
theorem RC223 : RC (shI 2 2) 3 := by
  intro x q m
  kernel_rfl
theorem RC224 : RC (shI 2 2) 4 := by
  intro x q m
  kernel_rfl
theorem RC225 : RC (shI 2 2) 5 := by
  intro x q m
  kernel_rfl
theorem RC226 : RC (shI 2 2) 6 := by
  intro x q m
  kernel_rfl
theorem RC232 : RC (shI 2 3) 2 := by
  intro x q m
  kernel_rfl
theorem RC233 : RC (shI 2 3) 3 := by
  intro x q m
  kernel_rfl
theorem RC234 : RC (shI 2 3) 4 := by
  intro x q m
  kernel_rfl
theorem RC235 : RC (shI 2 3) 5 := by
  intro x q m
  kernel_rfl
theorem RC236 : RC (shI 2 3) 6 := by
  intro x q m
  kernel_rfl
theorem RC237 : RC (shI 2 3) 7 := by
  intro x q m
  kernel_rfl
end G85
-- G85r
set_option maxRecDepth 100000
set_option maxHeartbeats 8000000
/-! G85r: the plain law over the kernel evaluations. -/
namespace G85
open PySem PySem.Spec PyProof.Rows L2 DL
theorem ev_callM {F : FM} {g : FA} {e e1 : Ev} {ds : List D} {M M' : List D} {z : D} (h1 : g e = .ok ds e1) (h2 : stoOf e1 = some M) (h3 : F M ds = .ok z M') : E.callM F g e = .ok (.dv z) (setSto e1 M') := by
  unfold E.callM; rw [h1, Out.bind_ok, h2]; dsimp only; rw [h3]
theorem ev_fz {f : FD} {e e1 : Ev} {d : D} (h : f e = .ok d e1) : E.fz f e = .ok (.dv d) e1 := by
  unfold E.fz; rw [h, Out.bind_ok]
theorem ev_lst {g : FA} {e e1 : Ev} {ds : List D} (h : g e = .ok ds e1) (hl : ds.length ≤ 1000) : E.lst g e = .ok (.lst ds) e1 := by
  unfold E.lst; rw [h, Out.bind_ok, if_pos (two_le _ hl)]
theorem ev_not {t : FB} {e e1 : Ev} {b : Bool} (h : t e = .ok b e1) : Tt.not t e = .ok (!b) e1 := by
  unfold Tt.not; rw [h, Out.bind_ok]

theorem ev_ifN {t : FB} {f : FS} {e e1 : Ev} (h : t e = .ok false e1) : S.ifs t f S.nop e = .nx e1 := ev_ifF h
theorem loop_nx {tg : Tgt} {b : FS} {d : D} {ds : List D} {e e1 e2 : Ev} (h1 : bindT tg d e = some e1) (h2 : b e1 = .nx e2) : loopS tg b (d :: ds) e = loopS tg b ds e2 := by
  rw [loopS, h1]; dsimp only; rw [h2]
theorem ev_for {it : FI} {tg : Tgt} {b : FS} {e e1 : Ev} {ds : List D} (h : it e = .ok ds e1) : S.for_ it tg b e = loopS tg b ds e1 := by
  unfold S.for_; rw [h, Out.toS_ok]
theorem map_set_same : ∀ {xs : List D} {i : Nat} {u v : D}, xs[i]? = some u → shp v = shp u → (xs.set i v).map shp = xs.map shp
  | [], _, _, _, h, _ => by simp at h
  | d :: xs, 0, u, v, h, e => by
    have : d = u := by simpa using h
    subst this
    simp [e]
  | d :: xs, i + 1, u, v, h, e => by
    have h2 : xs[i]? = some u := by simpa using h
    rw [List.set_cons_succ, List.map_cons, List.map_cons, map_set_same h2 e]
theorem sp_map : ∀ {sh : List Bool} {x : Nat → Str × List Str × List D}, (sp sh x).map shp = sh.map some
  | [], _ => rfl
  | true :: r, x => by rw [sp, List.map_cons, List.map_cons, sp_map]; rfl
  | false :: r, x => by rw [sp, List.map_cons, List.map_cons, sp_map]; rfl
def InvG (sh : List Bool) (q : Nat) (M : List D) : Prop := ∃ X a b c, M = T2 ++ X ∧ X.map shp = sh.map some ∧ M[q]? = some (.lst [.int a, .int b, .int c])
theorem rtD_ok {o : SO} {d : D} {M : List D} (h : rtD o = some (d, M)) : ∃ e, o = .rt d e ∧ stoOf e = some M := by
  unfold rtD at h
  split at h
  · rename_i d' e
    cases q : stoOf e with
    | none => rw [q] at h; cases h
    | some M' =>
      rw [q] at h
      cases h
      exact ⟨e, rfl, q⟩
  · cases h
theorem right_gen {sh : List Bool} {most : Int} (m1 : 2 ≤ most) (m2 : most ≤ 7) (rc : ∀ p : Int, 2 ≤ p → p ≤ most → RC sh p) {q : Nat} {M : List D} (hI : InvG sh q M) : ∃ M', F__law_right M [.ptr q, .int most] = .ok (.bl true) M' ∧ InvG (sh ++ blk) q M' := by
  obtain ⟨X, a, b, c, rfl, hX, hq⟩ := hI
  have lq : q < (T2 ++ X).length := (List.getElem?_eq_some_iff.mp hq).1
  obtain ⟨r, a', b', c', ht, r1, r2⟩ := F_take (m := most - 1) hq (by omega) (by omega)
  have hM2 : ∃ y, (T2 ++ X).set q (.lst [.int a', .int b', .int c']) = T2 ++ sp sh y := by
    have key : ∃ Y : List D, (T2 ++ X).set q (.lst [.int a', .int b', .int c']) = T2 ++ Y ∧ Y.map shp = sh.map some := by
      match q, hq with
      | 0, h => cases h
      | 1, h => cases h
      | n + 2, h =>
        have h2 : X[n]? = some (.lst [.int a, .int b, .int c]) := h
        exact ⟨X.set n (.lst [.int a', .int b', .int c']), rfl, (map_set_same (v := .lst [.int a', .int b', .int c']) h2 rfl).trans hX⟩
    obtain ⟨Y, e1, e2⟩ := key
    obtain ⟨y, rfl⟩ := sp_of e2
    exact ⟨y, e1⟩
  obtain ⟨y, hM2⟩ := hM2
  obtain ⟨e, he, hs⟩ := rtD_ok (rc (2 + r) (by omega) (by omega) y (.ptr q) (.int most))
  have e0 : F__law_right (T2 ++ X) [.ptr q, .int most] = runM 8 B__law_right (T2 ++ X) [.ptr q, .int most] := rfl
  have e1 : envOf [.ptr q, .int most] (8 - [D.ptr q, D.int most].length) [.sto (T2 ++ X)] = [.val (.ptr q), .val (.int most), .no, .no, .no, .no, .no, .no, .sto (T2 ++ X)] := rfl
  have s3 : rB [.val (.ptr q), .val (.int most), .no, .no, .no, .no, .no, .no, .sto (T2 ++ X)] = .nx [.val (.ptr q), .val (.int most), .val (.int (2 + r)), .no, .no, .no, .no, .no, .sto ((T2 ++ X).set q (.lst [.int a', .int b', .int c']))] :=
    ev_set (ev_bin ev_cst (ev_callM (ev_cons (ev_var rfl) rfl (ev_cons (ev_bin (ev_var rfl) ev_cst rd_int rd_int rfl) rfl ev_nil)) rfl ht) rd_int rd_int rfl) rfl
  refine ⟨(T2 ++ sp sh y) ++ tailC (T2 ++ sp sh y).length (2 + r), ?_, sp sh y ++ tailC (T2 ++ sp sh y).length (2 + r), a', b', c', List.append_assoc .., ?_, ?_⟩
  · rw [e0]
    unfold runM
    rw [e1, B_right, ev_seq s3, hM2, he]
    dsimp only
    rw [hs]
  · rw [List.map_append, sp_map, List.map_append]
    rfl
  · rw [← hM2, List.getElem?_append_left (by rw [List.length_set]; exact lq)]
    exact List.getElem?_set_self lq
/-! ### law -/
def bodyM : FS := (S.seq (S.ifs (Tt.not (Tt.val (E.callM F__law_right (A.cons (E.var 2) (A.cons (E.var 3) A.nil))))) (S.seq (S.ret (E.cst (.bl false)))
  S.nop) S.nop)
  S.nop)
def mosts : FI := (I.seq (E.fz (E.lst (A.cons (E.cst (.int 5)) (A.cons (E.cst (.int 4)) (A.cons (E.cst (.int 6)) (A.cons (E.cst (.int 7)) A.nil)))))))
def bodyL : FS := (S.seq (S.set 2 (E.callM F__law_pool (A.cons (E.var 0) (A.cons (E.var 1) A.nil)))) (S.seq (S.for_ mosts (.nm 3) bodyM) S.nop))
theorem B_law_eq : B_law = S.seq (S.for_ (I.rng1 (A.cons (E.cb max2D (A.cons (E.cst (.int 2)) (A.cons (E.cb min2D (A.cons (E.c1 lenD (E.var 0)) (A.cons (E.cst (.int 3)) A.nil))) A.nil))) A.nil)) (.nm 1) bodyL) (S.seq (S.ret (E.cst (.bl true))) S.nop) := rfl
theorem stepM {ns : List Int} {k most : Int} {sh : List Bool} {q : Nat} {M : List D} {x3 : Slot} (h3 : nst x3) (m1 : 2 ≤ most) (m2 : most ≤ 7) (rc : ∀ p : Int, 2 ≤ p → p ≤ most → RC sh p) (hI : InvG sh q M) (ds : List D) :
    ∃ M', InvG (sh ++ blk) q M' ∧ loopS (.nm 3) bodyM (.int most :: ds) [.val (.scr ns), .val (.int k), .val (.ptr q), x3, .sto M] = loopS (.nm 3) bodyM ds [.val (.scr ns), .val (.int k), .val (.ptr q), .val (.int most), .sto M'] := by
  obtain ⟨M', h, hI'⟩ := right_gen m1 m2 rc hI
  refine ⟨M', hI', loop_nx (e1 := [.val (.scr ns), .val (.int k), .val (.ptr q), .val (.int most), .sto M]) ?_ ?_⟩
  · rw [bindT, put1_succ, put1_succ, put1_succ, put1_zero h3]
  · unfold bodyM
    rw [ev_seq (ev_ifN (ev_not (ev_val (ev_callM (ev_cons (ev_var rfl) rfl (ev_cons (ev_var rfl) rfl ev_nil)) rfl h) rd_bl)))]
    rfl
def InvT (sh : List Bool) (M : List D) : Prop := ∃ X, M = T2 ++ X ∧ X.map shp = sh.map some
structure RK (k : Nat) : Prop where
  c0 : ∀ p : Int, 2 ≤ p → p ≤ 5 → RC (shI k 0) p
  c1 : ∀ p : Int, 2 ≤ p → p ≤ 4 → RC (shI k 1) p
  c2 : ∀ p : Int, 2 ≤ p → p ≤ 6 → RC (shI k 2) p
  c3 : ∀ p : Int, 2 ≤ p → p ≤ 7 → RC (shI k 3) p
theorem shI4 (k : Nat) : shI k 4 = shK (k + 1) := by simp [shI, shK]
theorem bodyL_ok {ns : List Int} {k : Int} (j : Nat) (R : RK j) {x1 x2 x3 : Slot} {M : List D} (h1 : nst x1) (h2 : nst x2) (h3 : nst x3) (hI : InvT (shK j) M) (ds : List D) : ∃ y2 y3 M', nst y2 ∧ nst y3 ∧ InvT (shK (j + 1)) M' ∧ loopS (.nm 1) bodyL (.int k :: ds) [.val (.scr ns), x1, x2, x3, .sto M] = loopS (.nm 1) bodyL ds [.val (.scr ns), .val (.int k), y2, y3, .sto M'] := by
  obtain ⟨X, rfl, hX⟩ := hI
  obtain ⟨a, b, hp⟩ := F_pool (T2 ++ X) ns k
  have I0 : InvG (shI j 0) (T2 ++ X).length ((T2 ++ X) ++ [.lst [.int a, .int b, .int 0]]) := by
    refine ⟨X ++ [.lst [.int a, .int b, .int 0]], a, b, 0, List.append_assoc .., ?_, by simp⟩
    rw [List.map_append, hX]
    show _ ++ [some false] = (shK j ++ [false]).map some
    simp
  obtain ⟨M1, I1, s1⟩ := stepM (ns := ns) (k := k) (most := 5) h3 (by decide) (by decide) R.c0 I0 [.int 4, .int 6, .int 7]
  obtain ⟨M2, I2, s2⟩ := stepM (ns := ns) (k := k) (most := 4) (x3 := .val (.int 5)) nst_val (by decide) (by decide) R.c1 I1 [.int 6, .int 7]
  obtain ⟨M3, I3, s3⟩ := stepM (ns := ns) (k := k) (most := 6) (x3 := .val (.int 4)) nst_val (by decide) (by decide) R.c2 I2 [.int 7]
  obtain ⟨M4, I4, s4⟩ := stepM (ns := ns) (k := k) (most := 7) (x3 := .val (.int 6)) nst_val (by decide) (by decide) R.c3 I3 []
  refine ⟨.val (.ptr (T2 ++ X).length), .val (.int 7), M4, nst_val, nst_val, ?_, loop_nx (e1 := [.val (.scr ns), .val (.int k), x2, x3, .sto (T2 ++ X)]) ?_ ?_⟩
  · obtain ⟨Y, _, _, _, e1, e2, _⟩ := I4
    refine ⟨Y, e1, ?_⟩
    rw [← shI4]
    exact e2
  · rw [bindT, put1_succ, put1_zero h1]
  have p2 : (S.set 2 (E.callM F__law_pool (A.cons (E.var 0) (A.cons (E.var 1) A.nil)))) [.val (.scr ns), .val (.int k), x2, x3, .sto (T2 ++ X)] = .nx [.val (.scr ns), .val (.int k), .val (.ptr (T2 ++ X).length), x3, .sto ((T2 ++ X) ++ [.lst [.int a, .int b, .int 0]])] := by
    rw [ev_set (ev_callM (ev_cons (ev_var rfl) rfl (ev_cons (ev_var rfl) rfl ev_nil)) rfl hp) rfl]
    rw [setSto_cons, setSto_cons, setSto_cons, setSto_cons, setSto_one, put1_succ, put1_succ, put1_zero h2]
  have it : mosts [.val (.scr ns), .val (.int k), .val (.ptr (T2 ++ X).length), x3, .sto ((T2 ++ X) ++ [.lst [.int a, .int b, .int 0]])] = .ok [.int 5, .int 4, .int 6, .int 7] [.val (.scr ns), .val (.int k), .val (.ptr (T2 ++ X).length), x3, .sto ((T2 ++ X) ++ [.lst [.int a, .int b, .int 0]])] := by kernel_rfl
  unfold bodyL
  rw [ev_seq p2, ev_seq (((ev_for it).trans (s1.trans (s2.trans (s3.trans s4)))).trans rfl)]
  rfl
abbrev rngE : FI := (I.rng1 (A.cons (E.cb max2D (A.cons (E.cst (.int 2)) (A.cons (E.cb min2D (A.cons (E.c1 lenD (E.var 0)) (A.cons (E.cst (.int 3)) A.nil))) A.nil))) A.nil))
theorem rng_ok (ns : List Int) : ∃ ks : List Int, (ks = [0, 1] ∨ ks = [0, 1, 2]) ∧ (I.rng1 (A.cons (E.cb max2D (A.cons (E.cst (.int 2)) (A.cons (E.cb min2D (A.cons (E.c1 lenD (E.var 0)) (A.cons (E.cst (.int 3)) A.nil))) A.nil))) A.nil)) [.val (.scr ns), .no, .no, .no, .sto T2] = .ok (ks.map .int) [.val (.scr ns), .no, .no, .no, .sto T2] := by
  have key : ∀ t : Int, 2 ≤ t → t ≤ 3 → max2D [.int 2, .int (if (3 : Int) < ns.length then 3 else ns.length)] = some (.int t) → ∃ ks : List Int, (ks = [0, 1] ∨ ks = [0, 1, 2]) ∧ (I.rng1 (A.cons (E.cb max2D (A.cons (E.cst (.int 2)) (A.cons (E.cb min2D (A.cons (E.c1 lenD (E.var 0)) (A.cons (E.cst (.int 3)) A.nil))) A.nil))) A.nil)) [.val (.scr ns), .no, .no, .no, .sto T2] = .ok (ks.map .int) [.val (.scr ns), .no, .no, .no, .sto T2] := fun t h1 h2 h3 => by
    refine ⟨(List.range t.toNat).map fun j => (0 : Int) + (j : Nat), (by rcases (show t = 2 ∨ t = 3 by omega) with rfl | rfl <;> decide), ?_⟩
    unfold I.rng1
    rw [ev_cons (ev_cb (ev_cons ev_cst rfl (ev_cons (ev_cb (ev_cons (ev_c1 (ev_var rfl) rd_scr (show lenD (.scr ns) = some (.int ns.length) from rfl)) rfl (ev_cons ev_cst rfl ev_nil)) (show min2D [.int ns.length, .int 3] = some (.int (if (3 : Int) < ns.length then 3 else ns.length)) from rfl)) rfl ev_nil)) h3) rfl ev_nil, Out.bind_ok]
    dsimp only
    rw [if_pos ⟨by omega, by omega⟩]
    simp [rngD]
  by_cases q : (3 : Int) < ns.length
  · exact key 3 (by decide) (by decide) (by rw [if_pos q]; rfl)
  · by_cases q2 : (2 : Int) < ns.length
    · exact key ns.length (by omega) (by omega) (by rw [if_neg q]; show some (D.int (if (ns.length : Int) > 2 then (ns.length : Int) else 2)) = _; rw [if_pos q2])
    · exact key 2 (by decide) (by decide) (by rw [if_neg q]; show some (D.int (if (ns.length : Int) > 2 then (ns.length : Int) else 2)) = _; rw [if_neg q2])

theorem F_law_ok (R0 : RK 0) (R1 : RK 1) (R2 : RK 2) (ns : List Int) : ∃ M', F_law T2 [.scr ns] = .ok (.bl true) M' := by
  have e0 : F_law T2 [.scr ns] = runM 4 B_law T2 [.scr ns] := rfl
  have e1 : envOf [.scr ns] (4 - [D.scr ns].length) [.sto T2] = [.val (.scr ns), .no, .no, .no, .sto T2] := rfl
  obtain ⟨ks, hk, it⟩ := rng_ok ns
  have lp : ∃ y1 y2 y3 M', loopS (.nm 1) bodyL (ks.map .int) [.val (.scr ns), .no, .no, .no, .sto T2] = .nx [.val (.scr ns), y1, y2, y3, .sto M'] := by
    rcases hk with rfl | rfl
    · obtain ⟨y2, y3, M1, n2, n3, I1, s1⟩ := bodyL_ok (ns := ns) (k := 0) 0 R0 nst_no nst_no nst_no (M := T2) ⟨[], rfl, rfl⟩ [.int 1]
      obtain ⟨z2, z3, M2, p2, p3, I2, s2⟩ := bodyL_ok (ns := ns) (k := 1) 1 R1 nst_val n2 n3 I1 []
      exact ⟨_, _, _, _, (s1.trans s2).trans rfl⟩
    · obtain ⟨y2, y3, M1, n2, n3, I1, s1⟩ := bodyL_ok (ns := ns) (k := 0) 0 R0 nst_no nst_no nst_no (M := T2) ⟨[], rfl, rfl⟩ [.int 1, .int 2]
      obtain ⟨z2, z3, M2, p2, p3, I2, s2⟩ := bodyL_ok (ns := ns) (k := 1) 1 R1 nst_val n2 n3 I1 [.int 2]
      obtain ⟨w2, w3, M3, r2, r3, I3, s3⟩ := bodyL_ok (ns := ns) (k := 2) 2 R2 nst_val p2 p3 I2 []
      exact ⟨_, _, _, _, (s1.trans (s2.trans s3)).trans rfl⟩
  obtain ⟨y1, y2, y3, M', lp⟩ := lp
  refine ⟨M', ?_⟩
  rw [e0]
  unfold runM
  rw [e1, B_law_eq, ev_seq ((ev_for it).trans lp), ev_rt (ev_ret ev_cst rfl)]
  dsimp only
  rw [stoOf_cons, stoOf_cons, stoOf_cons, stoOf_cons, stoOf_one]
end G85
-- G85s
set_option maxRecDepth 100000
set_option maxHeartbeats 8000000
namespace G85
open PySem PySem.Spec PyProof.Rows L2 DL
theorem RCA00 (p : Int) (h1 : 2 ≤ p) (h2 : p ≤ 5) : RC (shI 0 0) p := by
  have h : p = 2 ∨ p = 3 ∨ p = 4 ∨ p = 5 := by omega
  rcases h with rfl | rfl | rfl | rfl
  · exact RC002
  · exact RC003
  · exact RC004
  · exact RC005
theorem RCA01 (p : Int) (h1 : 2 ≤ p) (h2 : p ≤ 4) : RC (shI 0 1) p := by
  have h : p = 2 ∨ p = 3 ∨ p = 4 := by omega
  rcases h with rfl | rfl | rfl
  · exact RC012
  · exact RC013
  · exact RC014
theorem RCA02 (p : Int) (h1 : 2 ≤ p) (h2 : p ≤ 6) : RC (shI 0 2) p := by
  have h : p = 2 ∨ p = 3 ∨ p = 4 ∨ p = 5 ∨ p = 6 := by omega
  rcases h with rfl | rfl | rfl | rfl | rfl
  · exact RC022
  · exact RC023
  · exact RC024
  · exact RC025
  · exact RC026
theorem RCA03 (p : Int) (h1 : 2 ≤ p) (h2 : p ≤ 7) : RC (shI 0 3) p := by
  have h : p = 2 ∨ p = 3 ∨ p = 4 ∨ p = 5 ∨ p = 6 ∨ p = 7 := by omega
  rcases h with rfl | rfl | rfl | rfl | rfl | rfl
  · exact RC032
  · exact RC033
  · exact RC034
  · exact RC035
  · exact RC036
  · exact RC037
theorem RK0 : RK 0 := ⟨RCA00, RCA01, RCA02, RCA03⟩
theorem RCA10 (p : Int) (h1 : 2 ≤ p) (h2 : p ≤ 5) : RC (shI 1 0) p := by
  have h : p = 2 ∨ p = 3 ∨ p = 4 ∨ p = 5 := by omega
  rcases h with rfl | rfl | rfl | rfl
  · exact RC102
  · exact RC103
  · exact RC104
  · exact RC105
theorem RCA11 (p : Int) (h1 : 2 ≤ p) (h2 : p ≤ 4) : RC (shI 1 1) p := by
  have h : p = 2 ∨ p = 3 ∨ p = 4 := by omega
  rcases h with rfl | rfl | rfl
  · exact RC112
  · exact RC113
  · exact RC114
theorem RCA12 (p : Int) (h1 : 2 ≤ p) (h2 : p ≤ 6) : RC (shI 1 2) p := by
  have h : p = 2 ∨ p = 3 ∨ p = 4 ∨ p = 5 ∨ p = 6 := by omega
  rcases h with rfl | rfl | rfl | rfl | rfl
  · exact RC122
  · exact RC123
  · exact RC124
  · exact RC125
  · exact RC126
theorem RCA13 (p : Int) (h1 : 2 ≤ p) (h2 : p ≤ 7) : RC (shI 1 3) p := by
  have h : p = 2 ∨ p = 3 ∨ p = 4 ∨ p = 5 ∨ p = 6 ∨ p = 7 := by omega
  rcases h with rfl | rfl | rfl | rfl | rfl | rfl
  · exact RC132
  · exact RC133
  · exact RC134
  · exact RC135
  · exact RC136
  · exact RC137
theorem RK1 : RK 1 := ⟨RCA10, RCA11, RCA12, RCA13⟩
theorem RCA20 (p : Int) (h1 : 2 ≤ p) (h2 : p ≤ 5) : RC (shI 2 0) p := by
  have h : p = 2 ∨ p = 3 ∨ p = 4 ∨ p = 5 := by omega
  rcases h with rfl | rfl | rfl | rfl
  · exact RC202
  · exact RC203
  · exact RC204
  · exact RC205
theorem RCA21 (p : Int) (h1 : 2 ≤ p) (h2 : p ≤ 4) : RC (shI 2 1) p := by
  have h : p = 2 ∨ p = 3 ∨ p = 4 := by omega
  rcases h with rfl | rfl | rfl
  · exact RC212
  · exact RC213
  · exact RC214
theorem RCA22 (p : Int) (h1 : 2 ≤ p) (h2 : p ≤ 6) : RC (shI 2 2) p := by
  have h : p = 2 ∨ p = 3 ∨ p = 4 ∨ p = 5 ∨ p = 6 := by omega
  rcases h with rfl | rfl | rfl | rfl | rfl
  · exact RC222
  · exact RC223
  · exact RC224
  · exact RC225
  · exact RC226
theorem RCA23 (p : Int) (h1 : 2 ≤ p) (h2 : p ≤ 7) : RC (shI 2 3) p := by
  have h : p = 2 ∨ p = 3 ∨ p = 4 ∨ p = 5 ∨ p = 6 ∨ p = 7 := by omega
  rcases h with rfl | rfl | rfl | rfl | rfl | rfl
  · exact RC232
  · exact RC233
  · exact RC234
  · exact RC235
  · exact RC236
  · exact RC237
theorem RK2 : RK 2 := ⟨RCA20, RCA21, RCA22, RCA23⟩
theorem law_true (ns : List Int) : ∃ M', F_law T2 [.scr ns] = .ok (.bl true) M' := F_law_ok RK0 RK1 RK2 ns
end G85
-- G85zt
set_option maxRecDepth 100000
set_option maxHeartbeats 0
/-! G85: the end. -/
namespace G85
open PySem PySem.Spec PyProof.Rows L2 DL He
theorem law_sp (lt : ∀ ns : List Int, ∃ M', F_law T2 [.scr ns] = .ok (.bl true) M') {K : PySem.W.Frag} {h : Heap} {w : World} {mg : Str → Option Value} {H : Hp} {a : Addr} {ns : List Int} {E : XK} (X : K.In h) (G : h.Ns mainGlobals mg) (S : SaysX fa fn ts tf ex w h K)
    (hT : ∀ p ∈ tf.map (cT K), H p.2 = some (.tbl #[])) (hO : NoOwn H) (hS : SqL K H a (ns.map V.int)) : spM ⟨K, mg⟩ F_law [.ref a] H (fun v _ => v = .bl true) E := by
  obtain ⟨M', hM⟩ := lt ns
  have c := S.t.d
  have nd : ((tf.map (cT K)).map (·.2)).Nodup := by
    have := of_decide_eq_true (show decide ((tf.map fun p => (cT K p).2).Nodup) = true from ex_at S.more 3 rfl)
    rw [List.map_map]
    exact this
  have hT2 : ∀ p ∈ (tf.map (cT K)).map (·.2), H p = some (.tbl #[]) := fun p hp => by
    obtain ⟨q, hq, rfl⟩ := List.mem_map.mp hp
    exact hT q hq
  have tb1 : TabOf K mg "wrong_pair" (cT K ("wrong_pair", none)).2 := by
    obtain ⟨fd, F⟩ := defs_of c (d := defT "wrong_pair" s_wrong_pair) (by simp [fn])
    exact tabOf_of (codeOf_of (st := s_wrong_pair) (q := "wrong_pair") (glo_ok X G (fact_of c (f := .glo "wrong_pair") (by simp [fa]))) F) (S.hd ("wrong_pair", none) (by simp [tf]))
  have tb2 : TabOf K mg "_law_right" (cT K ("_law_right", none)).2 := by
    obtain ⟨fd, F⟩ := defs_of c (d := defT "_law_right" s__law_right) (by simp [fn])
    exact tabOf_of (codeOf_of (st := s__law_right) (q := "_law_right") (glo_ok X G (fact_of c (f := .glo "_law_right") (by simp [fa]))) F) (S.hd ("_law_right", none) (by simp [tf]))
  obtain ⟨G0, l, st, sq⟩ := sto0 (T := ⟨K, mg⟩) (H := H) (ps := (tf.map (cT K)).map (·.2)) (xs := ["wrong_pair", "_law_right"]) rfl nd hT2 hO (fun n p x e1 e2 => by
    match n, e1, e2 with
    | 0, e1, e2 => cases e1; cases e2; exact tb1
    | 1, e1, e2 => cases e1; cases e2; exact tb2
    | n + 2, e1, e2 => cases e2)
  have na : ∀ p ∈ (tf.map (cT K)).map (·.2), p ≠ a := fun p hp z => by
    subst z
    have h1 := hT2 p hp
    rcases hS with h2 | ⟨o, its, n, h2, _⟩
    · rcases h2 with h3 | ⟨o, h3⟩ <;> rw [h1] at h3 <;> cases h3
    · obtain ⟨q, hq, rfl⟩ := List.mem_map.mp hp
      obtain ⟨d, hd, rfl⟩ := List.mem_map.mp hq
      rw [S.out d hd] at h2
      cases h2
  refine ⟨G0, [.scr ns], T2, l, st, .cons (.scr (sq hS na)) .nil, ?_⟩
  rw [hM]
  intro v G' H' P rv
  cases rv
  rfl
end G85
-- G85z
set_option maxRecDepth 100000
set_option maxHeartbeats 0
open PySem PySem.W PySem.Calls PyProof.Rows
theorem PySem.Challenge.cw_campwebs_k85_consoles_not_understood_holds : PySem.Challenge.rw_campwebs_k85_consoles_not_understood.Holds := by
  w_on; o_law
  refine HandSHeadRun.head_imp (r := OpenLaw.row PySem.Challenge.rw_campwebs_k85_consoles_not_understood) (q := view (OpenLaw.row PySem.Challenge.rw_campwebs_k85_consoles_not_understood).prog [0, 93]) (H := G85.hk) (ob := G85.ob) (M := 15000) (loose := G85.loose) (d := HandSHeadRun.topDef (OpenLaw.row PySem.Challenge.rw_campwebs_k85_consoles_not_understood).prog 93) (kwd := []) G85.ob_eq
    G85.run (by kernel_rfl) (by kernel_rfl) (by kernel_rfl) (by rfl) (by first | assumption | decide +kernel) (by decide +kernel) ⟨rfl, rfl, rfl, rfl, rfl, by decide +kernel⟩ ?hw ?hc
  case hw => w_witness2
  case hc =>
    refine DL.walkGT (l := PySem.Challenge.rw_campwebs_k85_consoles_not_understood) (n := 63) (k := 43) (x := "script") rfl (by decide) (by kernel_rfl) ⟨rfl, by decide, by decide⟩ ?F ?C
    case F =>
      intro w mg fa h Y G hmg0
      obtain ⟨K, KX, S⟩ := Y
      have hmg : mg ("law" : PySem.Str) = some (.ref fa) := by
        have e : (HandSHeadRun.topDef (OpenLaw.row PySem.Challenge.rw_campwebs_k85_consoles_not_understood).prog 93).name = ("law" : PySem.Str) := by kernel_rfl
        rw [← e]
        exact hmg0
      have hga := hmg.symm.trans (He.glo_ok KX G (DL.fact_of S.t.d (f := .glo "law") (by simp [G85.fa])))
      cases hga
      obtain ⟨fd, hb, hF⟩ := G85.law_ok (P := (PySem.Challenge.rw_campwebs_k85_consoles_not_understood).prog) (w := w) KX G S
      refine ⟨K, fd, G85.tf.map (He.cT K), DL.spM ⟨K, mg⟩ G85.F_law, KX, fun p hp => ?_, fun p hp => ?_, fun p hp => ?_, hb, fun H a ns hl hbits hT hO hS => G85.law_sp G85.law_true KX G S hT hO hS, fun base _ _ TB => hF base TB⟩
      · obtain ⟨q, hq, rfl⟩ := List.mem_map.mp hp
        exact S.empty q hq
      · obtain ⟨q, hq, rfl⟩ := List.mem_map.mp hp
        exact S.out q hq
      · obtain ⟨q, hq, rfl⟩ := List.mem_map.mp hp
        exact PySem.W.codeHd_of_K KX (S.hd q hq)
    case C =>
      intro w H s e s' z
      obtain ⟨_, _, _, _, _, _, _, _, _, _, _, _, z⟩ := z
      exact z.elim
