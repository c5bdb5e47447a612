import PyProof.Rows.All
import Wide.All
import OpenK.AllK
import Wide.FinOn
import HandS.ForMost
import HandS.Exc
import HandS.Walk
import HandS.Deep
import HandS.Zip
import HandS.Head2
import HandS.HeadEnd
import HandS.HeadHook2
import HandS.TupAny
import KE.GoesNew
import KE.GoesEnum
import HandS.CallSlots
import HandS.Defaults
import HandS.IsInst
import HandS.RaiseMore
import HandS.Codes
import HandS.Strs
import HandS.More
import HandS.WrittenGet
import PyProof.ReprRoads
import HandS.Ends
import HandS.Head0
import HandS.Head1
import HandS.HeadHook1
import HandS.HeadHook3
import HandS.HeadHook4
import PyProof.FitsInt
import PyProof.StrLawsRepr
import HandS.FStrTup
import PySem.Challenge.RW_everyfire_k53_words_of_a_session
set_option Elab.async false
set_option linter.all false
set_option maxRecDepth 100000
set_option maxHeartbeats 2000000
namespace PV
open PySem PySem.Spec PyProof.Rows L2

/-! ### data -/
/-- a text by its codes -/
def S (s : List Nat) : Str := ⟨s.toArray⟩
/-- it is a text, not too long -/
def OkS (s : List Nat) : Prop := (∀ c ∈ s, c < 1114112) ∧ s.length ≤ 16777216
theorem S_len (s : List Nat) : (S s).length = s.length := by simp [S, Str.length]
theorem S_list (s : List Nat) : (S s).cps.toList = s := by simp [S]
theorem S_inj {a b : List Nat} (h : S a = S b) : a = b := by
  have := congrArg (fun x : Str => x.cps.toList) h
  simpa [S] using this
theorem S_of (x : Str) : S x.cps.toList = x := by cases x; simp [S]
theorem OkS.line {s : List Nat} (h : OkS s) : (S s).length ≤ sizeLine := by rw [S_len, sizeLine_eq]; exact h.2
theorem OkS.app {a b : List Nat} (ha : OkS a) (hb : OkS b) (h : a.length + b.length ≤ 16777216) : OkS (a ++ b) := by
  refine ⟨fun c hc => ?_, by rw [List.length_append]; exact h⟩
  rcases List.mem_append.mp hc with hc | hc
  · exact ha.1 c hc
  · exact hb.1 c hc
theorem OkS.sub {a b : List Nat} (ha : OkS a) (h : ∀ c ∈ b, c ∈ a) (l : b.length ≤ a.length) : OkS b := ⟨fun c hc => ha.1 c (h c hc), Nat.le_trans l ha.2⟩
theorem S_app (a b : List Nat) : S (a ++ b) = S a ++ S b := by
  show (⟨(a ++ b).toArray⟩ : Str) = ⟨a.toArray ++ b.toArray⟩
  simp
inductive D where
  | non | bl (b : Bool) | int (i : Int) | str (s : List Nat)
  | lst (xs : List D) | tup (xs : List D)
  /-- a tuple that may have a dict -/
  | wtp (xs : List D)
  /-- the script -/
  | scr (ns : List Int)
  /-- a built-in class -/
  | ty (n : String)
  | dic (ks : List Key) (xs : List D)
  | dit (ks : List (List Key)) (xs : List D)
  | ins (c : Str) (ns : List Str) (xs : List D)
/-- data that a def owns: fz is never written again -/
inductive T where
  | fz (d : D)
  | lst (ts : List T)
  | dic (ks : List Key) (ts : List T)
  | ins (c : Str) (ns : List Str) (ts : List T)
mutual
def T.frz : T → D
  | .fz d => d
  | .lst ts => .lst (T.frzL ts)
  | .dic ks ts => .dic ks (T.frzL ts)
  | .ins c ns ts => .ins c ns (T.frzL ts)
def T.frzL : List T → List D
  | [] => []
  | t :: ts => t.frz :: T.frzL ts
end

def Ex (H H' : Hp) : Prop := ∀ a o, H a = some o → H' a = some o
theorem Ex.refl (H : Hp) : Ex H H := fun _ _ h => h
theorem Ex.trans {H H1 H2 : Hp} (a : Ex H H1) (b : Ex H1 H2) : Ex H H2 := fun x o h => b x o (a x o h)
theorem Ex.rd {H H' : Hp} {a : Addr} {u : HO} (e : Ex H H') (h : Rd H a u) : Rd H' a u := by
  rcases h with h | ⟨o, h⟩
  · exact .inl (e a _ h)
  · exact .inr ⟨o, e a _ h⟩
theorem rd_of {H H' : Hp} {a : Addr} {u : HO} (e : ∀ o, H a = some o → H' a = some o) (h : Rd H a u) : Rd H' a u := by
  rcases h with h | ⟨o, h⟩
  · exact .inl (e _ h)
  · exact .inr ⟨o, e _ h⟩
theorem rd_some {H : Hp} {a : Addr} {u : HO} (h : Rd H a u) : ∃ o, H a = some o := by
  rcases h with h | ⟨o, h⟩
  · exact ⟨_, h⟩
  · exact ⟨_, h⟩
theorem Ex.sql {K : PySem.W.Frag} {H H' : Hp} {a : Addr} {xs : List V} (e : Ex H H') (h : SqL K H a xs) : SqL K H' a xs := by
  rcases h with h | h
  · exact .inl (e.rd h)
  · exact .inr h
theorem Ex.sqt {K : PySem.W.Frag} {H H' : Hp} {a : Addr} {xs : List V} (e : Ex H H') (h : SqT K H a xs) : SqT K H' a xs := by
  rcases h with h | h
  · exact .inl (e.rd h)
  · exact .inr h
/-- a tuple without a dict -/
def SqP (K : PySem.W.Frag) (H : Hp) (a : Addr) (xs : List V) : Prop :=
  (∃ o, H a = some (.frz o (.tup xs)) ∧ o.cls = .type "tuple" ∧ o.dict = none) ∨
    ∃ (o : Obj) (its : Array Value) (n : Nat), K.lookup a = some o ∧ o.cls = .type "tuple" ∧ o.dict = none ∧ o.data = .seq its n ∧ its.size ≤ sizeLine ∧ Vals xs its.toList
theorem SqP.sqt {K : PySem.W.Frag} {H : Hp} {a : Addr} {xs : List V} (h : SqP K H a xs) : SqT K H a xs := by
  rcases h with ⟨o, h, _⟩ | ⟨o, its, n, h1, h2, _, h3⟩
  · exact .inl (.inr ⟨o, h⟩)
  · exact .inr ⟨o, its, n, h1, h2, h3⟩
theorem Ex.sqp {K : PySem.W.Frag} {H H' : Hp} {a : Addr} {xs : List V} (e : Ex H H') (h : SqP K H a xs) : SqP K H' a xs := by
  rcases h with ⟨o, h, z⟩ | h
  · exact .inl ⟨o, e _ _ h, z⟩
  · exact .inr h
theorem Ex.none {H H' : Hp} {a : Addr} (e : Ex H H') (h : H' a = none) : H a = none := by
  cases q : H a with
  | none => rfl
  | some o => rw [e a o q] at h; cases h

section
variable (K : PySem.W.Frag) (F : Hp)
mutual
/-- v stands for d -/
def Is : D → V → Prop
  | .non, v => v = .non
  | .bl b, v => v = .bl b
  | .int i, v => v = .int i
  | .str s, v => v = .str (S s) ∧ OkS s
  | .lst xs, v => ∃ a vs, v = .ref a ∧ F a = some (.lst vs) ∧ IsL xs vs
  | .ty n, v => v = .ty n
  | .scr ns, v => ∃ a, v = .ref a ∧ SqL K F a (ns.map V.int)
  | .tup xs, v => ∃ a vs, v = .ref a ∧ SqP K F a vs ∧ IsL xs vs
  | .wtp xs, v => ∃ a vs, v = .ref a ∧ SqT K F a vs ∧ IsL xs vs
  | .dic ks xs, v => ∃ a kvs, v = .ref a ∧ Rd F a (.dK kvs) ∧ kvs.map (·.1) = ks ∧ IsL xs (kvs.map (·.2))
  | .dit ks xs, v => ∃ a kvs, v = .ref a ∧ Rd F a (.dT kvs) ∧ kvs.map (·.1) = ks ∧ IsL xs (kvs.map (·.2))
  | .ins c ns xs, v => ∃ a dx fs, v = .ref a ∧ F a = some (.ins (He.ga K c) dx fs) ∧ fs.map (·.1) = ns ∧ IsL xs (fs.map (·.2))
def IsL : List D → List V → Prop
  | [], [] => True
  | d :: ds, v :: vs => Is d v ∧ IsL ds vs
  | _, _ => False
end
end
section
variable {K : PySem.W.Frag} {F F' : Hp}
mutual
theorem Is.mono (e : Ex F F') : ∀ (d : D) (v : V), Is K F d v → Is K F' d v
  | .non, _, h => h
  | .bl _, _, h => h
  | .int _, _, h => h
  | .ty _, _, h => h
  | .str _, _, h => h
  | .lst xs, v, h => by
    obtain ⟨a, vs, e1, h1, h2⟩ := h
    exact ⟨a, vs, e1, e _ _ h1, IsL.mono e xs vs h2⟩
  | .scr ns, v, h => by
    obtain ⟨a, e1, h1⟩ := h
    exact ⟨a, e1, e.sql h1⟩
  | .tup xs, v, h => by
    obtain ⟨a, vs, e1, h1, h2⟩ := h
    exact ⟨a, vs, e1, e.sqp h1, IsL.mono e xs vs h2⟩
  | .wtp xs, v, h => by
    obtain ⟨a, vs, e1, h1, h2⟩ := h
    exact ⟨a, vs, e1, e.sqt h1, IsL.mono e xs vs h2⟩
  | .dic ks xs, v, h => by
    obtain ⟨a, kvs, e1, h1, h3, h2⟩ := h
    exact ⟨a, kvs, e1, e.rd h1, h3, IsL.mono e xs _ h2⟩
  | .dit ks xs, v, h => by
    obtain ⟨a, kvs, e1, h1, h3, h2⟩ := h
    exact ⟨a, kvs, e1, e.rd h1, h3, IsL.mono e xs _ h2⟩
  | .ins c ns xs, v, h => by
    obtain ⟨a, dx, fs, e1, h1, h3, h2⟩ := h
    exact ⟨a, dx, fs, e1, e _ _ h1, h3, IsL.mono e xs _ h2⟩
theorem IsL.mono (e : Ex F F') : ∀ (ds : List D) (vs : List V), IsL K F ds vs → IsL K F' ds vs
  | [], [], _ => trivial
  | [], _ :: _, h => h
  | _ :: _, [], h => h
  | d :: ds, v :: vs, h => ⟨Is.mono e d v h.1, IsL.mono e ds vs h.2⟩
end
theorem IsL.len : ∀ {ds : List D} {vs : List V}, IsL K F ds vs → ds.length = vs.length
  | [], [], _ => rfl
  | [], _ :: _, h => h.elim
  | _ :: _, [], h => h.elim
  | _ :: _, _ :: _, h => congrArg (· + 1) (IsL.len h.2)
theorem IsL.get : ∀ {ds : List D} {vs : List V} {i : Nat} {d : D}, IsL K F ds vs → ds[i]? = some d → ∃ v, vs[i]? = some v ∧ Is K F d v
  | [], _, _, _, _, e => by simp at e
  | _ :: _, [], _, _, h, _ => h.elim
  | d :: ds, v :: vs, 0, d', h, e => by
    simp at e
    subst e
    exact ⟨v, rfl, h.1⟩
  | d :: ds, v :: vs, i + 1, d', h, e => by
    obtain ⟨u, h1, h2⟩ := IsL.get (i := i) h.2 (by simpa using e)
    exact ⟨u, by simpa using h1, h2⟩
theorem IsL.append : ∀ {ds es : List D} {vs us : List V}, IsL K F ds vs → IsL K F es us → IsL K F (ds ++ es) (vs ++ us)
  | [], _, [], _, _, h => h
  | [], _, _ :: _, _, h, _ => h.elim
  | _ :: _, _, [], _, h, _ => h.elim
  | _ :: _, _, _ :: _, _, h, g => ⟨h.1, IsL.append h.2 g⟩
theorem IsL.take : ∀ {ds : List D} {vs : List V} (n : Nat), IsL K F ds vs → IsL K F (ds.take n) (vs.take n)
  | ds, vs, 0, _ => by simp [IsL]
  | [], [], _ + 1, _ => trivial
  | [], _ :: _, _ + 1, h => h.elim
  | _ :: _, [], _ + 1, h => h.elim
  | _ :: _, _ :: _, n + 1, h => ⟨h.1, IsL.take n h.2⟩
theorem IsL.drop : ∀ {ds : List D} {vs : List V} (n : Nat), IsL K F ds vs → IsL K F (ds.drop n) (vs.drop n)
  | _, _, 0, h => h
  | [], [], _ + 1, _ => trivial
  | [], _ :: _, _ + 1, h => h.elim
  | _ :: _, [], _ + 1, h => h.elim
  | _ :: _, _ :: _, n + 1, h => IsL.drop n h.2

/-- more stands; what is frozen of what stood is as it was -/
structure Ext (F H F' H' : Hp) : Prop where
  hp : Ex H H'
  fz : Ex F' H'
  eq : ∀ a o, H a = some o → F' a = F a
theorem Ext.refl {F H : Hp} (h : Ex F H) : Ext F H F H := ⟨Ex.refl _, h, fun _ _ _ => rfl⟩
theorem Ext.trans {F H F1 H1 F2 H2 : Hp} (a : Ext F H F1 H1) (b : Ext F1 H1 F2 H2) : Ext F H F2 H2 :=
  ⟨a.hp.trans b.hp, b.fz, fun x o h => (b.eq x o (a.hp x o h)).trans (a.eq x o h)⟩
theorem Ext.ex {F H F' H' : Hp} (a : Ext F H F' H') (h : Ex F H) : Ex F F' := fun x o e => (a.eq x o (h x o e)).trans e
/-- a new frozen object -/
theorem Ext.new {F H : Hp} {p : Addr} {o : HO} (h : Ex F H) (hp : H p = none) : Ext F H (upd F p o) (upd H p o) := by
  refine ⟨fun a u e => ?_, fun a u e => ?_, fun a u e => ?_⟩
  · rw [upd_ne (ne_of_none e hp)]; exact e
  · by_cases ha : a = p
    · subst ha; rw [upd_same] at e ⊢; exact e
    · rw [upd_ne ha] at e ⊢; exact h a u e
  · rw [upd_ne (ne_of_none e hp)]
/-- a new object that is not frozen -/
theorem Ext.newOwn {F H : Hp} {p : Addr} {o : HO} (h : Ex F H) (hp : H p = none) : Ext F H F (upd H p o) := by
  refine ⟨fun a u e => ?_, fun a u e => ?_, fun a u e => rfl⟩
  · rw [upd_ne (ne_of_none e hp)]; exact e
  · rw [upd_ne (ne_of_none (h a u e) hp)]; exact h a u e

section
variable (K : PySem.W.Frag) (F H : Hp)
mutual
/-- v is the root of t; the nodes that may be written stand at R -/
def Own : T → V → List Addr → Prop
  | .fz d, v, R => R = [] ∧ Is K F d v
  | .lst ts, v, R => ∃ a vs R', v = .ref a ∧ H a = some (.lst vs) ∧ R = a :: R' ∧ OwnL ts vs R'
  | .dic ks ts, v, R => ∃ a kvs R', v = .ref a ∧ Rd H a (.dK kvs) ∧ kvs.map (·.1) = ks ∧ R = a :: R' ∧ OwnL ts (kvs.map (·.2)) R'
  | .ins c ns ts, v, R => ∃ a dx fs R', v = .ref a ∧ H a = some (.ins (He.ga K c) dx fs) ∧ fs.map (·.1) = ns ∧ R = a :: R' ∧ OwnL ts (fs.map (·.2)) R'
def OwnL : List T → List V → List Addr → Prop
  | [], [], R => R = []
  | t :: ts, v :: vs, R => ∃ R1 R2, R = R1 ++ R2 ∧ Own t v R1 ∧ OwnL ts vs R2
  | _, _, _ => False
end
end
section
variable {H H' : Hp}
/-! what Own leans on -/
mutual
theorem Own.mono (e : Ex F F') : ∀ (t : T) (v : V) (R : List Addr), (∀ r ∈ R, ∀ o, H r = some o → H' r = some o) → Own K F H t v R → Own K F' H' t v R
  | .fz d, v, R, _, h => ⟨h.1, Is.mono e d v h.2⟩
  | .lst ts, v, R, k, h => by
    obtain ⟨a, vs, R', e1, h1, rfl, h2⟩ := h
    exact ⟨a, vs, R', e1, k a (by simp) _ h1, rfl, OwnL.mono e ts vs R' (fun r hr => k r (by simp [hr])) h2⟩
  | .dic ks ts, v, R, k, h => by
    obtain ⟨a, kvs, R', e1, h1, h3, rfl, h2⟩ := h
    exact ⟨a, kvs, R', e1, rd_of (k a (by simp)) h1, h3, rfl, OwnL.mono e ts _ R' (fun r hr => k r (by simp [hr])) h2⟩
  | .ins c ns ts, v, R, k, h => by
    obtain ⟨a, dx, fs, R', e1, h1, h3, rfl, h2⟩ := h
    exact ⟨a, dx, fs, R', e1, k a (by simp) _ h1, h3, rfl, OwnL.mono e ts _ R' (fun r hr => k r (by simp [hr])) h2⟩
theorem OwnL.mono (e : Ex F F') : ∀ (ts : List T) (vs : List V) (R : List Addr), (∀ r ∈ R, ∀ o, H r = some o → H' r = some o) → OwnL K F H ts vs R → OwnL K F' H' ts vs R
  | [], [], _, _, h => h
  | [], _ :: _, _, _, h => h
  | _ :: _, [], _, _, h => h
  | t :: ts, v :: vs, R, k, h => by
    obtain ⟨R1, R2, rfl, h1, h2⟩ := h
    exact ⟨R1, R2, rfl, Own.mono e t v R1 (fun r hr => k r (by simp [hr])) h1, OwnL.mono e ts vs R2 (fun r hr => k r (by simp [hr])) h2⟩
end
mutual
theorem Own.held : ∀ (t : T) (v : V) (R : List Addr), Own K F H t v R → ∀ r ∈ R, ∃ o, H r = some o
  | .fz d, v, R, h => by rw [h.1]; intro r hr; cases hr
  | .lst ts, v, R, h => by
    obtain ⟨a, vs, R', e1, h1, rfl, h2⟩ := h
    intro r hr
    rcases List.mem_cons.mp hr with rfl | hr
    · exact ⟨_, h1⟩
    · exact OwnL.held ts vs R' h2 r hr
  | .dic ks ts, v, R, h => by
    obtain ⟨a, kvs, R', e1, h1, h3, rfl, h2⟩ := h
    intro r hr
    rcases List.mem_cons.mp hr with rfl | hr
    · exact rd_some h1
    · exact OwnL.held ts _ R' h2 r hr
  | .ins c ns ts, v, R, h => by
    obtain ⟨a, dx, fs, R', e1, h1, h3, rfl, h2⟩ := h
    intro r hr
    rcases List.mem_cons.mp hr with rfl | hr
    · exact ⟨_, h1⟩
    · exact OwnL.held ts _ R' h2 r hr
theorem OwnL.held : ∀ (ts : List T) (vs : List V) (R : List Addr), OwnL K F H ts vs R → ∀ r ∈ R, ∃ o, H r = some o
  | [], [], _, h => by
    have h : _ = _ := h
    rw [h]; intro r hr; cases hr
  | [], _ :: _, _, h => h.elim
  | _ :: _, [], _, h => h.elim
  | t :: ts, v :: vs, R, h => by
    obtain ⟨R1, R2, rfl, h1, h2⟩ := h
    intro r hr
    rcases List.mem_append.mp hr with hr | hr
    · exact Own.held t v R1 h1 r hr
    · exact OwnL.held ts vs R2 h2 r hr
end
/-! an owned tree, frozen where it stands -/
mutual
theorem Own.freeze (e : Ex F F') : ∀ (t : T) (v : V) (R : List Addr), (∀ r ∈ R, ∀ o, H r = some o → F' r = some o) → Own K F H t v R → Is K F' t.frz v
  | .fz d, v, R, _, h => Is.mono e d v h.2
  | .lst ts, v, R, k, h => by
    obtain ⟨a, vs, R', e1, h1, rfl, h2⟩ := h
    exact ⟨a, vs, e1, k a (by simp) _ h1, OwnL.freeze e ts vs R' (fun r hr => k r (by simp [hr])) h2⟩
  | .dic ks ts, v, R, k, h => by
    obtain ⟨a, kvs, R', e1, h1, h3, rfl, h2⟩ := h
    exact ⟨a, kvs, e1, rd_of (k a (by simp)) h1, h3, OwnL.freeze e ts _ R' (fun r hr => k r (by simp [hr])) h2⟩
  | .ins c ns ts, v, R, k, h => by
    obtain ⟨a, dx, fs, R', e1, h1, h3, rfl, h2⟩ := h
    exact ⟨a, dx, fs, e1, k a (by simp) _ h1, h3, OwnL.freeze e ts _ R' (fun r hr => k r (by simp [hr])) h2⟩
theorem OwnL.freeze (e : Ex F F') : ∀ (ts : List T) (vs : List V) (R : List Addr), (∀ r ∈ R, ∀ o, H r = some o → F' r = some o) → OwnL K F H ts vs R → IsL K F' (T.frzL ts) vs
  | [], [], _, _, h => trivial
  | [], _ :: _, _, _, h => h.elim
  | _ :: _, [], _, _, h => h.elim
  | t :: ts, v :: vs, R, k, h => by
    obtain ⟨R1, R2, rfl, h1, h2⟩ := h
    exact ⟨Own.freeze e t v R1 (fun r hr => k r (by simp [hr])) h1, OwnL.freeze e ts vs R2 (fun r hr => k r (by simp [hr])) h2⟩
end
/-- it may be read -/
theorem Own.read (e : Ex F H) {t : T} {v : V} {R : List Addr} (h : Own K F H t v R) : Is K H t.frz v := h.freeze e t v R fun _ _ _ z => z
end

/-! ### the slots -/
abbrev Env' := List (Option T)
section
variable (K : PySem.W.Frag) (F H : Hp)
def OwnE : Env' → L2.St → List Addr → Prop
  | [], [], R => R = []
  | none :: es, _ :: σ, R => OwnE es σ R
  | some t :: es, some v :: σ, R => ∃ R1 R2, R = R1 ++ R2 ∧ Own K F H t v R1 ∧ OwnE es σ R2
  | _, _, _ => False
end
end
end PV

set_option Elab.async false
set_option linter.all false
set_option maxRecDepth 100000
set_option maxHeartbeats 2000000
namespace PV
open PySem PySem.Spec PyProof.Rows L2
section
variable {K : PySem.W.Frag} {F F' H H' : Hp}
theorem OwnE.mono (e : Ex F F') : ∀ (env : Env') (σ : L2.St) (R : List Addr), (∀ r ∈ R, ∀ o, H r = some o → H' r = some o) → OwnE K F H env σ R → OwnE K F' H' env σ R
  | [], [], _, _, h => h
  | none :: es, _ :: σ, R, k, h => OwnE.mono e es σ R k h
  | some t :: es, some v :: σ, R, k, h => by
    obtain ⟨R1, R2, rfl, h1, h2⟩ := h
    exact ⟨R1, R2, rfl, Own.mono e t v R1 (fun r hr => k r (by simp [hr])) h1, OwnE.mono e es σ R2 (fun r hr => k r (by simp [hr])) h2⟩
  | some _ :: _, none :: _, _, _, h => h.elim
  | some _ :: _, [], _, _, h => h.elim
  | none :: _, [], _, _, h => h.elim
  | [], _ :: _, _, _, h => h.elim
theorem OwnE.held : ∀ (env : Env') (σ : L2.St) (R : List Addr), OwnE K F H env σ R → ∀ r ∈ R, ∃ o, H r = some o
  | [], [], _, h => by
    have h : _ = _ := h
    rw [h]; intro r hr; cases hr
  | none :: es, _ :: σ, R, h => OwnE.held es σ R h
  | some t :: es, some v :: σ, R, h => by
    obtain ⟨R1, R2, rfl, h1, h2⟩ := h
    intro r hr
    rcases List.mem_append.mp hr with hr | hr
    · exact Own.held t v R1 h1 r hr
    · exact OwnE.held es σ R2 h2 r hr
  | some _ :: _, none :: _, _, h => h.elim
  | some _ :: _, [], _, h => h.elim
  | none :: _, [], _, h => h.elim
  | [], _ :: _, _, h => h.elim
theorem OwnE.len : ∀ (env : Env') (σ : L2.St) (R : List Addr), OwnE K F H env σ R → env.length = σ.length
  | [], [], _, h => rfl
  | none :: es, _ :: σ, R, h => congrArg (· + 1) (OwnE.len es σ R h)
  | some t :: es, some v :: σ, R, h => by
    obtain ⟨R1, R2, rfl, h1, h2⟩ := h
    exact congrArg (· + 1) (OwnE.len es σ R2 h2)
  | some _ :: _, none :: _, _, h => h.elim
  | some _ :: _, [], _, h => h.elim
  | none :: _, [], _, h => h.elim
  | [], _ :: _, _, h => h.elim
/-- the slot i: its tree, its value, its nodes, and the rest -/
theorem OwnE.get : ∀ {env : Env'} {σ : L2.St} {R : List Addr} {i : Nat} {t : T}, OwnE K F H env σ R → env[i]? = some (some t) →
    ∃ v Rt, σ[i]? = some (some v) ∧ Own K F H t v Rt ∧ Rt.Sublist R
  | [], [], _, _, _, h, e => by simp at e
  | none :: es, _ :: σ, R, 0, t, h, e => by simp at e
  | none :: es, _ :: σ, R, i + 1, t, h, e => by
    obtain ⟨v, Rt, h1, h2, h3⟩ := OwnE.get (env := es) (σ := σ) (i := i) h (by simpa using e)
    exact ⟨v, Rt, by simpa using h1, h2, h3⟩
  | some t :: es, some v :: σ, R, 0, t', h, e => by
    obtain ⟨R1, R2, rfl, h1, h2⟩ := h
    simp at e
    subst e
    exact ⟨v, R1, rfl, h1, List.sublist_append_left _ _⟩
  | some t :: es, some v :: σ, R, i + 1, t', h, e => by
    obtain ⟨R1, R2, rfl, h1, h2⟩ := h
    obtain ⟨v, Rt, h3, h4, h5⟩ := OwnE.get (env := es) (σ := σ) (i := i) h2 (by simpa using e)
    exact ⟨v, Rt, by simpa using h3, h4, h5.trans (List.sublist_append_right _ _)⟩
  | some _ :: _, none :: _, _, _, _, h, _ => h.elim
  | some _ :: _, [], _, _, _, h, _ => h.elim
  | none :: _, [], _, _, _, h, _ => h.elim
  | [], _ :: _, _, _, _, h, _ => h.elim

/-- it may be read, and nothing else holds it -/
def Bor (K : PySem.W.Frag) (G F H : Hp) (t : T) (v : V) : Prop := ∃ Rb, Own K F H t v Rb ∧ Rb.Nodup ∧ ∀ r ∈ Rb, F r = none ∧ G r = none
theorem Bor.ext {K : PySem.W.Frag} {G F H F' H' : Hp} {t : T} {v : V} (e : Ext F H F' H') (x : Ex F H) (h : Bor K G F H t v) : Bor K G F' H' t v := by
  obtain ⟨Rb, h1, h2, h3⟩ := h
  refine ⟨Rb, h1.mono (e.ex x) _ _ _ fun r _ o z => e.hp r o z, h2, fun r hr => ⟨?_, (h3 r hr).2⟩⟩
  obtain ⟨o, ho⟩ := h1.held _ _ _ r hr
  exact (e.eq r o ho).trans (h3 r hr).1
/-- what runs: G the heap at the entry, F0 what of it was frozen -/
structure Stt (K : PySem.W.Frag) (G F0 F H : Hp) (σ : L2.St) (env : Env') (R : List Addr) : Prop where
  exG : Ex G H
  exF : Ex F H
  sep : ∀ a o, G a = some o → F a = F0 a
  own : OwnE K F H env σ R
  nd : R.Nodup
  out : ∀ r ∈ R, F r = none ∧ G r = none
variable {G F0 : Hp} {σ : L2.St} {env : Env'} {R : List Addr}
theorem Stt.bor {i : Nat} {t : T} (S : Stt K G F0 F H σ env R) (h : env[i]? = some (some t)) : ∃ v, σ[i]? = some (some v) ∧ Bor K G F H t v := by
  obtain ⟨v, Rt, h1, h2, h3⟩ := S.own.get h
  exact ⟨v, h1, Rt, h2, h3.nodup S.nd, fun r hr => S.out r (h3.subset hr)⟩
theorem Stt.ext (S : Stt K G F0 F H σ env R) (e : Ext F H F' H') : Stt K G F0 F' H' σ env R where
  exG := S.exG.trans e.hp
  exF := e.fz
  sep := fun a o h => (e.eq a o (S.exG a o h)).trans (S.sep a o h)
  own := S.own.mono (e.ex S.exF) _ _ _ fun r _ o h => e.hp r o h
  nd := S.nd
  out := fun r hr => by
    obtain ⟨o, ho⟩ := S.own.held _ _ _ r hr
    exact ⟨(e.eq r o ho).trans (S.out r hr).1, (S.out r hr).2⟩
/-- what is new and owned -/
structure New (K : PySem.W.Frag) (H F' H' : Hp) (t : T) (v : V) (Rn : List Addr) : Prop where
  own : Own K F' H' t v Rn
  nd : Rn.Nodup
  out : ∀ r ∈ Rn, H r = none ∧ F' r = none
theorem New.fz {d : D} {v : V} (h : Is K F' d v) : New K H F' H' (.fz d) v [] := ⟨⟨rfl, h⟩, List.nodup_nil, fun _ z => nomatch z⟩
/-- the frozen part grown by R -/
def grow (F H : Hp) (R : List Addr) : Hp := fun a => if a ∈ R then H a else F a
theorem grow_in {R : List Addr} {a : Addr} (h : a ∈ R) : grow F H R a = H a := if_pos h
theorem grow_out {R : List Addr} {a : Addr} (h : a ∉ R) : grow F H R a = F a := if_neg h
theorem grow_nil : grow F H [] = F := by
  funext a
  exact if_neg (fun z => nomatch z)
/-- what is new and owned, frozen -/
theorem New.freeze {t : T} {v : V} {Rn : List Addr} (n : New K H F' H' t v Rn) (e : Ext F H F' H') : ∃ F2, Ext F H F2 H' ∧ Ex F' F2 ∧ Is K F2 t.frz v := by
  have ex : Ex F' (grow F' H' Rn) := fun a o h => by
    have ha : a ∉ Rn := fun z => by rw [(n.out a z).2] at h; cases h
    rw [grow_out ha]; exact h
  refine ⟨grow F' H' Rn, ⟨e.hp, fun a o h => ?_, fun a o h => ?_⟩, ex, ?_⟩
  · by_cases ha : a ∈ Rn
    · rw [grow_in ha] at h; exact h
    · rw [grow_out ha] at h; exact e.fz a o h
  · have ha : a ∉ Rn := fun z => by rw [(n.out a z).1] at h; cases h
    rw [grow_out ha]; exact e.eq a o h
  · exact n.own.freeze ex t v Rn fun r hr o h => by rw [grow_in hr]; exact h
end


/-! ### what comes of code -/
/-- an exception: the class's name, its attributes -/
structure Exn where
  cls : Str
  fs : List (Str × D)
def ExnAt (K : PySem.W.Frag) (F : Hp) (x : Exn) (c : Value) (a : Option Addr) : Prop :=
  c = .ref (He.ga K x.cls) ∧ (x.fs = [] ∨ ∃ d fs, a = some d ∧ F d = some (.xd fs) ∧ fs.map (·.1) = x.fs.map (·.1) ∧ IsL K F (x.fs.map (·.2)) (fs.map (·.2)))
end PV

set_option Elab.async false
set_option linter.all false
set_option maxRecDepth 100000
set_option maxHeartbeats 2000000
namespace PV
open PySem PySem.Spec PyProof.Rows L2

/-! ### outcomes -/
inductive O (α : Type) where
  | stuck
  | exn (x : Exn)
  | ok (a : α)
def O.bnd {α β : Type} : O α → (α → O β) → O β
  | .stuck, _ => .stuck
  | .exn x, _ => .exn x
  | .ok a, f => f a
@[simp] theorem O.bnd_ok {α β : Type} (a : α) (f : α → O β) : (O.ok a).bnd f = f a := rfl
@[simp] theorem O.bnd_exn {α β : Type} (x : Exn) (f : α → O β) : (O.exn x : O α).bnd f = .exn x := rfl
@[simp] theorem O.bnd_stuck {α β : Type} (f : α → O β) : (O.stuck : O α).bnd f = .stuck := rfl
def O.of {α : Type} : Option α → O α
  | none => .stuck
  | some a => .ok a
@[simp] theorem O.of_none {α : Type} : O.of (none : Option α) = .stuck := rfl
@[simp] theorem O.of_some {α : Type} (a : α) : O.of (some a) = .ok a := rfl
/-- what an expression gives: a new tree, or one that is owned elsewhere and may be read -/
inductive Rv where
  | val (t : T)
  | bor (t : T)
def Rv.rd : Rv → D
  | .val t => t.frz
  | .bor t => t.frz
def Rv.clean : Rv → Bool
  | .val _ => true
  | .bor _ => false
@[simp] theorem Rv.rd_val (t : T) : (Rv.val t).rd = t.frz := rfl
@[simp] theorem Rv.rd_bor (t : T) : (Rv.bor t).rd = t.frz := rfl
@[simp] theorem Rv.clean_val (t : T) : (Rv.val t).clean = true := rfl
@[simp] theorem Rv.clean_bor (t : T) : (Rv.bor t).clean = false := rfl
def D.scal : D → Bool
  | .non => true
  | .bl _ => true
  | .int _ => true
  | .str _ => true
  | .ty _ => true
  | _ => false
def T.scal : T → Bool
  | .fz d => d.scal
  | _ => false
def D.v : D → V
  | .non => .non
  | .bl b => .bl b
  | .int i => .int i
  | .str s => .str (S s)
  | .ty n => .ty n
  | _ => .non
section
variable {K : PySem.W.Frag} {F F' G H H' : Hp}
theorem Is.scal {d : D} {v : V} (h : Is K F d v) (c : d.scal = true) : v = d.v := by
  cases d <;> first | exact h | exact h.1 | cases c
theorem Is.any {F' : Hp} {d : D} {v : V} (h : Is K F d v) (c : d.scal = true) : Is K F' d v := by
  cases d <;> first | exact h | cases c
/-- r is read off v -/
def RdV (K : PySem.W.Frag) (G F H : Hp) : Rv → V → Prop
  | .val t, v => Is K F t.frz v
  | .bor t, v => Bor K G F H t v
theorem RdV.mono {r : Rv} {v : V} (e : Ext F H F' H') (x : Ex F H) (h : RdV K G F H r v) : RdV K G F' H' r v := by
  cases r with
  | val t => exact Is.mono (e.ex x) _ _ h
  | bor t => exact Bor.ext e x h
theorem RdV.is {r : Rv} {v : V} (x : Ex F H) (h : RdV K G F H r v) : Is K H r.rd v := by
  cases r with
  | val t => exact Is.mono x _ _ h
  | bor t =>
    obtain ⟨Rb, h, _⟩ := h
    exact h.read x
theorem RdV.fz {r : Rv} {v : V} (h : RdV K G F H r v) (c : r.clean = true) : Is K F r.rd v := by
  cases r with
  | val t => exact h
  | bor t => cases c
def RdL (K : PySem.W.Frag) (G F H : Hp) : List Rv → List V → Prop
  | [], [] => True
  | r :: rs, v :: vs => RdV K G F H r v ∧ RdL K G F H rs vs
  | _, _ => False
theorem RdL.mono (e : Ext F H F' H') (x : Ex F H) : ∀ {rs : List Rv} {vs : List V}, RdL K G F H rs vs → RdL K G F' H' rs vs
  | [], [], _ => trivial
  | [], _ :: _, h => h.elim
  | _ :: _, [], h => h.elim
  | _ :: _, _ :: _, h => ⟨h.1.mono e x, RdL.mono e x h.2⟩
theorem RdL.is (x : Ex F H) : ∀ {rs : List Rv} {vs : List V}, RdL K G F H rs vs → IsL K H (rs.map Rv.rd) vs
  | [], [], _ => trivial
  | [], _ :: _, h => h.elim
  | _ :: _, [], h => h.elim
  | _ :: _, _ :: _, h => ⟨h.1.is x, RdL.is x h.2⟩
theorem RdL.fz : ∀ {rs : List Rv} {vs : List V}, RdL K G F H rs vs → rs.all Rv.clean = true → IsL K F (rs.map Rv.rd) vs
  | [], [], _, _ => trivial
  | [], _ :: _, h, _ => h.elim
  | _ :: _, [], h, _ => h.elim
  | r :: rs, _ :: _, h, c => by
    simp only [List.all_cons, Bool.and_eq_true] at c
    exact ⟨h.1.fz c.1, RdL.fz h.2 c.2⟩
end

/-! ### where code runs -/
structure Cn where
  G : Hp
  F0 : Hp
  E : WX
abbrev Cn.nox (C : Cn) : Cn := { C with E := fun _ _ _ _ => False }
abbrev Den := Env' → O Rv
/-- what the continuation Q must bear -/
def OutE (K : PySem.W.Frag) (C : Cn) (F H : Hp) (σ : L2.St) (Q : VK) : O Rv → Prop
  | .stuck => False
  | .exn x => ∀ c a F' H', Ext F H F' H' → ExnAt K F' x c a → C.E c a σ H'
  | .ok (.val t) => ∀ v F' H' Rn, Ext F H F' H' → New K H F' H' t v Rn → Q v H'
  | .ok (.bor t) => ∀ v F' H', Ext F H F' H' → Bor K C.G F' H' t v → Q v H'
def tDen (K : PySem.W.Frag) (C : Cn) (m : Den) : TE := fun σ H Q => ∃ F env Rg, Stt K C.G C.F0 F H σ env Rg ∧ OutE K C F H σ Q (m env)
def D.truth : D → Option Bool
  | .non => some false
  | .bl b => some b
  | .int i => some (i != 0)
  | .str s => some (s.length != 0)
  | .lst xs => some (!xs.isEmpty)
  | .tup xs => some (!xs.isEmpty)
  | .wtp xs => some (!xs.isEmpty)
  | .scr _ => none
  | .ty _ => none
  | .dic ks _ => some (!ks.isEmpty)
  | .dit _ _ => none
  | .ins _ _ _ => none
def OutT (K : PySem.W.Frag) (C : Cn) (F H : Hp) (σ : L2.St) (Q : Bool → Hp → Prop) : O Rv → Prop
  | .stuck => False
  | .exn x => ∀ c a F' H', Ext F H F' H' → ExnAt K F' x c a → C.E c a σ H'
  | .ok r => ∃ b, r.rd.truth = some b ∧ ∀ F' H', Ext F H F' H' → Q b H'
def tTst (K : PySem.W.Frag) (C : Cn) (m : Den) : TT := fun σ H Q => ∃ F env Rg, Stt K C.G C.F0 F H σ env Rg ∧ OutT K C F H σ Q (m env)
structure DE (X : Cx) (C : Cn) (e : Expr) (m : Den) : Prop where
  pe : PE X e (tDen X.K C m)
  pt : PT X e (tTst X.K C m)
theorem _root_.L2.PE.imp {X : Cx} {e : Expr} {t t' : TE} (h : PE X e t) (i : ∀ σ H Q, t' σ H Q → t σ H Q) : PE X e t' := ⟨fun pins s σ H Q I hw => h.run pins s σ H Q I (i σ H Q hw)⟩
theorem _root_.L2.PT.imp {X : Cx} {e : Expr} {t t' : TT} (h : PT X e t) (i : ∀ σ H Q, t' σ H Q → t σ H Q) : PT X e t' := ⟨fun pins s σ H Q I hw => h.run pins s σ H Q I (i σ H Q hw)⟩
theorem _root_.L2.PA.imp {X : Cx} {es : List Expr} {t t' : TA} (h : PA X es t) (i : ∀ σ H Q, t' σ H Q → t σ H Q) : PA X es t' := ⟨fun p pins s σ H Q I hw => h.run p pins s σ H Q I (i σ H Q hw)⟩

section
variable {K : PySem.W.Frag} {C : Cn} {F F' H H' : Hp} {σ : L2.St} {Q : VK}
/-- a value that is read -/
theorem OutE.rd {r : Rv} (x : Ex F H) (h : ∀ v F' H', Ext F H F' H' → RdV K C.G F' H' r v → Q v H') : OutE K C F H σ Q (.ok r) := by
  cases r with
  | val t =>
    intro v F' H' Rn e n
    obtain ⟨F2, e2, _, i⟩ := n.freeze e
    exact h v F2 H' e2 i
  | bor t =>
    intro v F' H' e n
    exact h v F' H' e n
theorem OutE.ext (e : Ext F H F' H') {o : O Rv} (h : OutE K C F H σ Q o) : OutE K C F' H' σ Q o := by
  cases o with
  | stuck => exact h
  | exn x => exact fun c a F2 H2 e2 ha => h c a F2 H2 (e.trans e2) ha
  | ok r =>
    cases r with
    | val t => exact fun v F2 H2 Rn e2 n => h v F2 H2 Rn (e.trans e2) ⟨n.own, n.nd, fun r hr => ⟨e.hp.none (n.out r hr).1, (n.out r hr).2⟩⟩
    | bor t => exact fun v F2 H2 e2 n => h v F2 H2 (e.trans e2) n
theorem OutT.ext {Q : Bool → Hp → Prop} (e : Ext F H F' H') {o : O Rv} (h : OutT K C F H σ Q o) : OutT K C F' H' σ Q o := by
  cases o with
  | stuck => exact h
  | exn x => exact fun c a F2 H2 e2 ha => h c a F2 H2 (e.trans e2) ha
  | ok r =>
    obtain ⟨b, hb, h⟩ := h
    exact ⟨b, hb, fun F2 H2 e2 => h F2 H2 (e.trans e2)⟩
end
end PV

set_option Elab.async false
set_option linter.all false
set_option maxRecDepth 100000
set_option maxHeartbeats 2000000
namespace PV
open PySem PySem.Spec PyProof.Rows L2

@[simp] theorem T.frz_fz (d : D) : (T.fz d).frz = d := by simp [T.frz]
@[simp] theorem T.frz_lst (ts : List T) : (T.lst ts).frz = .lst (T.frzL ts) := by simp [T.frz]
@[simp] theorem T.frz_dic (ks : List Key) (ts : List T) : (T.dic ks ts).frz = .dic ks (T.frzL ts) := by simp [T.frz]
@[simp] theorem T.frz_ins (c : Str) (ns : List Str) (ts : List T) : (T.ins c ns ts).frz = .ins c ns (T.frzL ts) := by simp [T.frz]
@[simp] theorem T.frzL_map (ds : List D) : T.frzL (ds.map .fz) = ds := by
  induction ds with
  | nil => simp [T.frzL]
  | cons d ds ih => simp [T.frzL, ih]
theorem T.frzL_map' {α : Type} (f : α → D) (xs : List α) : T.frzL (xs.map fun x => .fz (f x)) = xs.map f := by
  induction xs with
  | nil => simp [T.frzL]
  | cons d ds ih => simp [T.frzL, ih]
/-- a new list of frozen items -/
def T.of (ds : List D) : T := .lst (ds.map .fz)
@[simp] theorem T.frz_of (ds : List D) : (T.of ds).frz = .lst ds := by simp [T.of]
theorem ownL_fz {K : PySem.W.Frag} {F H : Hp} : ∀ {ds : List D} {vs : List V}, IsL K F ds vs → OwnL K F H (ds.map .fz) vs []
  | [], [], _ => rfl
  | [], _ :: _, h => h.elim
  | _ :: _, [], h => h.elim
  | _ :: _, _ :: _, h => ⟨[], [], rfl, ⟨rfl, h.1⟩, ownL_fz h.2⟩
/-- a new list -/
theorem New.lst {K : PySem.W.Frag} {F H : Hp} {p : Addr} {ds : List D} {vs : List V} (ex : Ex F H) (hp : H p = none) (h : IsL K F ds vs) : New K H F (upd H p (.lst vs)) (T.of ds) (.ref p) [p] :=
  ⟨⟨p, vs, [], rfl, upd_same, rfl, ownL_fz h⟩, by simp, fun r hr => by
    obtain rfl : r = p := by simpa using hr
    exact ⟨hp, ex.none hp⟩⟩
/-- a new tuple -/
theorem New.tup {K : PySem.W.Frag} {F H : Hp} {p : Addr} {ds : List D} {vs : List V} (ex : Ex F H) (hp : H p = none) (h : IsL K F ds vs) {o : Obj} (hc : o.cls = .type "tuple") (ho : o.dict = none) : New K H (upd F p (.frz o (.tup vs))) (upd H p (.frz o (.tup vs))) (.fz (.tup ds)) (.ref p) [] :=
  New.fz ⟨p, vs, rfl, .inl ⟨o, upd_same, hc, ho⟩, IsL.mono ((Ext.new (o := .frz o (.tup vs)) ex hp).ex ex) _ _ h⟩
@[simp] theorem T.scal_of (ds : List D) : (T.of ds).scal = false := rfl
@[simp] theorem T.scal_fz (d : D) : (T.fz d).scal = d.scal := rfl

section
variable {K : PySem.W.Frag} {C : Cn} {F F' H H' : Hp} {σ : L2.St} {Q : VK} {env : Env'} {Rg : List Addr}
/-- an expression ahead of what needs it -/
theorem den_bnd {m : Den} {k : Rv → O Rv} (st : Stt K C.G C.F0 F H σ env Rg) (h : OutE K C F H σ Q ((m env).bnd k)) {R : VK}
    (hr : ∀ r v F' H', Ext F H F' H' → Stt K C.G C.F0 F' H' σ env Rg → RdV K C.G F' H' r v → OutE K C F' H' σ Q (k r) → R v H') : tDen K C m σ H R := by
  refine ⟨F, env, Rg, st, ?_⟩
  cases hm : m env with
  | stuck => rw [hm] at h; exact h.elim
  | exn x => rw [hm] at h; exact h
  | ok r =>
    rw [hm] at h
    exact OutE.rd st.exF fun v F' H' e rd => hr r v F' H' e (st.ext e) rd (h.ext e)
theorem den_bndT {m : Den} {k : Rv → O Rv} {Qb : Bool → Hp → Prop} (st : Stt K C.G C.F0 F H σ env Rg) (h : OutT K C F H σ Qb ((m env).bnd k)) {R : VK}
    (hr : ∀ r v F' H', Ext F H F' H' → Stt K C.G C.F0 F' H' σ env Rg → RdV K C.G F' H' r v → OutT K C F' H' σ Qb (k r) → R v H') : tDen K C m σ H R := by
  refine ⟨F, env, Rg, st, ?_⟩
  cases hm : m env with
  | stuck => rw [hm] at h; exact h.elim
  | exn x => rw [hm] at h; exact h
  | ok r =>
    rw [hm] at h
    exact OutE.rd st.exF fun v F' H' e rd => hr r v F' H' e (st.ext e) rd (h.ext e)
/-- a test ahead of what needs it -/
theorem tst_bnd {m : Den} {k : Rv → O Rv} (st : Stt K C.G C.F0 F H σ env Rg) (h : OutE K C F H σ Q ((m env).bnd fun r => match r.rd.truth with | none => .stuck | some _ => k r)) {R : Bool → Hp → Prop}
    (hr : ∀ r b F' H', r.rd.truth = some b → Ext F H F' H' → Stt K C.G C.F0 F' H' σ env Rg → OutE K C F' H' σ Q (k r) → R b H') : tTst K C m σ H R := by
  refine ⟨F, env, Rg, st, ?_⟩
  cases hm : m env with
  | stuck => rw [hm] at h; exact h.elim
  | exn x => rw [hm] at h; exact h
  | ok r =>
    rw [hm] at h
    cases hb : r.rd.truth with
    | none => simp only [O.bnd_ok, hb] at h; exact h.elim
    | some b =>
      simp only [O.bnd_ok, hb] at h
      exact ⟨b, hb, fun F' H' e => hr r b F' H' hb e (st.ext e) (h.ext e)⟩
theorem tst_bndT {m : Den} {k : Rv → O Rv} {Qb : Bool → Hp → Prop} (st : Stt K C.G C.F0 F H σ env Rg) (h : OutT K C F H σ Qb ((m env).bnd fun r => match r.rd.truth with | none => .stuck | some _ => k r)) {R : Bool → Hp → Prop}
    (hr : ∀ r b F' H', r.rd.truth = some b → Ext F H F' H' → Stt K C.G C.F0 F' H' σ env Rg → OutT K C F' H' σ Qb (k r) → R b H') : tTst K C m σ H R := by
  refine ⟨F, env, Rg, st, ?_⟩
  cases hm : m env with
  | stuck => rw [hm] at h; exact h.elim
  | exn x => rw [hm] at h; exact h
  | ok r =>
    rw [hm] at h
    cases hb : r.rd.truth with
    | none => simp only [O.bnd_ok, hb] at h; exact h.elim
    | some b =>
      simp only [O.bnd_ok, hb] at h
      exact ⟨b, hb, fun F' H' e => hr r b F' H' hb e (st.ext e) (h.ext e)⟩
/-- a scalar is given -/
theorem OutE.give {d : D} {v : V} (x : Ex F H) (h : OutE K C F H σ Q (.ok (.val (.fz d)))) (i : Is K F d v) : Q v H := h v F H [] (Ext.refl x) (New.fz i)
theorem OutE.bool {b : Bool} (x : Ex F H) (h : OutE K C F H σ Q (.ok (.val (.fz (.bl b))))) : Q (.bl b) H := h.give x rfl
theorem OutE.int {i : Int} (x : Ex F H) (h : OutE K C F H σ Q (.ok (.val (.fz (.int i))))) : Q (.int i) H := h.give x rfl

/-- the truth of data -/
def TruW (K : PySem.W.Frag) (x : V) (H : Hp) (k : Bool) : Prop := TruV K x H k ∨ ∃ p kvs, x = .ref p ∧ Rd H p (.dK kvs) ∧ k = !kvs.isEmpty
theorem truw_ok {X : Cx} : TruR X (fun x H Q => ∃ k, TruW X.K x H k ∧ Q k H) := by
  intro pins s σ H x v Q I rx h
  obtain ⟨k, e | ⟨p, kvs, rfl, hp, e⟩, q⟩ := h
  · exact tru_ok pins s σ H x v Q I rx ⟨k, e, q⟩
  · cases rx
    subst e
    have hl := line63
    have hs : sizeLine = 16777216 := sizeLine_eq
    obtain ⟨hz, hS, vs, r, m⟩ := dk_rd I.hok hp
    have hlen : kvs.length = vs.length := Paired.length r
    exact wpAny_truthy_dict hS m (by omega) ⟨H, I.tok _, by rw [isEmpty_kv r]; exact q⟩
theorem _root_.L2.pt_truthW {X : Cx} {a : Expr} {ta : TE} (ha : PE X a ta) (he : ∀ whole, PySem.isTrue a X.env whole = (do let v ← whole; standAt a.pos; holding [v] (truthy v))) :
    PT X a (fun σ H Q => ta σ H fun x H' => ∃ k, TruW X.K x H' k ∧ Q k H') := by
  refine ⟨fun pins s σ H Q I h => ?_⟩
  exact isTrue_plain (thn (ha.run pins s σ H _ I h) fun v s1 ⟨x, H1, I1, r1, q1⟩ => truw_ok pins s1 σ H1 x v Q I1 r1 q1) (he _)
theorem tru_of {d : D} {v : V} {b : Bool} (h : Is K H d v) (t : d.truth = some b) : TruW K v H b := by
  cases d with
  | non => cases h; cases t; exact .inl rfl
  | bl c => cases h; cases t; exact .inl rfl
  | int i => cases h; cases t; exact .inl rfl
  | str s =>
    obtain ⟨rfl, ok⟩ := h
    have t : some (s.length != 0) = some b := t
    cases t
    refine .inl ⟨ok.line, ?_⟩
    rw [S_len]
    cases s <;> simp
    omega
  | lst xs =>
    obtain ⟨a, vs, rfl, h1, h2⟩ := h
    have t : some (!xs.isEmpty) = some b := t
    cases t
    refine .inl (.inl ⟨vs, SqL.of h1, ?_⟩)
    have := h2.len
    cases xs <;> cases vs <;> simp_all
  | tup xs =>
    obtain ⟨a, vs, rfl, h1, h2⟩ := h
    have t : some (!xs.isEmpty) = some b := t
    cases t
    refine .inl (.inr (.inl ⟨vs, h1.sqt, ?_⟩))
    have := h2.len
    cases xs <;> cases vs <;> simp_all
  | wtp xs =>
    obtain ⟨a, vs, rfl, h1, h2⟩ := h
    have t : some (!xs.isEmpty) = some b := t
    cases t
    refine .inl (.inr (.inl ⟨vs, h1, ?_⟩))
    have := h2.len
    cases xs <;> cases vs <;> simp_all
  | dic ks xs =>
    obtain ⟨a, kvs, rfl, h1, h3, h2⟩ := h
    have t : some (!ks.isEmpty) = some b := t
    cases t
    refine .inr ⟨a, kvs, rfl, h1, ?_⟩
    subst h3
    cases kvs <;> simp
  | scr ns => cases t
  | ty n => cases t
  | dit ks xs => cases t
  | ins c ns xs => cases t
end

/-! ### new tuples, without a dict -/
/-- p holds a new tuple of these -/
def NewT (xs : List V) (H : Hp) (Q : VK) : Prop := ∀ p o, H p = none → o.cls = Value.type "tuple" → o.dict = none → Q (.ref p) (upd H p (.frz o (.tup xs)))
abbrev tupO (its : Array Value) : Obj := { cls := .type "tuple", data := .seq its }
theorem laid_tup {X : Cx} {pins : List (Addr × Obj)} {σ : L2.St} {H : Hp} {s : Shared} {xs : List V} {its : List Value} {Q : VK} (I : Inv X pins σ H s) (r : Vals xs its) (hz : xs.length ≤ sizeLine) (q : NewT xs H Q) :
    EP X pins σ Q (.ref s.heap.objs.size) { s with heap := s.heap.push (tupO its.toArray) } :=
  have e := Heap.get?_push_size s.heap (o := tupO its.toArray) rfl
  ⟨.ref s.heap.objs.size, _, I.laid (t' := s.toks) (o := .frz (tupO its.toArray) (.tup xs)) (fun b u e => Heap.get?_push_of_some _ e) (Nat.le_refl _) ⟨e, hz, its, r, ⟨_, e, rfl, _, rfl⟩⟩, rfl, q _ _ (I.hok.fresh (Nat.le_refl _)) rfl rfl⟩
theorem pe_tupP {X : Cx} {es : List Expr} {t : TA} {pos : Pos} {k : Nat} (h : PA X es t) : PE X (.Tuple es k pos) (fun σ H Q => t σ H fun xs H1 => xs.length ≤ sizeLine ∧ NewT xs H1 Q) := by
  refine ⟨fun pins s σ H Q I hq => ?_⟩
  refine wpAny_Tuple_spliced (thn (h.run pos pins s σ H _ I hq) fun us s1 hh => ?_)
  obtain ⟨xs, H1, I1, r, z, q⟩ := hh
  exact ⟨by rw [← r.length]; exact z, laid_tup I1 r z q⟩
def rCatP (K : PySem.W.Frag) : R2 := fun x y H Q => ∃ a b xs ys, x = .ref a ∧ y = .ref b ∧ SqT K H a xs ∧ SqT K H b ys ∧ xs.length + ys.length ≤ sizeLine ∧
  (xs = [] → Q (.ref b) H) ∧ (xs ≠ [] → ys = [] → Q (.ref a) H) ∧ (xs ≠ [] → ys ≠ [] → NewT (xs ++ ys) H Q)
theorem op_catP {X : Cx} : OpR X (binaryOp .Add) (rCatP X.K) := by
  intro pins s σ H x y v u Q I rx ry h
  obtain ⟨a, b, xs, ys, rfl, rfl, ha, hb, hz, q0, q1, q2⟩ := h
  cases rx
  cases ry
  obtain ⟨its, r1, p1, _⟩ := I.tuple ha
  obtain ⟨its2, r2, p2, _⟩ := I.tuple hb
  by_cases hx : xs = []
  · subst hx
    cases r1
    exact cat_tup0 p1 p2 ⟨.ref b, H, I, rfl, q0 rfl⟩
  · refine HT.cat_tup p1 p2 (fun z => hx (r1.nil_iff.mp z)) (fun z => ⟨.ref a, H, I, rfl, q1 hx (r2.nil_iff.mp z)⟩) (fun z => ?_) (by rw [← r1.length, ← r2.length]; exact hz)
    exact laid_tup I (r1.append r2) (by rw [List.length_append]; exact hz) (q2 hx fun w => z (r2.nil_iff.mpr w))
def rSlP (K : PySem.W.Frag) : V → Option Int → Option Int → Hp → VK → Prop := fun x lo hi H Q => ∃ a xs, x = .ref a ∧ SqT K H a xs ∧
  (HT.sIx xs.length 0 lo = 0 ∧ HT.sIx xs.length xs.length hi = xs.length → Q (.ref a) H) ∧ (¬ (HT.sIx xs.length 0 lo = 0 ∧ HT.sIx xs.length xs.length hi = xs.length) → NewT (cutV xs lo hi) H Q)
theorem sl_tupP {X : Cx} : SlR X (rSlP X.K) := by
  intro pins s σ H x v vl vu lo hi sl Q I rx hs pl pu h
  obtain ⟨a, xs, rfl, hx, q1, q2⟩ := h
  cases rx
  obtain ⟨its, r, ht, hz⟩ := I.tuple hx
  have hlen : its.toArray.size = xs.length := by rw [List.size_toArray]; exact r.length.symm
  refine ⟨"tuple", _, PyProof.Rows.slot_tuple_getitem.lookup, ht.typeIs, ?_⟩
  by_cases hw : HT.sIx xs.length 0 lo = 0 ∧ HT.sIx xs.length xs.length hi = xs.length
  · exact getItem_tuple_whole ht hs pl pu (by rw [hlen]; exact hw) ⟨.ref a, H, I, rfl, q1 hw⟩
  · refine HT.getItem_tuple_cut ht hs pl pu (by rw [hlen]; exact hw) ?_ (by rw [hlen]; exact hz)
    rw [hlen]
    exact laid_tup I ((r.drop (HT.sIx xs.length 0 lo)).take (HT.sIx xs.length xs.length hi - HT.sIx xs.length 0 lo)) (Nat.le_trans (cutV_length xs lo hi) hz) (q2 hw)
theorem call_tuple_P {X : Cx} : CallR X (.type "tuple") (fun xs H Q => ∃ p ys, xs = [.ref p] ∧ ((SqL X.K H p ys ∧ NewT ys H Q) ∨ (SqT X.K H p ys ∧ Q (.ref p) H))) := by
  intro pins s σ H xs us Q I r h
  obtain ⟨p, ys, rfl, h⟩ := h
  obtain ⟨u, rfl, rx⟩ := vals1 r
  cases rx
  rcases h with ⟨hq, q⟩ | ⟨hq, q⟩
  · obtain ⟨its, r', pl, hz⟩ := I.list hq
    have hlen := r'.length
    refine call_tuple_list pl.isList (fun h' kp => ?_) (by simp only [List.size_toArray] <;> omega)
    have I1 : Inv X pins σ H { s with heap := h' } := I.kept (t' := s.toks) kp
    exact laid_tup I1 r' hz q
  · obtain ⟨its, r', pl, hz⟩ := I.tuple hq
    exact call_tuple_same pl ⟨.ref p, H, I, rfl, q⟩
theorem NewT.of {K : PySem.W.Frag} {F H : Hp} {Q : VK} {ds : List D} {vs : List V} (ex : Ex F H) (h : IsL K F ds vs) (q : ∀ v F' H' Rn, Ext F H F' H' → New K H F' H' (.fz (.tup ds)) v Rn → Q v H') : NewT vs H Q :=
  fun p o hp hc ho => q (.ref p) _ _ [] (Ext.new ex hp) (New.tup ex hp h hc ho)

/-! ### expressions -/
section
variable {X : Cx} {C : Cn} {e a b : Expr} {m ma mb : Den} {pos : Pos}
/-- an expression whose test is its value's truth -/
theorem DE.of (h : PE X e (tDen X.K C m)) (he : ∀ whole, isTrue e X.env whole = (do let v ← whole; standAt e.pos; holding [v] (truthy v))) : DE X C e m := by
  refine ⟨h, (pt_truthW h he).imp fun σ H Q hq => ?_⟩
  obtain ⟨F, env, Rg, st, o⟩ := hq
  refine ⟨F, env, Rg, st, ?_⟩
  cases hm : m env with
  | stuck => rw [hm] at o; exact o
  | exn x => rw [hm] at o; exact o
  | ok r =>
    rw [hm] at o
    obtain ⟨b, hb, o⟩ := o
    refine OutE.rd st.exF fun v F' H' e rd => ⟨b, tru_of (rd.is e.fz) hb, o F' H' e⟩

/-- one value gives a value: by the kit's own reading -/
def Den.c (d : D) : Den := fun _ => .ok (.val (.fz d))
theorem de_c {v : V} {d : D} (h : PE X e (tC v)) (hd : ∀ F, Is X.K F d v) (he : ∀ whole, isTrue e X.env whole = (do let v ← whole; standAt e.pos; holding [v] (truthy v))) : DE X C e (Den.c d) :=
  DE.of (h.imp fun σ H Q ⟨F, env, Rg, st, o⟩ => o.give st.exF (hd F)) he
theorem de_int {i : Int} {j : Nat} : DE X C (.Constant (.int i) j pos) (Den.c (.int i)) := de_c pe_int (fun _ => rfl) (fun _ => rfl)
theorem de_bl {i : Bool} {j : Nat} : DE X C (.Constant (.bool i) j pos) (Den.c (.bl i)) := de_c pe_bl (fun _ => rfl) (fun _ => rfl)
theorem de_non {j : Nat} : DE X C (.Constant .none j pos) (Den.c .non) := de_c pe_non (fun _ => rfl) (fun _ => rfl)
theorem de_str {x : Str} {s : List Nat} {j : Nat} (hx : x = S s) (ok : OkS s) : DE X C (.Constant (.str x) j pos) (Den.c (.str s)) := de_c pe_str (fun _ => ⟨by rw [hx], ok⟩) (fun _ => rfl)
/-- a local name -/
def Den.var (i : Nat) : Den := fun env => match env[i]? with
  | some (some (.fz d)) => .ok (.val (.fz d))
  | some (some t) => .ok (.bor t)
  | _ => .stuck
theorem de_var {i : Nat} {x : Str} (hN : X.N[i]? = some x) (hv : Vis X.env.scope x) (hd : (x == ("__debug__" : Str)) = false) (hcd : (x == ("__classdict__" : Str)) = false) : DE X C (.Name x pos) (Den.var i) := by
  refine DE.of ((pe_var hN hv hd hcd).imp fun σ H Q hq => ?_) (fun _ => rfl)
  obtain ⟨F, env, Rg, st, o⟩ := hq
  unfold Den.var at o
  split at o
  · rename_i d hi
    obtain ⟨v, Rt, h1, h2, h3⟩ := st.own.get hi
    exact ⟨v, h1, o.give st.exF h2.2⟩
  · rename_i t _ hi
    obtain ⟨v, h1, h2⟩ := st.bor hi
    exact ⟨v, h1, o v F H (Ext.refl st.exF) h2⟩
  · exact o.elim
/-- a constant of the module -/
theorem de_glob {x : Str} {v : V} {u : Value} {d : D} (hg : Gl X x) (hm : X.mg x = some u) (r : RelV v u) (hd : ∀ F, Is X.K F d v) (hx : (x == ("__debug__" : Str)) = false) : DE X C (.Name x pos) (Den.c d) :=
  de_c (pe_glob hg hm r hx) hd (fun _ => rfl)

/-! ### what is reckoned of values -/
/-- f of the data, by values -/
def rV (K : PySem.W.Frag) (f : List D → Option T) : List V → Hp → VK → Prop := fun xs H Q => ∃ F ds t, Ex F H ∧ IsL K H ds xs ∧ (IsL K F ds xs ∨ t.scal = true) ∧ f ds = some t ∧
  ∀ v F' H' Rn, Ext F H F' H' → New K H F' H' t v Rn → Q v H'
def fin (rs : List Rv) (o : Option T) : O Rv := match o with
  | none => .stuck
  | some t => if rs.all Rv.clean = true ∨ t.scal = true then .ok (.val t) else .stuck
theorem fin_rV {K : PySem.W.Frag} {C : Cn} {F H : Hp} {σ : L2.St} {Q : VK} {f : List D → Option T} {rs : List Rv} {xs : List V} (x : Ex F H) (h : OutE K C F H σ Q (fin rs (f (rs.map Rv.rd)))) (hr : RdL K C.G F H rs xs) : rV K f xs H Q := by
  unfold fin at h
  cases ht : f (rs.map Rv.rd) with
  | none => rw [ht] at h; exact h.elim
  | some t =>
    rw [ht] at h
    simp only at h
    split at h
    · rename_i hc
      refine ⟨F, rs.map Rv.rd, t, x, hr.is x, ?_, ht, h⟩
      rcases hc with hc | hc
      · exact .inl (hr.fz hc)
      · exact .inr hc
    · exact h.elim
/-- .. that gives a scalar -/
theorem rV_scal {K : PySem.W.Frag} {f : List D → Option T} {xs : List V} {H : Hp} {Q : VK} (h : rV K f xs H Q) : ∃ ds t, IsL K H ds xs ∧ f ds = some t ∧ ∀ d, t = .fz d → ∀ v, (∀ F, Is K F d v) → Q v H := by
  obtain ⟨F, ds, t, ex, hx, _, ht, q⟩ := h
  refine ⟨ds, t, hx, ht, fun d e v hv => ?_⟩
  subst e
  exact q v F H [] (Ext.refl ex) (New.fz (hv F))

def R2V (K : PySem.W.Frag) (f : D → D → Option T) : R2 := fun x y H Q => rV K (fun ds => match ds with | [d, e] => f d e | _ => none) [x, y] H Q
def Den.op2 (f : D → D → Option T) (ma mb : Den) : Den := fun env => (ma env).bnd fun ra => (mb env).bnd fun rb => fin [ra, rb] (f ra.rd rb.rd)
theorem op2_t {K : PySem.W.Frag} {f : D → D → Option T} {σ : L2.St} {H : Hp} {Q : VK} (h : tDen K C (Den.op2 f ma mb) σ H Q) : tOp (R2V K f) (tDen K C ma) (tDen K C mb) σ H Q := by
  obtain ⟨F, env, Rg, st, o⟩ := h
  refine den_bnd st o fun ra v F1 H1 e1 st1 r1 o1 => ?_
  refine den_bnd st1 o1 fun rb u F2 H2 e2 st2 r2 o2 => ?_
  refine fin_rV (f := fun ds => match ds with | [d, e] => f d e | _ => none) (rs := [ra, rb]) st2.exF o2 ?_
  exact ⟨r1.mono e2 st1.exF, r2, trivial⟩
theorem de_bin {op : Operator} {f : D → D → Option T} (ho : OpR X (binaryOp op) (R2V X.K f)) (ha : DE X C a ma) (hb : DE X C b mb) : DE X C (.BinOp a op b pos) (Den.op2 f ma mb) :=
  DE.of ((pe_op ho ha.pe hb.pe).imp fun _ _ _ h => op2_t h) (fun _ => rfl)
theorem op2_T {K : PySem.W.Frag} {f : D → D → Option T} {σ : L2.St} {H : Hp} {Q : Bool → Hp → Prop} (hf : ∀ d e t, f d e = some t → ∃ b, t = .fz (.bl b)) (h : tTst K C (Den.op2 f ma mb) σ H Q) : tTest (tOp (R2V K f) (tDen K C ma) (tDen K C mb)) σ H Q := by
  obtain ⟨F, env, Rg, st, o⟩ := h
  refine den_bndT st o fun ra v F1 H1 e1 st1 r1 o1 => ?_
  refine den_bndT st1 o1 fun rb u F2 H2 e2 st2 r2 o2 => ?_
  refine fin_rV (C := C) (σ := σ) (f := fun ds => match ds with | [d, e] => f d e | _ => none) (rs := [ra, rb]) st2.exF ?_ ⟨r1.mono e2 st1.exF, r2, trivial⟩
  show OutE K C F2 H2 σ _ (fin [ra, rb] (f ra.rd rb.rd))
  unfold fin at o2 ⊢
  cases ht : f ra.rd rb.rd with
  | none => rw [ht] at o2; exact o2
  | some t =>
    rw [ht] at o2
    simp only at o2 ⊢
    obtain ⟨b, rfl⟩ := hf _ _ _ ht
    rw [if_pos (.inr rfl)] at o2 ⊢
    obtain ⟨b', hb', o3⟩ := o2
    cases hb'
    intro w F3 H3 Rn e3 n
    exact ⟨b, n.own.2, o3 F3 H3 e3⟩
theorem de_cmp {op : CmpOp} {f : D → D → Option T} (ho : OpR X (compareOp op) (R2V X.K f)) (hf : ∀ d e t, f d e = some t → ∃ b, t = .fz (.bl b)) (ha : DE X C a ma) (hb : DE X C b mb) (hm : behindInMarks op b = false) :
    DE X C (.Compare a [op] [b] pos) (Den.op2 f ma mb) :=
  ⟨(pe_cmpR ho ha.pe hb.pe hm).imp fun _ _ _ h => op2_t h, (pt_cmpR ho ha.pe hb.pe hm).imp fun _ _ _ h => op2_T hf h⟩
end
end PV

set_option Elab.async false
set_option linter.all false
set_option maxRecDepth 100000
set_option maxHeartbeats 2000000
namespace PV
open PySem PySem.Spec PyProof.Rows L2

/-! ### operators -/
/-- (bounds stand over natAbs: a kernel that unfolds them must not count down from a literal) -/
def small (i : Int) : Bool := decide (i.natAbs < 18446744073709551616)
def addD : D → D → Option T
  | .int i, .int j => some (.fz (.int (i + j)))
  | .str a, .str b => if a.length + b.length ≤ 16777216 then some (.fz (.str (a ++ b))) else none
  | .lst a, .lst b => if a.length + b.length ≤ 16777216 then some (T.of (a ++ b)) else none
  | .tup a, .tup b => if a.length + b.length ≤ 16777216 then some (.fz (.tup (a ++ b))) else none
  | _, _ => none
def subD : D → D → Option T
  | .int i, .int j => some (.fz (.int (i - j)))
  | _, _ => none
/-- s n times -/
def rep (s : List Nat) (n : Nat) : List Nat := (List.replicate n s).flatten
def mulD : D → D → Option T
  | .int i, .int j => if small i = true ∨ small j = true then some (.fz (.int (i * j))) else none
  | .str s, .int n => if 0 ≤ n ∧ s.length * n.toNat ≤ 16777216 ∧ n ≤ 16777216 then some (.fz (.str (rep s n.toNat))) else none
  | _, _ => none
def fdivD : D → D → Option T
  | .int i, .int j => if 0 < j ∧ j.natAbs < 1073741824 then some (.fz (.int (i / j))) else none
  | _, _ => none
def modD : D → D → Option T
  | .int i, .int j => if 0 < j then some (.fz (.int (i % j))) else none
  | _, _ => none
def powD : D → D → Option T
  | .int i, .int j => if 0 ≤ j ∧ j ≤ 1000 ∧ small i = true then some (.fz (.int (i ^ j.toNat))) else none
  | _, _ => none
theorem bl_of {P : Prop} [Decidable P] {t u : T} (h : (if P then some t else none) = some u) : P ∧ t = u := by
  split at h
  · exact ⟨by assumption, Option.some.inj h⟩
  · cases h

section
variable {X : Cx} {K : PySem.W.Frag}
/-- two values that f takes -/
theorem R2V.get {f : D → D → Option T} {x y : V} {H : Hp} {Q : VK} (h : R2V K f x y H Q) : ∃ F d e t, Ex F H ∧ Is K H d x ∧ Is K H e y ∧ ((Is K F d x ∧ Is K F e y) ∨ t.scal = true) ∧ f d e = some t ∧
    ∀ v F' H' Rn, Ext F H F' H' → New K H F' H' t v Rn → Q v H' := by
  obtain ⟨F, ds, t, ex, hx, hz, ht, q⟩ := h
  cases ds with
  | nil => exact hx.elim
  | cons d ds =>
    cases ds with
    | nil => exact hx.2.elim
    | cons e ds =>
      cases ds with
      | cons _ _ => exact hx.2.2.elim
      | nil =>
        refine ⟨F, d, e, t, ex, hx.1, hx.2.1, ?_, ht, q⟩
        rcases hz with hz | hz
        · exact .inl ⟨hz.1, hz.2.1⟩
        · exact .inr hz
/-- f gives scalars: what is left to be shown -/
theorem R2V.scal {f : D → D → Option T} {x y : V} {H : Hp} {Q : VK} (h : R2V K f x y H Q) : ∃ d e t, Is K H d x ∧ Is K H e y ∧ f d e = some t ∧ ∀ c, t = .fz c → ∀ v, (∀ F, Is K F c v) → Q v H := by
  obtain ⟨F, d, e, t, ex, hx, hy, _, ht, q⟩ := h.get
  refine ⟨d, e, t, hx, hy, ht, fun c z v hv => ?_⟩
  subst z
  exact q v F H [] (Ext.refl ex) (New.fz (hv F))
theorem o_sub : OpR X (binaryOp .Sub) (R2V X.K subD) := by
  intro pins s σ H x y v u Q I rx ry h
  obtain ⟨d, e, t, hx, hy, ht, q⟩ := h.scal
  cases d <;> cases e <;> try (cases ht; done)
  cases hx; cases hy; cases ht
  exact op_sub pins s σ H _ _ v u Q I rx ry ⟨_, _, rfl, rfl, q _ rfl _ fun _ => rfl⟩
theorem small_ok {i : Int} (h : small i = true) : -(2 ^ 64) < i ∧ i < 2 ^ 64 := by
  have h := of_decide_eq_true h
  omega
theorem rep_len (s : List Nat) (n : Nat) : (rep s n).length = s.length * n := by
  unfold rep
  induction n with
  | zero => simp
  | succ n ih => simp only [List.replicate_succ, List.flatten_cons, List.length_append, ih]; rw [Nat.mul_succ]; omega
theorem rep_mem {s : List Nat} {n c : Nat} (h : c ∈ rep s n) : c ∈ s := by
  unfold rep at h
  obtain ⟨l, hl, hc⟩ := List.mem_flatten.mp h
  rw [List.eq_of_mem_replicate hl] at hc
  exact hc
theorem fold_app (x : Array Nat) : ∀ (n : Nat) (a : Array Nat), (List.replicate n x).foldl (· ++ ·) a = a ++ (List.replicate n x.toList).flatten.toArray
  | 0, a => by simp
  | n + 1, a => by
    rw [List.replicate_succ, List.foldl_cons, fold_app x n, List.replicate_succ, List.flatten_cons]
    apply Array.ext'
    simp
theorem o_mul : OpR X (binaryOp .Mult) (R2V X.K mulD) := by
  intro pins s σ H x y v u Q I rx ry h
  obtain ⟨d, e, t, hx, hy, ht, q⟩ := h.scal
  cases d with
  | int i =>
    cases e <;> try (cases ht; done)
    rename_i j
    cases hx; cases hy
    obtain ⟨hc, rfl⟩ := bl_of ht
    refine op_mul pins s σ H _ _ v u Q I rx ry ⟨_, _, rfl, rfl, ?_, q _ rfl _ fun _ => rfl⟩
    rcases hc with hc | hc
    · exact .inl (small_ok hc)
    · exact .inr (small_ok hc)
  | str a =>
    cases e <;> try (cases ht; done)
    rename_i n
    obtain ⟨rfl, ok⟩ := hx
    cases hy
    obtain ⟨⟨h0, hl, hn⟩, rfl⟩ := bl_of ht
    obtain ⟨t1, rfl⟩ := rx
    obtain ⟨t2, rfl⟩ := ry
    have sl : sizeLine = 16777216 := sizeLine_eq
    have okr : OkS (rep a n.toNat) := ⟨fun c hc => ok.1 c (rep_mem hc), by rw [rep_len]; exact hl⟩
    have fin : Q (.str (S (rep a n.toNat))) H := q _ rfl _ fun _ => ⟨rfl, okr⟩
    refine P.mul_str ?_ (fun h1 h2 => ?_) (fun h1 h2 => ?_) ?_
    · rw [decide_eq_false (by omega), decide_eq_false (by omega)]; rfl
    · rw [S_len]
      have : (1 : Int) ≤ n := by omega
      have h3 : (a.length : Int) * n ≤ 16777216 := by
        have : ((a.length * n.toNat : Nat) : Int) ≤ 16777216 := Int.ofNat_le.mpr hl
        have e : ((a.length * n.toNat : Nat) : Int) = (a.length : Int) * n := by
          rw [Int.natCast_mul, Int.toNat_of_nonneg h0]
        omega
      have h4 : (a.length : Int) ≤ (2 ^ 63 - 1) / n := by
        rw [Int.le_ediv_iff_mul_le (by omega)]
        omega
      omega
    · show decide ((S a).length * n.toNat > sizeLine) = false
      rw [S_len, sl]
      exact decide_eq_false (by omega)
    · by_cases h1 : n < 1
      · rw [if_pos h1]
        refine ⟨by decide, .str (S (rep a n.toNat)), H, I.tok _, ⟨s.toks, ?_⟩, fin⟩
        have : n.toNat = 0 := by omega
        rw [this]
        rfl
      · rw [if_neg h1]
        split
        · rename_i h2
          refine ⟨.str (S (rep a n.toNat)), H, I, ⟨t1, ?_⟩, fin⟩
          simp only [Bool.or_eq_true, beq_iff_eq] at h2
          rcases h2 with h2 | h2
          · subst h2
            have : rep a (1 : Int).toNat = a := by
              show rep a 1 = a
              simp [rep]
            rw [this]
          · rw [S_len] at h2
            have e : a = [] := List.length_eq_zero_iff.mp h2
            subst e
            have : rep [] n.toNat = [] := List.length_eq_zero_iff.mp (by rw [rep_len]; exact Nat.zero_mul _)
            rw [this]
        · have e : (⟨(List.replicate n.toNat (S a).cps).foldl (· ++ ·) #[]⟩ : Str) = S (rep a n.toNat) := by
            rw [fold_app]
            simp [S, rep]
          rw [e]
          exact ⟨okr.line, .str (S (rep a n.toNat)), H, I.tok _, ⟨_, rfl⟩, fin⟩
  | _ => cases e <;> cases ht
theorem o_fdiv : OpR X (binaryOp .FloorDiv) (R2V X.K fdivD) := by
  intro pins s σ H x y v u Q I rx ry h
  obtain ⟨d, e, t, hx, hy, ht, q⟩ := h.scal
  cases d <;> cases e <;> try (cases ht; done)
  cases hx; cases hy
  obtain ⟨hc, rfl⟩ := bl_of ht
  exact op_fdiv pins s σ H _ _ v u Q I rx ry ⟨_, _, rfl, rfl, ⟨hc.1, by have := hc.2; omega⟩, q _ rfl _ fun _ => rfl⟩
theorem o_mod : OpR X (binaryOp .Mod) (R2V X.K modD) := by
  intro pins s σ H x y v u Q I rx ry h
  obtain ⟨d, e, t, hx, hy, ht, q⟩ := h.scal
  cases d <;> cases e <;> try (cases ht; done)
  cases hx; cases hy
  obtain ⟨hc, rfl⟩ := bl_of ht
  exact op_mod pins s σ H _ _ v u Q I rx ry ⟨_, _, rfl, rfl, hc, q _ rfl _ fun _ => rfl⟩
theorem o_pow : OpR X (binaryOp .Pow) (R2V X.K powD) := by
  intro pins s σ H x y v u Q I rx ry h
  obtain ⟨d, e, t, hx, hy, ht, q⟩ := h.scal
  cases d <;> cases e <;> try (cases ht; done)
  cases hx; cases hy
  obtain ⟨⟨h1, h2, h3⟩, rfl⟩ := bl_of ht
  have := small_ok h3
  exact op_pow pins s σ H _ _ v u Q I rx ry ⟨_, _, rfl, rfl, ⟨h1, by omega, by omega⟩, q _ rfl _ fun _ => rfl⟩
theorem o_add : OpR X (binaryOp .Add) (R2V X.K addD) := by
  intro pins s σ H x y v u Q I rx ry h
  have h0 := h
  obtain ⟨F, d, e, t, ex, hx, hy, hz, ht, q⟩ := h.get
  have sl : sizeLine = 16777216 := sizeLine_eq
  cases d with
  | int i =>
    cases e <;> try (cases ht; done)
    cases hx; cases hy; cases ht
    exact op_add pins s σ H _ _ v u Q I rx ry ⟨_, _, rfl, rfl, q _ F H [] (Ext.refl ex) (New.fz rfl)⟩
  | str a =>
    cases e <;> try (cases ht; done)
    rename_i b
    obtain ⟨rfl, oka⟩ := hx
    obtain ⟨rfl, okb⟩ := hy
    obtain ⟨hc, rfl⟩ := bl_of ht
    refine op_add_str pins s σ H _ _ v u Q I rx ry ⟨_, _, rfl, rfl, by rw [S_len, S_len, sl]; exact hc, ?_⟩
    exact q _ F H [] (Ext.refl ex) (New.fz ⟨by rw [S_app], oka.app okb hc⟩)
  | lst a =>
    cases e <;> try (cases ht; done)
    rename_i b
    obtain ⟨hc, rfl⟩ := bl_of ht
    obtain ⟨hx, hy⟩ : Is X.K F (.lst a) x ∧ Is X.K F (.lst b) y := by
      rcases hz with hz | hz
      · exact hz
      · cases hz
    obtain ⟨p, vs, rfl, h1, h2⟩ := hx
    obtain ⟨p', us, rfl, h1', h2'⟩ := hy
    refine op_cat pins s σ H _ _ v u Q I rx ry ⟨p, p', vs, us, rfl, rfl, ex _ _ h1, ex _ _ h1', by rw [← h2.len, ← h2'.len, sl]; exact hc, fun p2 hp => ?_⟩
    exact q _ F _ [p2] (Ext.newOwn ex hp) (New.lst ex hp (h2.append h2'))
  | tup a =>
    cases e <;> try (cases ht; done)
    rename_i b
    obtain ⟨hc, rfl⟩ := bl_of ht
    obtain ⟨hx, hy⟩ : Is X.K F (.tup a) x ∧ Is X.K F (.tup b) y := by
      rcases hz with hz | hz
      · exact hz
      · cases hz
    obtain ⟨p, vs, rfl, h1, h2⟩ := id hx
    obtain ⟨p', us, rfl, h1', h2'⟩ := id hy
    refine op_catP pins s σ H _ _ v u Q I rx ry ⟨p, p', vs, us, rfl, rfl, (ex.sqp h1).sqt, (ex.sqp h1').sqt, by rw [← h2.len, ← h2'.len, sl]; exact hc, fun e => ?_, fun _ e => ?_, fun _ _ => ?_⟩
    · subst e
      have ea : a = [] := List.length_eq_zero_iff.mp h2.len
      subst ea
      exact q _ F H [] (Ext.refl ex) (New.fz (by rw [List.nil_append]; exact hy))
    · subst e
      have ea : b = [] := List.length_eq_zero_iff.mp h2'.len
      subst ea
      exact q _ F H [] (Ext.refl ex) (New.fz (by rw [List.append_nil]; exact hx))
    · exact NewT.of ex (h2.append h2') q
  | _ => cases e <;> cases ht
end
end PV

set_option Elab.async false
set_option linter.all false
set_option maxRecDepth 100000
set_option maxHeartbeats 2000000
namespace PV
open PySem PySem.Spec PyProof.Rows L2

/-! ### equality -/
mutual
def D.pd : D → PyData
  | .bl b => .bool b
  | .int i => .int i
  | .str s => .str (S s)
  | .lst xs => .list (D.pdL xs)
  | .tup xs => .tuple (D.pdL xs)
  | .non => .none
  | .scr _ => .none
  | .wtp _ => .none
  | .ty _ => .none
  | .dic _ _ => .none
  | .dit _ _ => .none
  | .ins _ _ _ => .none
def D.pdL : List D → List PyData
  | [] => []
  | x :: xs => x.pd :: D.pdL xs
end
mutual
/-- plain data, at most n deep -/
def D.shp : Nat → D → Bool
  | _, .non => true
  | _, .bl _ => true
  | _, .int _ => true
  | _, .str _ => true
  | n, .lst xs => D.shpL n xs
  | n, .tup xs => D.shpL n xs
  | _, .scr _ => false
  | _, .wtp _ => false
  | _, .ty _ => false
  | _, .dic _ _ => false
  | _, .dit _ _ => false
  | _, .ins _ _ _ => false
def D.shpL : Nat → List D → Bool
  | 0, _ => false
  | _ + 1, [] => true
  | n + 1, x :: xs => D.shp n x && D.shpL (n + 1) xs
end
mutual
def D.eqv : D → D → Bool
  | .non, .non => true
  | .bl a, .bl b => a == b
  | .bl a, .int j => (if a then 1 else 0) == j
  | .int i, .bl b => i == (if b then 1 else 0)
  | .int i, .int j => i == j
  | .str a, .str b => a == b
  | .lst xs, .lst ys => D.eqvL xs ys
  | .tup xs, .tup ys => D.eqvL xs ys
  | _, _ => false
def D.eqvL : List D → List D → Bool
  | [], [] => true
  | x :: xs, y :: ys => D.eqv x y && D.eqvL xs ys
  | _, _ => false
end
theorem S_beq (a b : List Nat) : (S a == S b) = (a == b) := by
  by_cases h : a = b
  · subst h; simp
  · have : ¬ S a = S b := fun e => h (S_inj e)
    rw [beq_eq_false_iff_ne.mpr h, beq_eq_false_iff_ne.mpr this]
mutual
theorem D.eqv_pd : ∀ (d e : D) (n m : Nat), d.shp n = true → e.shp m = true → PyData.eqv d.pd e.pd = D.eqv d e
  | .lst xs, .lst ys, n, m, h, g => by simp only [D.pd, PyData.eqv, D.eqv]; exact D.eqvL_pd xs ys n m h g
  | .tup xs, .tup ys, n, m, h, g => by simp only [D.pd, PyData.eqv, D.eqv]; exact D.eqvL_pd xs ys n m h g
  | .str a, .str b, _, _, _, _ => by simp only [D.pd, PyData.eqv, D.eqv]; exact S_beq a b
  | .non, .non, _, _, _, _ | .bl _, .bl _, _, _, _, _ | .bl _, .int _, _, _, _, _ | .int _, .bl _, _, _, _, _ | .int _, .int _, _, _, _, _ => by simp only [D.pd, PyData.eqv, D.eqv]
  | .non, .bl _, _, _, _, _ | .non, .int _, _, _, _, _ | .non, .str _, _, _, _, _ | .non, .lst _, _, _, _, _ | .non, .tup _, _, _, _, _ => by simp only [D.pd, PyData.eqv, D.eqv]
  | .bl _, .non, _, _, _, _ | .bl _, .str _, _, _, _, _ | .bl _, .lst _, _, _, _, _ | .bl _, .tup _, _, _, _, _ => by simp only [D.pd, PyData.eqv, D.eqv]
  | .int _, .non, _, _, _, _ | .int _, .str _, _, _, _, _ | .int _, .lst _, _, _, _, _ | .int _, .tup _, _, _, _, _ => by simp only [D.pd, PyData.eqv, D.eqv]
  | .str _, .non, _, _, _, _ | .str _, .bl _, _, _, _, _ | .str _, .int _, _, _, _, _ | .str _, .lst _, _, _, _, _ | .str _, .tup _, _, _, _, _ => by simp only [D.pd, PyData.eqv, D.eqv]
  | .lst _, .non, _, _, _, _ | .lst _, .bl _, _, _, _, _ | .lst _, .int _, _, _, _, _ | .lst _, .str _, _, _, _, _ | .lst _, .tup _, _, _, _, _ => by simp only [D.pd, PyData.eqv, D.eqv]
  | .tup _, .non, _, _, _, _ | .tup _, .bl _, _, _, _, _ | .tup _, .int _, _, _, _, _ | .tup _, .str _, _, _, _, _ | .tup _, .lst _, _, _, _, _ => by simp only [D.pd, PyData.eqv, D.eqv]
  | .scr _, _, _, _, h, _ | .wtp _, _, _, _, h, _ | .ty _, _, _, _, h, _ | .dic _ _, _, _, _, h, _ | .dit _ _, _, _, _, h, _ | .ins _ _ _, _, _, _, h, _ => by simp [D.shp] at h
  | _, .scr _, _, _, _, h | _, .wtp _, _, _, _, h | _, .ty _, _, _, _, h | _, .dic _ _, _, _, _, h | _, .dit _ _, _, _, _, h | _, .ins _ _ _, _, _, _, h => by simp [D.shp] at h
theorem D.eqvL_pd : ∀ (ds es : List D) (n m : Nat), D.shpL n ds = true → D.shpL m es = true → PyData.eqvAll (D.pdL ds) (D.pdL es) = D.eqvL ds es
  | [], [], _, _, _, _ => by simp only [D.pdL, PyData.eqvAll, D.eqvL]
  | [], _ :: _, _, _, _, _ => by simp only [D.pdL, PyData.eqvAll, D.eqvL]
  | _ :: _, [], _, _, _, _ => by simp only [D.pdL, PyData.eqvAll, D.eqvL]
  | x :: xs, y :: ys, n, m, h, g => by
    cases n with
    | zero => simp [D.shpL] at h
    | succ n =>
      cases m with
      | zero => simp [D.shpL] at g
      | succ m =>
        simp only [D.shpL, Bool.and_eq_true] at h g
        simp only [D.pdL, PyData.eqvAll, D.eqvL]
        rw [D.eqv_pd x y n m h.1 g.1, D.eqvL_pd xs ys (n + 1) (m + 1) h.2 g.2]
end
section
variable {K : PySem.W.Frag} {H : Hp}
mutual
theorem Is.dp : ∀ (d : D) (v : V) (n : Nat), Is K H d v → d.shp n = true → Dp K H v d.pd ∧ d.pd.canLay0 = true ∧ d.pd.depth ≤ n
  | .non, _, _, h, _ => by cases h; exact ⟨.non, by simp [D.pd, PyData.canLay0], by simp [D.pd, PyData.depth]⟩
  | .bl _, _, _, h, _ => by cases h; exact ⟨.bl _, by simp [D.pd, PyData.canLay0], by simp [D.pd, PyData.depth]⟩
  | .int _, _, _, h, _ => by cases h; exact ⟨.int _, by simp [D.pd, PyData.canLay0], by simp [D.pd, PyData.depth]⟩
  | .str s, _, _, h, _ => by
    obtain ⟨rfl, ok⟩ := h
    refine ⟨.str _, ?_, by simp [D.pd, PyData.depth]⟩
    simp only [D.pd, PyData.canLay0, PyData.strOk, S, List.all_toArray, List.all_eq_true, decide_eq_true_eq]
    exact ok.1
  | .lst xs, v, n, h, g => by
    obtain ⟨a, vs, rfl, h1, h2⟩ := h
    obtain ⟨i1, i2, i3⟩ := IsL.dp xs vs n h2 g
    have hn : 0 < n := by cases n with
      | zero => simp [D.shp, D.shpL] at g
      | succ n => omega
    refine ⟨.lst (SqL.of h1) i1, by simp only [D.pd, PyData.canLay0]; exact i2, ?_⟩
    simp only [D.pd, PyData.depth]
    omega
  | .tup xs, v, n, h, g => by
    obtain ⟨a, vs, rfl, h1, h2⟩ := h
    obtain ⟨i1, i2, i3⟩ := IsL.dp xs vs n h2 g
    have hn : 0 < n := by cases n with
      | zero => simp [D.shp, D.shpL] at g
      | succ n => omega
    refine ⟨.tup h1.sqt i1, by simp only [D.pd, PyData.canLay0]; exact i2, ?_⟩
    simp only [D.pd, PyData.depth]
    omega
  | .scr _, _, _, _, g | .wtp _, _, _, _, g | .ty _, _, _, _, g | .dic _ _, _, _, _, g | .dit _ _, _, _, _, g | .ins _ _ _, _, _, _, g => by simp [D.shp] at g
theorem IsL.dp : ∀ (ds : List D) (vs : List V) (n : Nat), IsL K H ds vs → D.shpL n ds = true → DpAll K H vs (D.pdL ds) ∧ PyData.canLayAll0 (D.pdL ds) = true ∧ PyData.depthAll (D.pdL ds) ≤ n - 1
  | [], [], n, _, _ => ⟨by simp only [D.pdL]; exact .nil, by simp [D.pdL, PyData.canLayAll0], by simp [D.pdL, PyData.depthAll]⟩
  | [], _ :: _, _, h, _ => h.elim
  | _ :: _, [], _, h, _ => h.elim
  | d :: ds, v :: vs, n, h, g => by
    cases n with
    | zero => simp [D.shpL] at g
    | succ n =>
      simp only [D.shpL, Bool.and_eq_true] at g
      obtain ⟨a1, a2, a3⟩ := Is.dp d v n h.1 g.1
      obtain ⟨b1, b2, b3⟩ := IsL.dp ds vs (n + 1) h.2 g.2
      refine ⟨by simp only [D.pdL]; exact .cons a1 b1, by simp [D.pdL, PyData.canLayAll0, a2, b2], ?_⟩
      simp only [D.pdL, PyData.depthAll]
      omega
end
theorem Is.shaped {d : D} {v : V} (h : Is K H d v) (g : d.shp 20 = true) : Dp K H v d.pd ∧ SeqAt.shaped d.pd = true := by
  obtain ⟨h1, h2, h3⟩ := Is.dp d v 20 h g
  refine ⟨h1, ?_⟩
  show (d.pd.canLay0 && decide (d.pd.depth ≤ 64)) = true
  rw [h2, decide_eq_true (by omega)]
  rfl
end
def blT (b : Bool) : T := .fz (.bl b)
def eqD (d e : D) : Option T := if d.shp 20 = true ∧ e.shp 20 = true then some (blT (D.eqv d e)) else none
def neD (d e : D) : Option T := if d.shp 20 = true ∧ e.shp 20 = true then some (blT (!D.eqv d e)) else none
def ltD : D → D → Option T
  | .int i, .int j => some (blT (decide (i < j)))
  | _, _ => none
def leD : D → D → Option T
  | .int i, .int j => some (blT (decide (i ≤ j)))
  | _, _ => none
def gtD : D → D → Option T
  | .int i, .int j => some (blT (decide (j < i)))
  | _, _ => none
def geD : D → D → Option T
  | .int i, .int j => some (blT (decide (j ≤ i)))
  | _, _ => none
def D.isNon : D → Bool
  | .non => true
  | _ => false
def isD : D → D → Option T
  | d, .non => some (blT d.isNon)
  | _, _ => none
def isntD : D → D → Option T
  | d, .non => some (blT (!d.isNon))
  | _, _ => none
def keyOf : D → Option Key
  | .int i => some (.inl i)
  | .str s => some (.inr (S s))
  | _ => none
def dget {κ α : Type} [DecidableEq κ] : List κ → List α → κ → Option α
  | k :: ks, x :: xs, q => if k = q then some x else dget ks xs q
  | _, _, _ => none
def D.flt : D → Bool
  | .non => true
  | .bl _ => true
  | .int _ => true
  | .str _ => true
  | _ => false
theorem D.flt_scal {d : D} (h : d.flt = true) : d.scal = true := by cases d <;> first | rfl | cases h
def inB : D → D → Option Bool
  | .str [c], .str s => some (decide (c ∈ s))
  | d, .lst xs => if d.shp 20 = true ∧ D.shpL 20 xs = true then some (xs.any fun x => D.eqv x d) else none
  | d, .tup xs => if d.flt = true ∧ xs.all D.flt = true then some (xs.any fun x => D.eqv x d) else none
  | d, .dic ks xs => (keyOf d).map fun k => (dget ks xs k).isSome
  | _, _ => none
def inD (d e : D) : Option T := (inB d e).map fun b => blT b
def niD (d e : D) : Option T := (inB d e).map fun b => blT (!b)
section
variable {X : Cx} {K : PySem.W.Frag} {F H : Hp}
theorem o_eq (hu : X.A.units + 64 < cLine) : OpR X (compareOp .Eq) (R2V X.K eqD) := by
  intro pins s σ H x y v u Q I rx ry h
  obtain ⟨d, e, t, hx, hy, ht, q⟩ := h.scal
  obtain ⟨⟨hd, he⟩, rfl⟩ := bl_of ht
  obtain ⟨d1, d2⟩ := hx.shaped hd
  obtain ⟨e1, e2⟩ := hy.shaped he
  exact op_eqD hu pins s σ H _ _ v u Q I rx ry ⟨_, _, d1, e1, d2, e2, q _ rfl _ fun _ => by rw [D.eqv_pd d e 20 20 hd he]; rfl⟩
theorem o_ne (hu : X.A.units + 64 < cLine) : OpR X (compareOp .NotEq) (R2V X.K neD) := by
  intro pins s σ H x y v u Q I rx ry h
  obtain ⟨d, e, t, hx, hy, ht, q⟩ := h.scal
  obtain ⟨⟨hd, he⟩, rfl⟩ := bl_of ht
  obtain ⟨d1, d2⟩ := hx.shaped hd
  obtain ⟨e1, e2⟩ := hy.shaped he
  exact op_neD hu pins s σ H _ _ v u Q I rx ry ⟨_, _, d1, e1, d2, e2, q _ rfl _ fun _ => by rw [D.eqv_pd d e 20 20 hd he]; rfl⟩
theorem o_lt : OpR X (compareOp .Lt) (R2V X.K ltD) := by
  intro pins s σ H x y v u Q I rx ry h
  obtain ⟨d, e, t, hx, hy, ht, q⟩ := h.scal
  cases d <;> cases e <;> try (cases ht; done)
  cases hx; cases hy; cases ht
  exact op_lt pins s σ H _ _ v u Q I rx ry ⟨_, _, rfl, rfl, q _ rfl _ fun _ => rfl⟩
theorem o_le : OpR X (compareOp .LtE) (R2V X.K leD) := by
  intro pins s σ H x y v u Q I rx ry h
  obtain ⟨d, e, t, hx, hy, ht, q⟩ := h.scal
  cases d <;> cases e <;> try (cases ht; done)
  cases hx; cases hy; cases ht
  exact op_le pins s σ H _ _ v u Q I rx ry ⟨_, _, rfl, rfl, q _ rfl _ fun _ => rfl⟩
theorem o_gt : OpR X (compareOp .Gt) (R2V X.K gtD) := by
  intro pins s σ H x y v u Q I rx ry h
  obtain ⟨d, e, t, hx, hy, ht, q⟩ := h.scal
  cases d <;> cases e <;> try (cases ht; done)
  cases hx; cases hy; cases ht
  exact op_gt pins s σ H _ _ v u Q I rx ry ⟨_, _, rfl, rfl, q _ rfl _ fun _ => rfl⟩
theorem o_ge : OpR X (compareOp .GtE) (R2V X.K geD) := by
  intro pins s σ H x y v u Q I rx ry h
  obtain ⟨d, e, t, hx, hy, ht, q⟩ := h.scal
  cases d <;> cases e <;> try (cases ht; done)
  cases hx; cases hy; cases ht
  exact op_ge pins s σ H _ _ v u Q I rx ry ⟨_, _, rfl, rfl, q _ rfl _ fun _ => rfl⟩
theorem Is.isN {d : D} {v : V} (h : Is K H d v) : decide (v = .non) = d.isNon := by
  cases d with
  | non => cases h; rfl
  | bl _ => cases h; rfl
  | int _ => cases h; rfl
  | str _ => obtain ⟨rfl, _⟩ := h; rfl
  | lst _ => obtain ⟨a, vs, rfl, _⟩ := h; rfl
  | tup _ => obtain ⟨a, vs, rfl, _⟩ := h; rfl
  | wtp _ => obtain ⟨a, vs, rfl, _⟩ := h; rfl
  | scr _ => obtain ⟨a, rfl, _⟩ := h; rfl
  | ty _ => cases h; rfl
  | dic _ _ => obtain ⟨a, vs, rfl, _⟩ := h; rfl
  | dit _ _ => obtain ⟨a, vs, rfl, _⟩ := h; rfl
  | ins _ _ _ => obtain ⟨a, dx, fs, rfl, _⟩ := h; rfl
theorem o_is : OpR X (compareOp .Is) (R2V X.K isD) := by
  intro pins s σ H x y v u Q I rx ry h
  obtain ⟨d, e, t, hx, hy, ht, q⟩ := h.scal
  cases e <;> try (simp [isD] at ht; done)
  cases hy
  cases ht
  exact op_isN pins s σ H _ _ v u Q I rx ry ⟨rfl, q _ rfl _ fun _ => by rw [hx.isN]; rfl⟩
theorem o_isnt : OpR X (compareOp .IsNot) (R2V X.K isntD) := by
  intro pins s σ H x y v u Q I rx ry h
  obtain ⟨d, e, t, hx, hy, ht, q⟩ := h.scal
  cases e <;> try (simp [isntD] at ht; done)
  cases hy
  cases ht
  exact op_notN pins s σ H _ _ v u Q I rx ry ⟨rfl, q _ rfl _ fun _ => by rw [hx.isN]; rfl⟩
/-! #### in -/
theorem Is.flat {d : D} {v : V} (h : Is K H d v) (c : d.flt = true) : flatV v = true := by
  rw [h.scal (D.flt_scal c)]
  cases d <;> first | rfl | cases c
theorem IsL.flat : ∀ {ds : List D} {vs : List V}, IsL K H ds vs → ds.all D.flt = true → vs.all flatV = true
  | [], [], _, _ => rfl
  | [], _ :: _, h, _ => h.elim
  | _ :: _, [], h, _ => h.elim
  | d :: ds, v :: vs, h, c => by
    simp only [List.all_cons, Bool.and_eq_true] at c ⊢
    exact ⟨h.1.flat c.1, IsL.flat h.2 c.2⟩
theorem Is.eqV {d e : D} {v u : V} (h : Is K H d v) (g : Is K H e u) (c : d.flt = true) (c' : e.flt = true) : L2.eqV v u = D.eqv d e := by
  rw [h.scal (D.flt_scal c), g.scal (D.flt_scal c')]
  cases d <;> first | (cases c; done) | skip
  all_goals cases e <;> first | (cases c'; done) | skip
  all_goals first | rfl | skip
  all_goals simp only [D.v, L2.eqV, D.eqv]
  exact S_beq _ _
theorem IsL.inV {d : D} {v : V} (h : Is K H d v) (c : d.flt = true) : ∀ {ds : List D} {vs : List V}, IsL K H ds vs → ds.all D.flt = true → L2.inV v vs = ds.any fun x => D.eqv x d
  | [], [], _, _ => rfl
  | [], _ :: _, g, _ => g.elim
  | _ :: _, [], g, _ => g.elim
  | e :: ds, u :: vs, g, c' => by
    simp only [List.all_cons, Bool.and_eq_true] at c'
    have i := IsL.inV h c g.2 c'.2
    unfold L2.inV at i ⊢
    rw [List.any_cons, List.any_cons, i, g.1.eqV h c'.1 c]
theorem any_pd {d : D} (n m : Nat) (g : d.shp n = true) : ∀ (xs : List D), D.shpL m xs = true → ((D.pdL xs).any fun z => PyData.eqv z d.pd) = xs.any fun x => D.eqv x d
  | [], _ => rfl
  | x :: xs, h => by
    cases m with
    | zero => simp [D.shpL] at h
    | succ m =>
      simp only [D.shpL, Bool.and_eq_true] at h
      simp only [D.pdL, List.any_cons]
      rw [any_pd n (m + 1) g xs h.2, D.eqv_pd x d m n h.1 g]
theorem dget_valV {κ : Type} [DecidableEq κ] {k : κ} : ∀ {kvs : List (κ × V)} {ds : List D}, IsL K H ds (kvs.map (·.2)) → (dget (kvs.map (·.1)) ds k = none ∧ valV kvs k = none) ∨ ∃ d v, dget (kvs.map (·.1)) ds k = some d ∧ valV kvs k = some v ∧ Is K H d v
  | [], [], _ => .inl ⟨rfl, rfl⟩
  | [], _ :: _, h => h.elim
  | _ :: _, [], h => h.elim
  | p :: kvs, d :: ds, h => by
    simp only [List.map_cons, dget]
    by_cases e : p.1 = k
    · rw [if_pos e, valV_pos e]
      exact .inr ⟨d, _, rfl, rfl, h.1⟩
    · rw [if_neg e, valV_neg e]
      exact dget_valV h.2
theorem keyOf_is {d : D} {v : V} {k : Key} (h : Is K H d v) (e : keyOf d = some k) : v = kV k := by
  cases d <;> try (cases e; done)
  · cases h; cases e; rfl
  · obtain ⟨rfl, _⟩ := h; cases e; rfl
theorem in_core (hu : X.A.units + 65 < cLine) {neg : Bool} {op : CmpOp} (hop : op = if neg then .NotIn else .In) : OpR X (compareOp op) (R2V X.K (if neg then niD else inD)) := by
  intro pins s σ H x y v u Q I rx ry h
  obtain ⟨d, e, t, hx, hy, ht, q⟩ := h.scal
  have key : ∃ b, inB d e = some b ∧ t = blT (if neg then !b else b) := by
    cases neg
    · simp only [inD, Bool.false_eq_true, if_false, Option.map_eq_some_iff] at ht
      obtain ⟨b, h1, h2⟩ := ht
      exact ⟨b, h1, h2.symm⟩
    · simp only [niD, if_true, Option.map_eq_some_iff] at ht
      obtain ⟨b, h1, h2⟩ := ht
      exact ⟨b, h1, h2.symm⟩
  obtain ⟨b, hb, rfl⟩ := key
  have q' : Q (.bl (if neg then !b else b)) H := q _ rfl _ fun _ => rfl
  subst hop
  unfold inB at hb
  split at hb
  · rename_i c z
    obtain ⟨rfl, _⟩ := hx
    obtain ⟨rfl, _⟩ := hy
    cases hb
    cases neg
    · exact op_in_sign pins s σ H _ _ v u Q I rx ry ⟨c, _, rfl, rfl, by rw [S_list]; exact q'⟩
    · exact op_notIn_sign pins s σ H _ _ v u Q I rx ry ⟨c, _, rfl, rfl, by rw [S_list]; exact q'⟩
  · rename_i xs
    split at hb
    · rename_i hc
      cases hb
      obtain ⟨d1, d2⟩ := hx.shaped hc.1
      have hl : D.shp 20 (.lst xs) = true := by simp only [D.shp]; exact hc.2
      obtain ⟨e1, e2⟩ := hy.shaped hl
      have el : D.pd (.lst xs) = .list (D.pdL xs) := by simp only [D.pd]
      rw [el] at e1 e2
      have ea := any_pd 20 20 hc.1 xs hc.2
      cases neg
      · exact op_inD hu pins s σ H _ _ v u Q I rx ry ⟨_, _, d1, e1, d2, e2, by rw [ea]; exact q'⟩
      · exact op_notInD hu pins s σ H _ _ v u Q I rx ry ⟨_, _, d1, e1, d2, e2, by rw [ea]; exact q'⟩
    · cases hb
  · rename_i xs
    split at hb
    · rename_i hc
      cases hb
      obtain ⟨a, vs, rfl, h1, h2⟩ := hy
      have ei := IsL.inV hx hc.1 h2 hc.2
      cases neg
      · exact op_in_seq pins s σ H _ _ v u Q I rx ry ⟨a, vs, rfl, .inr h1.sqt, hx.flat hc.1, h2.flat hc.2, by rw [ei]; exact q'⟩
      · exact op_notIn_seq pins s σ H _ _ v u Q I rx ry ⟨a, vs, rfl, .inr h1.sqt, hx.flat hc.1, h2.flat hc.2, by rw [ei]; exact q'⟩
    · cases hb
  · rename_i ks xs
    simp only [Option.map_eq_some_iff] at hb
    obtain ⟨k, hk, hb⟩ := hb
    obtain ⟨a, kvs, rfl, h1, h3, h2⟩ := hy
    have hv := keyOf_is hx hk
    subst hv
    cases ry
    have g : DGet H a (kV k) (valV kvs k) := .inl ⟨kvs, k, h1, rfl, rfl⟩
    have eb : (valV kvs k).isSome = b := by
      subst h3
      rcases dget_valV (k := k) h2 with ⟨z1, z2⟩ | ⟨d', v', z1, z2, _⟩
      · rw [z1] at hb; rw [z2]; exact hb
      · rw [z1] at hb; rw [z2]; exact hb
    cases neg
    · exact d_in (by omega) I g rx fun s' I' => ⟨.bl (valV kvs k).isSome, H, I', rfl, by rw [eb]; exact q'⟩
    · exact d_notIn (by omega) I g rx fun s' I' => ⟨.bl (!(valV kvs k).isSome), H, I', rfl, by rw [eb]; exact q'⟩
  · cases hb
theorem o_in (hu : X.A.units + 65 < cLine) : OpR X (compareOp .In) (R2V X.K inD) := in_core (neg := false) hu rfl
theorem o_ni (hu : X.A.units + 65 < cLine) : OpR X (compareOp .NotIn) (R2V X.K niD) := in_core (neg := true) hu rfl
theorem R2V.or {f g : D → D → Option T} {x y : V} {H : Hp} {Q : VK} : R2V K f x y H Q → True := fun _ => trivial
end
end PV

set_option Elab.async false
set_option linter.all false
set_option maxRecDepth 100000
set_option maxHeartbeats 2000000
namespace PV
open PySem PySem.Spec PyProof.Rows L2
section
variable {X : Cx} {C : Cn} {e a b c : Expr} {m ma mb mc : Den} {pos : Pos} {es rest : List Expr}
/-! ### and, or, not, if -/
def Den.andd (ma mb : Den) : Den := fun env => (ma env).bnd fun r => match r.rd with
  | .bl true => mb env
  | .bl false => .ok (.val (.fz (.bl false)))
  | _ => .stuck
def Den.orr (ma mb : Den) : Den := fun env => (ma env).bnd fun r => match r.rd with
  | .bl true => .ok (.val (.fz (.bl true)))
  | .bl false => mb env
  | _ => .stuck
def Den.nott (ma : Den) : Den := fun env => (ma env).bnd fun r => match r.rd.truth with
  | some b => .ok (.val (.fz (.bl (!b))))
  | none => .stuck
def Den.ite (mc ma mb : Den) : Den := fun env => (mc env).bnd fun r => match r.rd.truth with
  | some true => ma env
  | some false => mb env
  | none => .stuck
structure DB (X : Cx) (C : Cn) (op : BoolOp) (es : List Expr) (m : Den) : Prop where
  pe : ∀ pos, PE X (.BoolOp op es pos) (tDen X.K C m)
  pw : ∀ pos, PW X (.BoolOp op es pos) (tTst X.K C m)
theorem _root_.L2.PW.imp {X : Cx} {e : Expr} {t t' : TT} (h : PW X e t) (i : ∀ σ H Q, t' σ H Q → t σ H Q) : PW X e t' := ⟨fun wh pins s σ H Q I hw => h.run wh pins s σ H Q I (i σ H Q hw)⟩
theorem db_and1 (ha : DE X C a ma) : DB X C .And [a] ma := ⟨fun _ => pe_one ha.pe, fun _ => pw_and1 ha.pt⟩
theorem db_or1 (ha : DE X C a ma) : DB X C .Or [a] ma := ⟨fun _ => pe_one ha.pe, fun _ => pw_or1 ha.pt⟩
theorem bl_v {K : PySem.W.Frag} {C : Cn} {F H : Hp} {r : Rv} {v : V} {b : Bool} (x : Ex F H) (h : RdV K C.G F H r v) (e : r.rd = .bl b) : v = .bl b := by
  have := h.is x
  rw [e] at this
  exact this
theorem db_and (ha : DE X C a ma) (hb : DB X C .And (b :: rest) mb) : DB X C .And (a :: b :: rest) (Den.andd ma mb) := by
  refine ⟨fun pos => (pe_and ha.pe (hb.pe pos)).imp fun σ H Q ⟨F, env, Rg, st, o⟩ => ?_, fun pos => (pw_and ha.pt (hb.pw pos)).imp fun σ H Q ⟨F, env, Rg, st, o⟩ => ?_⟩
  · refine den_bnd st o fun r v F1 H1 e1 st1 rd o1 => ?_
    cases hr : r.rd with
    | bl k =>
      simp only [hr] at o1
      refine ⟨k, bl_v st1.exF rd hr, ?_⟩
      cases k with
      | true => exact ⟨F1, env, Rg, st1, o1⟩
      | false => exact o1.bool st1.exF
    | _ => simp only [hr] at o1; exact o1.elim
  · refine ⟨F, env, Rg, st, ?_⟩
    unfold Den.andd at o
    cases hm : ma env with
    | stuck => rw [hm] at o; exact o
    | exn x => rw [hm] at o; exact o
    | ok r =>
      rw [hm] at o
      simp only [O.bnd_ok] at o
      cases hr : r.rd with
      | bl k =>
        simp only [hr] at o
        refine ⟨k, by rw [hr]; rfl, fun F1 H1 e1 => ?_⟩
        cases k with
        | true => exact ⟨F1, env, Rg, st.ext e1, o.ext e1⟩
        | false =>
          obtain ⟨b', hb', o⟩ := o
          cases hb'
          exact o F1 H1 e1
      | _ => simp only [hr] at o; exact o.elim
theorem db_or (ha : DE X C a ma) (hb : DB X C .Or (b :: rest) mb) : DB X C .Or (a :: b :: rest) (Den.orr ma mb) := by
  refine ⟨fun pos => (pe_or ha.pe (hb.pe pos)).imp fun σ H Q ⟨F, env, Rg, st, o⟩ => ?_, fun pos => (pw_or ha.pt (hb.pw pos)).imp fun σ H Q ⟨F, env, Rg, st, o⟩ => ?_⟩
  · refine den_bnd st o fun r v F1 H1 e1 st1 rd o1 => ?_
    cases hr : r.rd with
    | bl k =>
      simp only [hr] at o1
      refine ⟨k, bl_v st1.exF rd hr, ?_⟩
      cases k with
      | false => exact ⟨F1, env, Rg, st1, o1⟩
      | true => exact o1.bool st1.exF
    | _ => simp only [hr] at o1; exact o1.elim
  · refine ⟨F, env, Rg, st, ?_⟩
    unfold Den.orr at o
    cases hm : ma env with
    | stuck => rw [hm] at o; exact o
    | exn x => rw [hm] at o; exact o
    | ok r =>
      rw [hm] at o
      simp only [O.bnd_ok] at o
      cases hr : r.rd with
      | bl k =>
        simp only [hr] at o
        refine ⟨k, by rw [hr]; rfl, fun F1 H1 e1 => ?_⟩
        cases k with
        | false => exact ⟨F1, env, Rg, st.ext e1, o.ext e1⟩
        | true =>
          obtain ⟨b', hb', o⟩ := o
          cases hb'
          exact o F1 H1 e1
      | _ => simp only [hr] at o; exact o.elim
theorem de_bool {op : BoolOp} (h : DB X C op es m) : DE X C (.BoolOp op es pos) m := ⟨h.pe pos, (h.pw pos).pt⟩
theorem truth_bl {b : Bool} : (D.bl b).truth = some b := rfl
theorem notb {K : PySem.W.Frag} {C : Cn} {F H : Hp} {σ : L2.St} {Q : VK} {o : O Rv} : True := trivial
theorem de_not (ha : DE X C a ma) : DE X C (.UnaryOp .Not a pos) (Den.nott ma) := by
  refine ⟨⟨fun pins s σ H Q I ⟨F, env, Rg, st, o⟩ => ?_⟩, (pt_not ha.pt).imp fun σ H Q ⟨F, env, Rg, st, o⟩ => ?_⟩
  · refine UnaryOp_ (thn (ha.pe.run pins s σ H (fun x H' => ∃ k, TruW X.K x H' k ∧ Q (.bl (!k)) H') I ?_) fun v s1 ⟨x, H1, I1, r1, k, e, q1⟩ => ?_)
    · refine den_bnd st o fun r v F1 H1 e1 st1 rd o1 => ?_
      cases hr : r.rd.truth with
      | none => simp only [hr] at o1; exact o1.elim
      | some k =>
        simp only [hr] at o1
        exact ⟨k, tru_of (rd.is st1.exF) hr, o1.bool st1.exF⟩
    · exact not_of (thn (truw_ok pins s1 σ H1 x v (fun c H2 => Q (.bl (!c)) H2) I1 r1 ⟨k, e, q1⟩) fun c s2 ⟨H2, I2, q2⟩ => ⟨.bl (!c), H2, I2, rfl, q2⟩)
  · refine ⟨F, env, Rg, st, ?_⟩
    unfold Den.nott at o
    cases hm : ma env with
    | stuck => rw [hm] at o; exact o
    | exn x => rw [hm] at o; exact o
    | ok r =>
      rw [hm] at o
      simp only [O.bnd_ok] at o
      cases hr : r.rd.truth with
      | none => simp only [hr] at o; exact o.elim
      | some b =>
        simp only [hr] at o
        obtain ⟨b', hb', o⟩ := o
        cases hb'
        exact ⟨b, hr, fun F1 H1 e1 => o F1 H1 e1⟩
theorem isTrue_ifE {t b o : Expr} {env : Env} {whole : Sem Value} : isTrue (.IfExp t b o pos) env whole = (do
    if ← isTrue t env (eval t env) then isTrue b env (eval b env) else isTrue o env (eval o env)) := by rw [PySem.isTrue]
theorem de_ite (hc : DE X C c mc) (ha : DE X C a ma) (hb : DE X C b mb) : DE X C (.IfExp c a b pos) (Den.ite mc ma mb) := by
  have core : ∀ {F H : Hp} {σ : L2.St} {Q : VK} {env : Env'} {Rg : List Addr}, True := trivial
  refine ⟨(pe_ifExp hc.pt ha.pe hb.pe).imp fun σ H Q ⟨F, env, Rg, st, o⟩ => ?_, ⟨fun pins s σ H Q I ⟨F, env, Rg, st, o⟩ => ?_⟩⟩
  · refine ⟨F, env, Rg, st, ?_⟩
    unfold Den.ite at o
    cases hm : mc env with
    | stuck => rw [hm] at o; exact o
    | exn x => rw [hm] at o; exact o
    | ok r =>
      rw [hm] at o
      simp only [O.bnd_ok] at o
      cases hr : r.rd.truth with
      | none => simp only [hr] at o; exact o.elim
      | some k =>
        simp only [hr] at o
        refine ⟨k, hr, fun F1 H1 e1 => ?_⟩
        cases k with
        | true => exact ⟨F1, env, Rg, st.ext e1, o.ext e1⟩
        | false => exact ⟨F1, env, Rg, st.ext e1, o.ext e1⟩
  · rw [isTrue_ifE]
    refine wpAny_bind (thn (hc.pt.run pins s σ H (fun k H' => ∃ F', Stt X.K C.G C.F0 F' H' σ env Rg ∧ OutT X.K C F' H' σ Q (if k = true then ma env else mb env)) I ?_) fun k s1 ⟨H1, I1, F1, st1, o1⟩ => ?_)
    · refine ⟨F, env, Rg, st, ?_⟩
      unfold Den.ite at o
      cases hm : mc env with
      | stuck => rw [hm] at o; exact o
      | exn x => rw [hm] at o; exact o
      | ok r =>
        rw [hm] at o
        simp only [O.bnd_ok] at o
        cases hr : r.rd.truth with
        | none => simp only [hr] at o; exact o.elim
        | some k =>
          simp only [hr] at o
          refine ⟨k, hr, fun F1 H1 e1 => ⟨F1, st.ext e1, ?_⟩⟩
          cases k with
          | true => exact o.ext e1
          | false => exact o.ext e1
    · cases k with
      | true => exact ha.pt.run pins s1 σ H1 Q I1 ⟨F1, env, Rg, st1, o1⟩
      | false => exact hb.pt.run pins s1 σ H1 Q I1 ⟨F1, env, Rg, st1, o1⟩
end
end PV

set_option Elab.async false
set_option linter.all false
set_option maxRecDepth 100000
set_option maxHeartbeats 2000000
namespace PV
open PySem PySem.Spec PyProof.Rows L2

/-! ### places, slices -/
/-- an item of data -/
def ixD : D → D → Option D
  | .lst xs, .int i => atI xs i
  | .tup xs, .int i => atI xs i
  | .wtp xs, .int i => atI xs i
  | .str s, .int i => (atI s i).map fun c => .str [c]
  | .dic ks xs, k => (keyOf k).bind fun k => dget ks xs k
  | _, _ => none
/-- an item of an owned tree -/
def ixT : T → D → Option T
  | .lst ts, .int i => atI ts i
  | .dic ks ts, k => (keyOf k).bind fun k => dget ks ts k
  | _, _ => none
def Den.ix (ma mi : Den) : Den := fun env => (ma env).bnd fun ra => (mi env).bnd fun ri => match ra with
  | .bor t => (match ixT t ri.rd with
    | some (.fz d) => .ok (.val (.fz d))
    | some t => .ok (.bor t)
    | none => .stuck)
  | .val t => (match ixD t.frz ri.rd with
    | some d => .ok (.val (.fz d))
    | none => .stuck)
section
variable {K : PySem.W.Frag} {F H : Hp}
theorem IsL.atI {ds : List D} {vs : List V} {i : Int} {d : D} (h : IsL K F ds vs) (e : L2.atI ds i = some d) : ∃ v, L2.atI vs i = some v ∧ Is K F d v := by
  unfold L2.atI at e ⊢
  rw [← h.len]
  cases q : ixN ds.length i with
  | none => rw [q] at e; cases e
  | some j =>
    rw [q] at e
    exact h.get e
theorem OwnL.get : ∀ {ts : List T} {vs : List V} {R : List Addr} {i : Nat} {t : T}, OwnL K F H ts vs R → ts[i]? = some t → ∃ v Rt, vs[i]? = some v ∧ Own K F H t v Rt ∧ Rt.Sublist R
  | [], [], _, _, _, h, e => by simp at e
  | [], _ :: _, _, _, _, h, _ => h.elim
  | _ :: _, [], _, _, _, h, _ => h.elim
  | t :: ts, v :: vs, R, 0, t', h, e => by
    obtain ⟨R1, R2, rfl, h1, h2⟩ := h
    simp at e
    subst e
    exact ⟨v, R1, rfl, h1, List.sublist_append_left _ _⟩
  | t :: ts, v :: vs, R, i + 1, t', h, e => by
    obtain ⟨R1, R2, rfl, h1, h2⟩ := h
    obtain ⟨v', Rt, h3, h4, h5⟩ := OwnL.get (i := i) h2 (by simpa using e)
    exact ⟨v', Rt, by simpa using h3, h4, h5.trans (List.sublist_append_right _ _)⟩
theorem OwnL.len : ∀ {ts : List T} {vs : List V} {R : List Addr}, OwnL K F H ts vs R → ts.length = vs.length
  | [], [], _, _ => rfl
  | [], _ :: _, _, h => h.elim
  | _ :: _, [], _, h => h.elim
  | _ :: _, _ :: _, _, ⟨_, _, _, _, h⟩ => congrArg (· + 1) (OwnL.len h)
theorem OwnL.atI {ts : List T} {vs : List V} {R : List Addr} {i : Int} {t : T} (h : OwnL K F H ts vs R) (e : L2.atI ts i = some t) : ∃ v Rt, L2.atI vs i = some v ∧ Own K F H t v Rt ∧ Rt.Sublist R := by
  unfold L2.atI at e ⊢
  rw [← h.len]
  cases q : ixN ts.length i with
  | none => rw [q] at e; cases e
  | some j =>
    rw [q] at e
    exact h.get e
theorem dget_ownT {κ : Type} [DecidableEq κ] {k : κ} {t : T} : ∀ {kvs : List (κ × V)} {ts : List T} {R : List Addr}, OwnL K F H ts (kvs.map (·.2)) R → dget (kvs.map (·.1)) ts k = some t → ∃ v Rt, valV kvs k = some v ∧ Own K F H t v Rt ∧ Rt.Sublist R
  | [], [], _, _, e => by cases e
  | [], _ :: _, _, h, _ => h.elim
  | _ :: _, [], _, h, _ => h.elim
  | p :: kvs, t' :: ts, R, h, e => by
    obtain ⟨R1, R2, rfl, h1, h2⟩ := h
    simp only [List.map_cons, dget] at e
    by_cases z : p.1 = k
    · rw [if_pos z] at e
      cases e
      exact ⟨_, _, valV_pos z, h1, List.sublist_append_left _ _⟩
    · rw [if_neg z] at e
      rw [valV_neg z]
      obtain ⟨v, Rt, h3, h4, h5⟩ := dget_ownT h2 e
      exact ⟨v, Rt, h3, h4, h5.trans (List.sublist_append_right _ _)⟩
end
section
variable {X : Cx} {C : Cn} {e a b c i : Expr} {m ma mb mc mi : Den} {pos p2 : Pos} {es rest : List Expr}
/-- o[i] by values: a list, a tuple, a text, a dict -/
def rIx (K : PySem.W.Frag) : R2 := fun x y H Q => rIxL K x y H Q ∨ rIxT K x y H Q ∨ rIxS x y H Q ∨ ∃ a kvs k v, x = .ref a ∧ y = kV k ∧ Rd H a (.dK kvs) ∧ valV kvs k = some v ∧ Q v H
theorem ix_any (hu : X.A.units + 1 < cLine) : IxR X (rIx X.K) := by
  intro value slice pins s σ H x y v u Q I rx ry h hs
  rcases h with h | h | h | h
  · exact ix_list value slice pins s σ H x y v u Q I rx ry h hs
  · exact ix_tup value slice pins s σ H x y v u Q I rx ry h hs
  · exact ix_str value slice pins s σ H x y v u Q I rx ry h hs
  · obtain ⟨a, kvs, k, v', rfl, rfl, h1, h2, q⟩ := h
    cases rx
    have g : DGet H a (kV k) (some v') := .inl ⟨kvs, k, h1, rfl, h2.symm⟩
    have dd : IsD H a := .inl ⟨kvs, h1⟩
    obtain ⟨t1, t2, t3⟩ := isD_at I dd
    refine tail_any t1 PySem.F.slot_dict_getitem.lookup ?_ hs
    exact d_getItem hu I g ry fun w' s' I' rw' => ⟨v', H, I', rw', q⟩
theorem ix_t {K : PySem.W.Frag} {σ : L2.St} {H : Hp} {Q : VK} (h : tDen K C (Den.ix ma mi) σ H Q) : tOp (rIx K) (tDen K C ma) (tDen K C mi) σ H Q := by
  obtain ⟨F, env, Rg, st, o⟩ := h
  refine den_bnd st o fun ra v F1 H1 e1 st1 r1 o1 => ?_
  refine den_bnd st1 o1 fun ri u F2 H2 e2 st2 r2 o2 => ?_
  have r1' := r1.mono e2 st1.exF
  have i2 := r2.is st2.exF
  cases ra with
  | val t =>
    simp only at o2
    have i1 : Is K F2 t.frz v := r1'
    generalize t.frz = d at o2 i1
    generalize ri.rd = k at o2 i2
    cases hd : ixD d k with
    | none => rw [hd] at o2; exact o2.elim
    | some d' =>
      rw [hd] at o2
      have fin : ∀ v, Is K F2 d' v → Q v H2 := fun v hv => o2.give st2.exF hv
      cases d with
      | lst xs =>
        cases k <;> try (cases hd; done)
        cases i2
        obtain ⟨a, vs, rfl, h1, h2⟩ := i1
        obtain ⟨v', h3, h4⟩ := h2.atI hd
        exact .inl ⟨a, vs, _, v', rfl, rfl, SqL.of (st2.exF _ _ h1), h3, fin _ h4⟩
      | tup xs =>
        cases k <;> try (cases hd; done)
        cases i2
        obtain ⟨a, vs, rfl, h1, h2⟩ := i1
        obtain ⟨v', h3, h4⟩ := h2.atI hd
        exact .inr (.inl ⟨a, vs, _, v', rfl, rfl, (st2.exF.sqp h1).sqt, h3, fin _ h4⟩)
      | wtp xs =>
        cases k <;> try (cases hd; done)
        cases i2
        obtain ⟨a, vs, rfl, h1, h2⟩ := i1
        obtain ⟨v', h3, h4⟩ := h2.atI hd
        exact .inr (.inl ⟨a, vs, _, v', rfl, rfl, st2.exF.sqt h1, h3, fin _ h4⟩)
      | str s =>
        cases k <;> try (cases hd; done)
        rename_i j
        cases i2
        obtain ⟨rfl, ok⟩ := i1
        simp only [ixD, Option.map_eq_some_iff] at hd
        obtain ⟨c, hc, rfl⟩ := hd
        obtain ⟨j', _, hj, _⟩ := atI_get hc
        have hm : c ∈ s := List.mem_of_getElem? hj
        refine .inr (.inr (.inl ⟨_, _, c, rfl, rfl, ok.line, by rw [S_list]; exact hc, ?_⟩))
        exact fin _ ⟨rfl, fun c' h' => by
          rw [List.mem_singleton.mp h']; exact ok.1 c hm, by simp⟩
      | dic ks xs =>
        simp only [ixD, Option.bind_eq_some_iff] at hd
        obtain ⟨q, hq, hd⟩ := hd
        obtain ⟨a, kvs, rfl, h1, h3, h2⟩ := i1
        subst h3
        have := keyOf_is i2 hq
        subst this
        rcases dget_valV (k := q) h2 with ⟨z1, z2⟩ | ⟨d2, v2, z1, z2, z3⟩
        · rw [z1] at hd; cases hd
        · rw [z1] at hd
          cases hd
          exact .inr (.inr (.inr ⟨a, kvs, q, v2, rfl, rfl, st2.exF.rd h1, z2, fin _ z3⟩))
      | _ => cases k <;> cases hd
  | bor t =>
    simp only at o2
    obtain ⟨Rb, i1, nd, out⟩ : Bor K C.G F2 H2 t v := r1'
    generalize ri.rd = k at o2 i2
    cases hd : ixT t k with
    | none => rw [hd] at o2; exact o2.elim
    | some t' =>
      rw [hd] at o2
      have fin : ∀ v Rt, Own K F2 H2 t' v Rt → Rt.Sublist Rb → Q v H2 := fun v Rt hv sb => by
        have bo : Bor K C.G F2 H2 t' v := ⟨Rt, hv, sb.nodup nd, fun r hr => out r (sb.subset hr)⟩
        cases t' with
        | fz d => exact o2.give st2.exF hv.2
        | lst _ => exact o2 v F2 H2 (Ext.refl st2.exF) bo
        | dic _ _ => exact o2 v F2 H2 (Ext.refl st2.exF) bo
        | ins _ _ _ => exact o2 v F2 H2 (Ext.refl st2.exF) bo
      cases t with
      | lst ts =>
        cases k <;> try (cases hd; done)
        cases i2
        obtain ⟨a, vs, R', rfl, h1, rfl, h2⟩ := i1
        obtain ⟨v', Rt, h3, h4, h5⟩ := h2.atI hd
        exact .inl ⟨a, vs, _, v', rfl, rfl, SqL.of h1, h3, fin _ _ h4 (h5.trans (List.sublist_cons_self _ _))⟩
      | dic ks ts =>
        simp only [ixT, Option.bind_eq_some_iff] at hd
        obtain ⟨q, hq, hd⟩ := hd
        obtain ⟨a, kvs, R', rfl, h1, h3, rfl, h2⟩ := i1
        subst h3
        have := keyOf_is i2 hq
        subst this
        obtain ⟨v2, Rt, z2, z3, z4⟩ := dget_ownT h2 hd
        exact .inr (.inr (.inr ⟨a, kvs, q, v2, rfl, rfl, h1, z2, fin _ _ z3 (z4.trans (List.sublist_cons_self _ _))⟩))
      | _ => cases k <;> cases hd
theorem de_ix (hu : X.A.units + 1 < cLine) (ha : DE X C a ma) (hi : DE X C i mi) (hs : PlainIx i) : DE X C (.Subscript a i pos) (Den.ix ma mi) :=
  DE.of ((pe_ix (ix_any hu) ha.pe hi.pe hs).imp fun _ _ _ h => ix_t h) (fun _ => rfl)
end
end PV

set_option Elab.async false
set_option linter.all false
set_option maxRecDepth 100000
set_option maxHeartbeats 2000000
namespace PV
open PySem PySem.Spec PyProof.Rows L2
section
variable {X : Cx} {C : Cn} {e a b c i : Expr} {m ma mb mc mi : Den} {pos p2 p : Pos} {es rest : List Expr} {x : Str}
/-! ### argument lists -/
abbrev Dens := Env' → O (List Rv)
def OutA (K : PySem.W.Frag) (C : Cn) (F H : Hp) (σ : L2.St) (Q : List V → Hp → Prop) : O (List Rv) → Prop
  | .stuck => False
  | .exn x => ∀ c a F' H', Ext F H F' H' → ExnAt K F' x c a → C.E c a σ H'
  | .ok rs => ∀ vs F' H', Ext F H F' H' → RdL K C.G F' H' rs vs → Q vs H'
def tDens (K : PySem.W.Frag) (C : Cn) (m : Dens) : TA := fun σ H Q => ∃ F env Rg, Stt K C.G C.F0 F H σ env Rg ∧ OutA K C F H σ Q (m env)
def Dens.nil : Dens := fun _ => .ok []
def Dens.cons (m : Den) (ms : Dens) : Dens := fun env => (m env).bnd fun r => (ms env).bnd fun rs => .ok (r :: rs)
structure DA (X : Cx) (C : Cn) (es : List Expr) (m : Dens) : Prop where
  pa : PA X es (tDens X.K C m)
  len : ∀ env rs, m env = .ok rs → rs.length = es.length
theorem OutA.ext {K : PySem.W.Frag} {C : Cn} {F H F' H' : Hp} {σ : L2.St} {Q : List V → Hp → Prop} (e : Ext F H F' H') {o : O (List Rv)} (h : OutA K C F H σ Q o) : OutA K C F' H' σ Q o := by
  cases o with
  | stuck => exact h
  | exn x => exact fun c a F2 H2 e2 ha => h c a F2 H2 (e.trans e2) ha
  | ok rs => exact fun vs F2 H2 e2 n => h vs F2 H2 (e.trans e2) n
theorem da_nil : DA X C [] Dens.nil := ⟨pa_nil.imp fun σ H Q ⟨F, env, Rg, st, o⟩ => o [] F H (Ext.refl st.exF) trivial, fun env rs h => by cases h; rfl⟩
theorem da_cons {ms : Dens} (h : DE X C e m) (hr : DA X C es ms) (hs : starEach (e :: es) X.env = (false, eval e X.env) :: starEach es X.env := by rfl) : DA X C (e :: es) (Dens.cons m ms) := by
  refine ⟨(pa_cons h.pe hr.pa hs).imp fun σ H Q ⟨F, env, Rg, st, o⟩ => ?_, fun env rs h0 => ?_⟩
  rotate_left
  · unfold Dens.cons at h0
    cases hm : m env with
    | stuck => rw [hm] at h0; cases h0
    | exn x => rw [hm] at h0; cases h0
    | ok r =>
      rw [hm] at h0
      simp only [O.bnd_ok] at h0
      cases hms : ms env with
      | stuck => rw [hms] at h0; cases h0
      | exn x => rw [hms] at h0; cases h0
      | ok rs' =>
        rw [hms] at h0
        cases h0
        exact congrArg (· + 1) (hr.len env rs' hms)
  refine ⟨F, env, Rg, st, ?_⟩
  unfold Dens.cons at o
  cases hm : m env with
  | stuck => rw [hm] at o; exact o
  | exn x => rw [hm] at o; exact o
  | ok r =>
    rw [hm] at o
    simp only [O.bnd_ok] at o
    refine OutE.rd st.exF fun v F1 H1 e1 rd => ⟨F1, env, Rg, st.ext e1, ?_⟩
    have o := o.ext e1
    cases hms : ms env with
    | stuck => rw [hms] at o; exact o
    | exn x => rw [hms] at o; exact o
    | ok rs =>
      rw [hms] at o
      simp only [O.bnd_ok] at o
      intro vs F2 H2 e2 rds
      exact o (v :: vs) F2 H2 e2 ⟨rd.mono e2 (st.ext e1).exF, rds⟩
/-- an argument list ahead of what needs it -/
theorem dens_bnd {K : PySem.W.Frag} {F H : Hp} {σ : L2.St} {Q : VK} {env : Env'} {Rg : List Addr} {ms : Dens} {k : List Rv → O Rv} (st : Stt K C.G C.F0 F H σ env Rg) (h : OutE K C F H σ Q ((ms env).bnd k)) {R : List V → Hp → Prop}
    (hr : ∀ rs vs F' H', ms env = .ok rs → Ext F H F' H' → Stt K C.G C.F0 F' H' σ env Rg → RdL K C.G F' H' rs vs → OutE K C F' H' σ Q (k rs) → R vs H') : tDens K C ms σ H R := by
  refine ⟨F, env, Rg, st, ?_⟩
  cases hm : ms env with
  | stuck => rw [hm] at h; exact h.elim
  | exn x => rw [hm] at h; exact h
  | ok rs =>
    rw [hm] at h
    intro vs F' H' e rd
    exact hr rs vs F' H' hm e (st.ext e) rd (h.ext e)

/-! ### displays -/
def Den.list (ms : Dens) : Den := fun env => (ms env).bnd fun rs => fin rs (some (T.of (rs.map Rv.rd)))
def Den.tup (ms : Dens) : Den := fun env => (ms env).bnd fun rs => fin rs (some (.fz (.tup (rs.map Rv.rd))))
theorem RdL.len {K : PySem.W.Frag} {G F H : Hp} : ∀ {rs : List Rv} {vs : List V}, RdL K G F H rs vs → rs.length = vs.length
  | [], [], _ => rfl
  | [], _ :: _, h => h.elim
  | _ :: _, [], h => h.elim
  | _ :: _, _ :: _, h => congrArg (· + 1) (RdL.len h.2)
theorem fin_ok {K : PySem.W.Frag} {F H : Hp} {σ : L2.St} {Q : VK} {rs : List Rv} {t : T} (h : OutE K C F H σ Q (fin rs (some t))) : (rs.all Rv.clean = true ∨ t.scal = true) ∧ OutE K C F H σ Q (.ok (.val t)) := by
  unfold fin at h
  simp only at h
  split at h
  · exact ⟨by assumption, h⟩
  · exact h.elim
theorem len_line {n : Nat} (h : n ≤ 10000) : n ≤ sizeLine := by rw [sizeLine_eq]; omega
theorem de_list {ms : Dens} (h : DA X C es ms) (hz : es.length ≤ 10000 := by decide) : DE X C (.List es pos) (Den.list ms) := by
  refine DE.of ((pe_lst h.pa).imp fun σ H Q ⟨F, env, Rg, st, o⟩ => ?_) (fun _ => rfl)
  refine dens_bnd st o fun rs vs F1 H1 hm e1 st1 rd o1 => ⟨?_, fun p hp => ?_⟩
  · rw [← rd.len, h.len _ _ hm]; exact len_line hz
  · obtain ⟨hc, o2⟩ := fin_ok o1
    rcases hc with hc | hc
    · exact o2 (.ref p) F1 _ [p] (Ext.newOwn st1.exF hp) (New.lst st1.exF hp (rd.fz hc))
    · cases hc
theorem de_tup {ms : Dens} {k : Nat} (h : DA X C es ms) (hz : es.length ≤ 10000 := by decide) : DE X C (.Tuple es k pos) (Den.tup ms) := by
  refine DE.of ((pe_tupP h.pa).imp fun σ H Q ⟨F, env, Rg, st, o⟩ => ?_) (fun _ => rfl)
  refine dens_bnd st o fun rs vs F1 H1 hm e1 st1 rd o1 => ⟨?_, ?_⟩
  · rw [← rd.len, h.len _ _ hm]; exact len_line hz
  · obtain ⟨hc, o2⟩ := fin_ok o1
    rcases hc with hc | hc
    · exact NewT.of st1.exF (rd.fz hc) o2
    · cases hc

/-! ### slices -/
theorem isL_ints {K : PySem.W.Frag} {F : Hp} : ∀ ns : List Int, IsL K F (ns.map .int) (ns.map V.int)
  | [] => trivial
  | _ :: ns => ⟨rfl, isL_ints ns⟩

def cut {α : Type} (xs : List α) (lo hi : Option Int) : List α := (xs.drop (HT.sIx xs.length 0 lo)).take (HT.sIx xs.length xs.length hi - HT.sIx xs.length 0 lo)
theorem cut_len {α : Type} (xs : List α) (lo hi : Option Int) : (cut xs lo hi).length ≤ xs.length := by
  unfold cut
  rw [List.length_take, List.length_drop]
  omega
theorem cut_mem {α : Type} {xs : List α} {lo hi : Option Int} {x : α} (h : x ∈ cut xs lo hi) : x ∈ xs := List.mem_of_mem_drop (List.mem_of_mem_take h)
theorem cut_map {α β : Type} (f : α → β) (xs : List α) (lo hi : Option Int) : cut (xs.map f) lo hi = (cut xs lo hi).map f := by
  unfold cut
  simp only [List.length_map, ← List.map_drop, ← List.map_take]
def slD : D → Option Int → Option Int → Option T
  | .lst xs, lo, hi => some (T.of (cut xs lo hi))
  | .scr ns, lo, hi => some (T.of ((cut ns lo hi).map .int))
  | .tup xs, lo, hi => some (.fz (.tup (cut xs lo hi)))
  | .str s, lo, hi => some (.fz (.str (cut s lo hi)))
  | _, _, _ => none
def pI : Option Den → Env' → O (Option Int × Bool)
  | none, _ => .ok (none, true)
  | some m, env => (m env).bnd fun r => match r.rd with
    | .int i => .ok (some i, true)
    | _ => .stuck
@[simp] theorem pI_none {env : Env'} : pI none env = .ok (none, true) := rfl
@[simp] theorem pI_some {m : Den} {env : Env'} : pI (some m) env = (m env).bnd fun r => match r.rd with
    | .int i => .ok (some i, true)
    | _ => .stuck := rfl
def Den.sl (ma : Den) (lo hi : Option Den) : Den := fun env => (ma env).bnd fun ra => (pI lo env).bnd fun l => (pI hi env).bnd fun h => fin [ra] (slD ra.rd l.1 h.1)
theorem IsL.cut {K : PySem.W.Frag} {F : Hp} {ds : List D} {vs : List V} {lo hi : Option Int} (h : IsL K F ds vs) : IsL K F (PV.cut ds lo hi) (cutV vs lo hi) := by
  unfold PV.cut cutV
  rw [← h.len]
  exact (h.drop _).take _
structure DP (X : Cx) (C : Cn) (e : Option Expr) (m : Option Den) : Prop where
  po : PO X e (fun σ H Q => ∃ F env Rg, Stt X.K C.G C.F0 F H σ env Rg ∧ match pI m env with
    | .stuck => False
    | .exn x => ∀ c a F' H', Ext F H F' H' → ExnAt X.K F' x c a → C.E c a σ H'
    | .ok o => ∀ F' H', Ext F H F' H' → Q o.1 H')
theorem _root_.L2.PO.imp {X : Cx} {e : Option Expr} {t t' : TO} (h : PO X e t) (i : ∀ σ H Q, t' σ H Q → t σ H Q) : PO X e t' := ⟨fun pins s σ H Q I hw => h.run pins s σ H Q I (i σ H Q hw)⟩
theorem dp_none : DP X C none none := ⟨po_none.imp fun σ H Q ⟨F, env, Rg, st, o⟩ => o F H (Ext.refl st.exF)⟩
theorem dp_some (h : DE X C e m) : DP X C (some e) (some m) := by
  refine ⟨(po_some h.pe).imp fun σ H Q ⟨F, env, Rg, st, o⟩ => ⟨F, env, Rg, st, ?_⟩⟩
  rw [pI_some] at o
  cases hm : m env with
  | stuck => rw [hm] at o; exact o
  | exn x => rw [hm] at o; exact o
  | ok r =>
    rw [hm] at o
    simp only [O.bnd_ok] at o
    refine OutE.rd st.exF fun v F1 H1 e1 rd => ?_
    cases hr : r.rd with
    | int i =>
      simp only [hr] at o
      have := rd.is (st.ext e1).exF
      rw [hr] at this
      exact ⟨i, this, o F1 H1 e1⟩
    | _ => simp only [hr] at o
theorem de_sl {lo hi : Option Expr} {ml mh : Option Den} (ha : DE X C a ma) (hl : DP X C lo ml) (hh : DP X C hi mh) : DE X C (.Subscript a (.Slice lo hi none p2) pos) (Den.sl ma ml mh) := by
  refine DE.of ((pe_slice (SlR.or sl_list (SlR.or sl_str sl_tupP)) ha.pe hl.po hh.po).imp fun σ H Q ⟨F, env, Rg, st, o⟩ => ?_) (fun _ => rfl)
  refine den_bnd st o fun ra v F1 H1 e1 st1 r1 o1 => ?_
  refine ⟨F1, env, Rg, st1, ?_⟩
  cases hl : pI ml env with
  | stuck => rw [hl] at o1; exact o1.elim
  | exn x => rw [hl] at o1; exact o1
  | ok l =>
    rw [hl] at o1
    simp only [O.bnd_ok] at o1
    refine fun F2 H2 e2 => ⟨F2, env, Rg, st1.ext e2, ?_⟩
    have o1 := o1.ext e2
    cases hh : pI mh env with
    | stuck => rw [hh] at o1; exact o1.elim
    | exn x => rw [hh] at o1; exact o1
    | ok h =>
      rw [hh] at o1
      simp only [O.bnd_ok] at o1
      intro F3 H3 e3
      have o1 := o1.ext e3
      have st3 := (st1.ext e2).ext e3
      have r3 := (r1.mono e2 st1.exF).mono e3 (st1.ext e2).exF
      obtain ⟨lo', _⟩ := l
      obtain ⟨hi', _⟩ := h
      simp only at o1
      have i3 := r3.is st3.exF
      have j3 : ra.clean = true → Is X.K F3 ra.rd v := r3.fz
      generalize ra.rd = d at o1 i3 j3
      cases d with
      | lst xs =>
        obtain ⟨hc, o2⟩ := fin_ok o1
        rcases hc with hc | hc
        · obtain ⟨q, vs, rfl, h1, h2⟩ := j3 (by simpa using hc)
          exact .inl ⟨q, vs, rfl, SqL.of (st3.exF _ _ h1), fun p hp => o2 (.ref p) F3 _ [p] (Ext.newOwn st3.exF hp) (New.lst st3.exF hp h2.cut)⟩
        · cases hc
      | scr ns =>
        obtain ⟨hc, o2⟩ := fin_ok o1
        rcases hc with hc | hc
        · obtain ⟨q, rfl, h1⟩ := j3 (by simpa using hc)
          refine .inl ⟨q, _, rfl, st3.exF.sql h1, fun p hp => o2 (.ref p) F3 _ [p] (Ext.newOwn st3.exF hp) ?_⟩
          have e : cutV (ns.map V.int) lo' hi' = (PV.cut ns lo' hi').map V.int := by
            unfold cutV PV.cut
            simp only [List.length_map, ← List.map_drop, ← List.map_take]
          rw [e]
          exact New.lst st3.exF hp (isL_ints _)
        · cases hc
      | tup xs =>
        obtain ⟨hc, o2⟩ := fin_ok o1
        rcases hc with hc | hc
        · have j := j3 (by simpa using hc)
          obtain ⟨q, vs, rfl, h1, h2⟩ := id j
          refine .inr (.inr ⟨q, vs, rfl, (st3.exF.sqp h1).sqt, fun hw => ?_, fun hw => NewT.of st3.exF h2.cut o2⟩)
          have : PV.cut xs lo' hi' = xs := by
            unfold PV.cut
            rw [h2.len, hw.1, hw.2]
            simp [← h2.len]
          rw [this] at o2
          exact o2.give st3.exF j
        · cases hc
      | str s =>
        obtain ⟨hc, o2⟩ := fin_ok o1
        obtain ⟨rfl, ok⟩ := i3
        refine .inr (.inl ⟨_, rfl, ok.line, ?_⟩)
        refine o2.give st3.exF ⟨?_, ok.sub (fun c hc => cut_mem hc) (cut_len _ _ _)⟩
        unfold cutS PV.cut
        rw [S_list, S_len]
        rfl
      | _ => exact o1.elim
end
end PV

set_option Elab.async false
set_option linter.all false
set_option maxRecDepth 100000
set_option maxHeartbeats 2000000
namespace PV
open PySem PySem.Spec PyProof.Rows L2

section
variable {K : PySem.W.Frag} {F F' H H' G F0 : Hp}
/-- a slot is stored -/
theorem OwnE.set {t : T} {v : V} {Rn : List Addr} (hn : Own K F H t v Rn) : ∀ {env : Env'} {σ : L2.St} {R : List Addr} {i : Nat}, OwnE K F H env σ R → i < env.length →
    ∃ R', OwnE K F H (env.set i (some t)) (σ.set i (some v)) R' ∧ (∀ r ∈ R', r ∈ R ∨ r ∈ Rn) ∧ (R.Nodup → Rn.Nodup → (∀ r ∈ Rn, r ∉ R) → R'.Nodup)
  | [], [], _, _, _, hi => by simp at hi
  | none :: es, o :: σ, R, 0, h, _ => ⟨Rn ++ R, ⟨Rn, R, rfl, hn, h⟩, fun r hr => by
      rcases List.mem_append.mp hr with hr | hr
      · exact .inr hr
      · exact .inl hr, fun h1 h2 h3 => List.nodup_append.mpr ⟨h2, h1, fun a ha b hb e => h3 a ha (e ▸ hb)⟩⟩
  | some t' :: es, some u :: σ, R, 0, h, _ => by
    obtain ⟨R1, R2, rfl, h1, h2⟩ := h
    refine ⟨Rn ++ R2, ⟨Rn, R2, rfl, hn, h2⟩, fun r hr => ?_, fun z1 z2 z3 => ?_⟩
    · rcases List.mem_append.mp hr with hr | hr
      · exact .inr hr
      · exact .inl (by simp [hr])
    · exact List.nodup_append.mpr ⟨z2, (List.nodup_append.mp z1).2.1, fun a ha b hb e => z3 a ha (by simp [e ▸ hb])⟩
  | none :: es, o :: σ, R, i + 1, h, hi => by
    obtain ⟨R', h1, h2, h3⟩ := OwnE.set hn (env := es) (σ := σ) (i := i) h (by simpa using hi)
    exact ⟨R', h1, h2, h3⟩
  | some t' :: es, some u :: σ, R, i + 1, h, hi => by
    obtain ⟨R1, R2, rfl, h1, h2⟩ := h
    obtain ⟨R', h3, h4, h5⟩ := OwnE.set hn (env := es) (σ := σ) (i := i) h2 (by simpa using hi)
    refine ⟨R1 ++ R', ⟨R1, R', rfl, h1, h3⟩, fun r hr => ?_, fun z1 z2 z3 => ?_⟩
    · rcases List.mem_append.mp hr with hr | hr
      · exact .inl (by simp [hr])
      · rcases h4 r hr with h | h
        · exact .inl (by simp [h])
        · exact .inr h
    · obtain ⟨n1, n2, n3⟩ := List.nodup_append.mp z1
      refine List.nodup_append.mpr ⟨n1, h5 n2 z2 (fun r hr hm => z3 r hr (by simp [hm])), fun a ha b hb e => ?_⟩
      rcases h4 b hb with h | h
      · exact n3 a ha b h e
      · exact z3 b h (by simp [← e, ha])
  | some _ :: _, none :: _, _, _, h, _ => h.elim
  | some _ :: _, [], _, _, h, _ => h.elim
  | none :: _, [], _, _, h, _ => h.elim
  | [], _ :: _, _, _, h, _ => h.elim
variable {σ : L2.St} {env : Env'} {R : List Addr}
theorem Stt.set {t : T} {v : V} {Rn : List Addr} {i : Nat} {H0 : Hp} (S : Stt K G F0 F H σ env R) (n : New K H0 F H t v Rn) (hi : i < env.length) (h0 : ∀ r ∈ R, ∃ o, H0 r = some o) (hG : ∀ r, H0 r = none → G r = none) :
    ∃ R', Stt K G F0 F H (σ.set i (some v)) (env.set i (some t)) R' := by
  obtain ⟨R', h1, h2, h3⟩ := OwnE.set n.own S.own hi
  refine ⟨R', S.exG, S.exF, S.sep, h1, h3 S.nd n.nd (fun r hr hm => ?_), fun r hr => ?_⟩
  · obtain ⟨o, ho⟩ := h0 r hm
    rw [(n.out r hr).1] at ho
    cases ho
  · rcases h2 r hr with h | h
    · exact S.out r h
    · exact ⟨(n.out r h).2, hG r (n.out r h).1⟩
/-- behind an expression from H0 -/
theorem Stt.set' {t : T} {v : V} {Rn : List Addr} {i : Nat} {F1 H1 : Hp} (S0 : Stt K G F0 F H σ env R) (e : Ext F H F1 H1) (n : New K H F1 H1 t v Rn) (hi : i < env.length) :
    ∃ R', Stt K G F0 F1 H1 (σ.set i (some v)) (env.set i (some t)) R' :=
  (S0.ext e).set n hi (fun r hr => S0.own.held _ _ _ r hr) (fun r h => S0.exG.none h)
theorem Stt.setFz {d : D} {v : V} {i : Nat} (S : Stt K G F0 F H σ env R) (n : Is K F d v) (hi : i < env.length) : ∃ R', Stt K G F0 F H (σ.set i (some v)) (env.set i (some (.fz d))) R' :=
  S.set' (Ext.refl S.exF) (New.fz n) hi
/-- the slot i frozen -/
def frzAt (env : Env') (i : Nat) : Env' := match env[i]? with
  | some (some t) => env.set i (some (.fz t.frz))
  | _ => env
theorem OwnE.frzAt : ∀ {env : Env'} {σ : L2.St} {R : List Addr} {i : Nat} {t : T}, OwnE K F H env σ R → env[i]? = some (some t) →
    ∃ (Rt R' : List Addr), (∀ r ∈ R', r ∈ R) ∧ (∀ r ∈ Rt, r ∈ R) ∧ (R.Nodup → R'.Nodup ∧ ∀ r ∈ Rt, r ∉ R') ∧ ∀ F', Ex F F' → (∀ r ∈ Rt, ∀ o, H r = some o → F' r = some o) → OwnE K F' H (env.set i (some (.fz t.frz))) σ R'
  | [], [], _, _, _, _, h => by simp at h
  | none :: es, o :: σ, R, 0, t, h, h2 => by simp at h2
  | some t' :: es, some u :: σ, R, 0, t, h, h2 => by
    obtain ⟨R1, R2, rfl, h3, h4⟩ := h
    simp at h2
    subst h2
    refine ⟨R1, R2, fun r hr => by simp [hr], fun r hr => by simp [hr], fun nd => ?_, fun F' e k => ⟨[], R2, rfl, ⟨rfl, h3.freeze e t' u R1 k⟩, h4.mono e _ _ _ fun _ _ _ z => z⟩⟩
    obtain ⟨n1, n2, n3⟩ := List.nodup_append.mp nd
    exact ⟨n2, fun r hr hm => n3 r hr r hm rfl⟩
  | none :: es, o :: σ, R, i + 1, t, h, h2 => by
    obtain ⟨Rt, R', a1, a2, a3, a4⟩ := OwnE.frzAt (env := es) (σ := σ) (i := i) h (by simpa using h2)
    exact ⟨Rt, R', a1, a2, a3, a4⟩
  | some t' :: es, some u :: σ, R, i + 1, t, h, h2 => by
    obtain ⟨R1, R2, rfl, h3, h4⟩ := h
    obtain ⟨Rt, R', a1, a2, a3, a4⟩ := OwnE.frzAt (env := es) (σ := σ) (i := i) h4 (by simpa using h2)
    refine ⟨Rt, R1 ++ R', fun r hr => ?_, fun r hr => by simp [a2 r hr], fun nd => ?_, fun F' e k => ⟨R1, R', rfl, h3.mono e _ _ _ fun _ _ _ z => z, a4 F' e k⟩⟩
    · rcases List.mem_append.mp hr with hr | hr
      · simp [hr]
      · simp [a1 r hr]
    · obtain ⟨n1, n2, n3⟩ := List.nodup_append.mp nd
      obtain ⟨m1, m2⟩ := a3 n2
      refine ⟨List.nodup_append.mpr ⟨n1, m1, fun a ha b hb z => n3 a ha b (a1 b hb) z⟩, fun r hr hm => ?_⟩
      rcases List.mem_append.mp hm with hm | hm
      · exact n3 r hm r (a2 r hr) rfl
      · exact m2 r hr hm
  | some _ :: _, none :: _, _, _, _, h, _ => h.elim
  | some _ :: _, [], _, _, _, h, _ => h.elim
  | none :: _, [], _, _, _, h, _ => h.elim
  | [], _ :: _, _, _, _, h, _ => h.elim
theorem Stt.frzAt (S : Stt K G F0 F H σ env R) (i : Nat) : ∃ F' R', Ex F F' ∧ Stt K G F0 F' H σ (PV.frzAt env i) R' := by
  unfold PV.frzAt
  split
  · rename_i t h
    obtain ⟨Rt, R', a1, a2, a3, a4⟩ := OwnE.frzAt S.own h
    have ex : Ex F (grow F H Rt) := fun a o ha => by
      by_cases hm : a ∈ Rt
      · rw [(S.out a (a2 a hm)).1] at ha; cases ha
      · rw [grow_out hm]; exact ha
    obtain ⟨n1, n2⟩ := a3 S.nd
    refine ⟨grow F H Rt, R', ex, S.exG, fun a o ha => ?_, fun a o ha => ?_, a4 _ ex fun r hr o z => by rw [grow_in hr]; exact z, n1, fun r hr => ?_⟩
    · by_cases hm : a ∈ Rt
      · rw [grow_in hm] at ha; exact ha
      · rw [grow_out hm] at ha; exact S.exF a o ha
    · have hm : a ∉ Rt := fun z => by rw [(S.out a (a2 a z)).2] at ha; cases ha
      rw [grow_out hm]
      exact S.sep a o ha
    · have hm : r ∉ Rt := fun z => n2 r z hr
      rw [grow_out hm]
      exact S.out r (a1 r hr)
  · exact ⟨F, R, Ex.refl F, S⟩
end

/-! ### statements -/
inductive Os where
  | stuck
  | exn (x : Exn) (env : Env')
  | nx (env : Env')
  | brk (env : Env')
  | cnt (env : Env')
  | ret (t : T)
abbrev DenS := Env' → Os
def sb {α : Type} (o : O α) (env : Env') (k : α → Os) : Os := match o with
  | .stuck => .stuck
  | .exn x => .exn x env
  | .ok a => k a
@[simp] theorem sb_ok {α : Type} (a : α) (env : Env') (k : α → Os) : sb (.ok a) env k = k a := rfl
@[simp] theorem sb_exn {α : Type} (x : Exn) (env : Env') (k : α → Os) : sb (.exn x : O α) env k = .exn x env := rfl
@[simp] theorem sb_stuck {α : Type} (env : Env') (k : α → Os) : sb (.stuck : O α) env k = .stuck := rfl
/-- what the ends D must bear -/
def OutS (K : PySem.W.Frag) (C : Cn) (D : Ends) (F : Hp) : Os → Prop
  | .stuck => False
  | .exn x env => ∀ c a σ' F' H' R', Ex F F' → Stt K C.G C.F0 F' H' σ' env R' → ExnAt K F' x c a → C.E c a σ' H'
  | .nx env => ∀ σ' F' H' R', Ex F F' → Stt K C.G C.F0 F' H' σ' env R' → D.nx σ' H'
  | .brk env => ∀ σ' F' H' R', Ex F F' → Stt K C.G C.F0 F' H' σ' env R' → D.bk σ' H'
  | .cnt env => ∀ σ' F' H' R', Ex F F' → Stt K C.G C.F0 F' H' σ' env R' → D.ct σ' H'
  | .ret t => ∀ v F' H' Rn, Ex F F' → Ext C.F0 C.G F' H' → New K C.G F' H' t v Rn → D.rt v H'
theorem OutS.mono {K : PySem.W.Frag} {C : Cn} {D : Ends} {F F' : Hp} (e : Ex F F') {o : Os} (h : OutS K C D F o) : OutS K C D F' o := by
  cases o with
  | stuck => exact h
  | exn x env => exact fun c a σ' F2 H' R' e2 => h c a σ' F2 H' R' (e.trans e2)
  | nx env => exact fun σ' F2 H' R' e2 => h σ' F2 H' R' (e.trans e2)
  | brk env => exact fun σ' F2 H' R' e2 => h σ' F2 H' R' (e.trans e2)
  | cnt env => exact fun σ' F2 H' R' e2 => h σ' F2 H' R' (e.trans e2)
  | ret t => exact fun v F2 H' Rn e2 => h v F2 H' Rn (e.trans e2)
def tDenS (K : PySem.W.Frag) (C : Cn) (m : DenS) : TS := fun D σ H => ∃ F env Rg, Stt K C.G C.F0 F H σ env Rg ∧ OutS K C D F (m env)
structure DS (X : Cx) (C : Cn) (st : Stmt) (m : DenS) : Prop where
  ps : PS X st (tDenS X.K C m)
structure DSs (X : Cx) (C : Cn) (sts : List Stmt) (m : DenS) : Prop where
  pss : PSs X sts (tDenS X.K C m)
theorem _root_.L2.PS.imp {X : Cx} {e : Stmt} {t t' : TS} (h : PS X e t) (i : ∀ D σ H, t' D σ H → t D σ H) : PS X e t' := ⟨fun pins s σ H D I hw => h.run pins s σ H D I (i D σ H hw)⟩
theorem _root_.L2.PSs.imp {X : Cx} {e : List Stmt} {t t' : TS} (h : PSs X e t) (i : ∀ D σ H, t' D σ H → t D σ H) : PSs X e t' := ⟨fun pins s σ H D I hw => h.run pins s σ H D I (i D σ H hw)⟩
section
variable {K : PySem.W.Frag} {C : Cn} {F F' H H' : Hp} {σ : L2.St} {D : Ends} {env : Env'} {Rg : List Addr}
/-- an expression whose value is read, ahead of what a statement does -/
theorem den_sb {m : Den} {k : Rv → Os} (st : Stt K C.G C.F0 F H σ env Rg) (h : OutS K C D F (sb (m env) env k)) {R : VK}
    (hr : ∀ r v F' H', m env = .ok r → Ext F H F' H' → Stt K C.G C.F0 F' H' σ env Rg → RdV K C.G F' H' r v → OutS K C D F' (k r) → R v H') : tDen K C m σ H R := by
  refine ⟨F, env, Rg, st, ?_⟩
  cases hm : m env with
  | stuck => rw [hm] at h; exact h.elim
  | exn x => rw [hm] at h; exact fun c a F' H' e z => h c a σ F' H' Rg (e.ex st.exF) (st.ext e) z
  | ok r =>
    rw [hm] at h
    exact OutE.rd st.exF fun v F' H' e rd => hr r v F' H' hm e (st.ext e) rd (h.mono (e.ex st.exF))
/-- .. that is owned -/
theorem den_sbN {m : Den} {k : Rv → Os} (st : Stt K C.G C.F0 F H σ env Rg) (h : OutS K C D F (sb (m env) env k)) {R : VK}
    (hr : ∀ t v F' H' Rn, m env = .ok (.val t) → Ext F H F' H' → New K H F' H' t v Rn → OutS K C D F' (k (.val t)) → R v H')
    (hb : ∀ t v F' H', m env = .ok (.bor t) → Ext F H F' H' → Bor K C.G F' H' t v → OutS K C D F' (k (.bor t)) → R v H') : tDen K C m σ H R := by
  refine ⟨F, env, Rg, st, ?_⟩
  cases hm : m env with
  | stuck => rw [hm] at h; exact h.elim
  | exn x => rw [hm] at h; exact fun c a F' H' e z => h c a σ F' H' Rg (e.ex st.exF) (st.ext e) z
  | ok r =>
    rw [hm] at h
    cases r with
    | val t => exact fun v F' H' Rn e n => hr t v F' H' Rn hm e n (h.mono (e.ex st.exF))
    | bor t => exact fun v F' H' e n => hb t v F' H' hm e n (h.mono (e.ex st.exF))
/-- a test ahead of what a statement does -/
theorem tst_sb {m : Den} {k : Rv → Os} (st : Stt K C.G C.F0 F H σ env Rg) (h : OutS K C D F (sb (m env) env fun r => match r.rd.truth with | none => .stuck | some _ => k r)) {R : Bool → Hp → Prop}
    (hr : ∀ r b F' H', r.rd.truth = some b → Ext F H F' H' → Stt K C.G C.F0 F' H' σ env Rg → OutS K C D F' (k r) → R b H') : tTst K C m σ H R := by
  refine ⟨F, env, Rg, st, ?_⟩
  cases hm : m env with
  | stuck => rw [hm] at h; exact h.elim
  | exn x => rw [hm] at h; exact fun c a F' H' e z => h c a σ F' H' Rg (e.ex st.exF) (st.ext e) z
  | ok r =>
    rw [hm] at h
    cases hb : r.rd.truth with
    | none => simp only [sb_ok, hb] at h; exact h.elim
    | some b =>
      simp only [sb_ok, hb] at h
      exact ⟨b, hb, fun F' H' e => hr r b F' H' hb e (st.ext e) (h.mono (e.ex st.exF))⟩
theorem Stt.ret (S : Stt K C.G C.F0 F H σ env Rg) : Ext C.F0 C.G F H := ⟨S.exG, S.exF, S.sep⟩
end
section
variable {X : Cx} {C : Cn} {e a b c : Expr} {m ma mb mc : Den} {ms m1 m2 : DenS} {pos p : Pos} {st : Stmt} {sts rest : List Stmt}
def DenS.nil : DenS := fun env => .nx env
def DenS.seq (m1 m2 : DenS) : DenS := fun env => match m1 env with
  | .nx env' => m2 env'
  | o => o
theorem dss_nil : DSs X C [] DenS.nil := ⟨pss_nil.imp fun D σ H ⟨F, env, Rg, st, o⟩ => o σ F H Rg (Ex.refl F) st⟩
theorem seq_t {K : PySem.W.Frag} {D : Ends} {σ : L2.St} {H : Hp} (h : tDenS K C (DenS.seq m1 m2) D σ H) : tSeq (tDenS K C m1) (tDenS K C m2) D σ H := by
  obtain ⟨F, env, Rg, st, o⟩ := h
  refine ⟨F, env, Rg, st, ?_⟩
  unfold DenS.seq at o
  cases hm : m1 env with
  | nx env' =>
    rw [hm] at o
    exact fun σ' F' H' R' e st' => ⟨F', env', R', st', o.mono e⟩
  | _ => rw [hm] at o; exact o
theorem dss_cons (h1 : DS X C st m1) (h2 : DSs X C rest m2) : DSs X C (st :: rest) (DenS.seq m1 m2) := ⟨(pss_cons h1.ps h2.pss).imp fun _ _ _ h => seq_t h⟩
theorem dss_one (h1 : DS X C st m1) : DSs X C [st] m1 := ⟨pss_one h1.ps⟩
/-- a slot is frozen ahead of these -/
def DenS.frz (i : Nat) (m : DenS) : DenS := fun env => m (frzAt env i)
theorem dss_frz (i : Nat) (h : DSs X C sts ms) : DSs X C sts (DenS.frz i ms) := ⟨h.pss.imp fun D σ H ⟨F, env, Rg, st, o⟩ => by
  obtain ⟨F', R', e, st'⟩ := st.frzAt i
  exact ⟨F', _, R', st', o.mono e⟩⟩
def DenS.pass : DenS := fun env => .nx env
theorem ds_pass : DS X C (.Pass pos) DenS.pass := ⟨ps_pass.imp fun D σ H ⟨F, env, Rg, st, o⟩ => o σ F H Rg (Ex.refl F) st⟩
theorem ds_doc {x : Str} {j : Nat} : DS X C (.Expr (.Constant (.str x) j p) pos) DenS.pass := ⟨ps_doc.imp fun D σ H ⟨F, env, Rg, st, o⟩ => o σ F H Rg (Ex.refl F) st⟩
def DenS.brk : DenS := fun env => .brk env
theorem ds_brk : DS X C (.Break pos) DenS.brk := ⟨ps_break.imp fun D σ H ⟨F, env, Rg, st, o⟩ => o σ F H Rg (Ex.refl F) st⟩
def DenS.cnt : DenS := fun env => .cnt env
theorem ds_cnt : DS X C (.Continue pos) DenS.cnt := ⟨ps_continue.imp fun D σ H ⟨F, env, Rg, st, o⟩ => o σ F H Rg (Ex.refl F) st⟩
/-- an expression whose value is dropped -/
def DenS.expr (m : Den) : DenS := fun env => sb (m env) env fun _ => .nx env
theorem ds_expr (h : DE X C e m) (hs : swapsWith e none pos.line X.env = pure false := by rfl) : DS X C (.Expr e pos) (DenS.expr m) :=
  ⟨(ps_expr h.pe hs).imp fun D σ H ⟨F, env, Rg, st, o⟩ => den_sb st o fun r v F' H' hm e st' rd o' => o' σ F' H' Rg (Ex.refl F') st'⟩
/-- return e -/
def DenS.ret (m : Den) : DenS := fun env => sb (m env) env fun r => match r with
  | .val t => .ret t
  | .bor t => .ret t
theorem ds_ret (h : DE X C e m) : DS X C (.Return (some e) pos) (DenS.ret m) :=
  ⟨(ps_ret h.pe).imp fun D σ H ⟨F, env, Rg, st, o⟩ => den_sbN st o
    (fun t v F' H' Rn hm e n o' => o' v F' H' Rn (Ex.refl F') (st.ext e).ret ⟨n.own, n.nd, fun r hr => ⟨st.exG.none (n.out r hr).1, (n.out r hr).2⟩⟩)
    fun t v F' H' hm e b o' => by
      obtain ⟨Rb, b1, b2, b3⟩ := b
      exact o' v F' H' Rb (Ex.refl F') (st.ext e).ret ⟨b1, b2, fun r hr => ⟨(b3 r hr).2, (b3 r hr).1⟩⟩⟩
def DenS.retN : DenS := fun _ => .ret (.fz .non)
theorem ds_retN : DS X C (.Return none pos) DenS.retN := ⟨ps_retN.imp fun D σ H ⟨F, env, Rg, st, o⟩ => o .non F H [] (Ex.refl F) st.ret (New.fz rfl)⟩
/-- name = e -/
def DenS.asg (i : Nat) (m : Den) : DenS := fun env => sb (m env) env fun r => match r with
  | .val t => if i < env.length then .nx (env.set i (some t)) else .stuck
  | .bor _ => .stuck
theorem ds_asg {i : Nat} {x : Str} (h : DE X C e m) (hN : X.N.Nodup) (hi : X.N[i]? = some x) (hx : Loc X.env.scope x) (hs : swapsWith e (some (.Name x p)) pos.line X.env = pure false := by rfl)
    (hf : X.fn x = true ∨ X.env.scope.names.lookup x = some .local := by first | exact .inl rfl | exact .inr rfl | assumption) : DS X C (.Assign [.Name x p] e pos) (DenS.asg i m) :=
  ⟨(ps_set hN hi hx h.pe hs hf).imp fun D σ H ⟨F, env, Rg, st, o⟩ => den_sbN st o
    (fun t v F' H' Rn hm e n o' => by
      simp only at o'
      split at o'
      · rename_i hl
        obtain ⟨R', st'⟩ := st.set' e n hl
        exact o' _ F' H' R' (Ex.refl F') st'
      · exact o'.elim)
    fun t v F' H' hm e b o' => o'.elim⟩
/-- if -/
def DenS.ite (mc : Den) (m1 m2 : DenS) : DenS := fun env => sb (mc env) env fun r => match r.rd.truth with
  | some true => m1 env
  | some false => m2 env
  | none => .stuck
theorem ds_if (hc : DE X C c mc) (h1 : DSs X C sts m1) (h2 : DSs X C rest m2) : DS X C (.If c sts rest pos) (DenS.ite mc m1 m2) :=
  ⟨(ps_if hc.pt h1.pss h2.pss).imp fun D σ H ⟨F, env, Rg, st, o⟩ => by
    refine tst_sb (D := D) (k := fun r => if r.rd.truth = some true then m1 env else m2 env) st ?_ fun r b F' H' hb e st' o' => ?_
    · unfold DenS.ite at o
      cases hm : mc env with
      | stuck => rw [hm] at o; exact o
      | exn x => rw [hm] at o; exact o
      | ok r =>
        rw [hm] at o
        simp only [sb_ok] at o ⊢
        cases hb : r.rd.truth with
        | none => rw [hb] at o; exact o
        | some b =>
          rw [hb] at o
          cases b with
          | true => simp only [if_pos]; exact o
          | false => simp only [Option.some.injEq, Bool.false_eq_true, if_false]; exact o
    · simp only [hb] at o'
      cases b with
      | true => exact ⟨F', env, Rg, st', by simpa using o'⟩
      | false => exact ⟨F', env, Rg, st', by simpa using o'⟩⟩
end
end PV

set_option Elab.async false
set_option linter.all false
set_option maxRecDepth 100000
set_option maxHeartbeats 2000000
namespace PV
open PySem PySem.Spec PyProof.Rows L2
/-! ### targets -/
abbrev Bnd := D → Env' → Option Env'
abbrev Bnds := List D → Env' → Option Env'
def Bnd.name (i : Nat) : Bnd := fun d env => if i < env.length then some (env.set i (some (.fz d))) else none
def Bnd.tup (bs : Bnds) : Bnd := fun d env => match d with
  | .tup ds => bs ds env
  | .wtp ds => bs ds env
  | _ => none
def Bnds.nil : Bnds := fun ds env => match ds with
  | [] => some env
  | _ => none
def Bnds.cons (b : Bnd) (bs : Bnds) : Bnds := fun ds env => match ds with
  | d :: ds => (b d env).bind fun env => bs ds env
  | _ => none
/-- the slots sl alone have changed -/
def Off (sl : List Nat) (σ σ' : L2.St) : Prop := σ'.length = σ.length ∧ ∀ i, i ∉ sl → σ'[i]? = σ[i]?
theorem Off.refl {sl : List Nat} {σ : L2.St} : Off sl σ σ := ⟨rfl, fun _ _ => rfl⟩
theorem Off.trans {sl sl' : List Nat} {σ σ1 σ2 : L2.St} (a : Off sl σ σ1) (b : Off sl' σ1 σ2) : Off (sl ++ sl') σ σ2 :=
  ⟨b.1.trans a.1, fun i h => (b.2 i (fun z => h (by simp [z]))).trans (a.2 i (fun z => h (by simp [z])))⟩
def tBnd (K : PySem.W.Frag) (C : Cn) (b : Bnd) (sl : List Nat) : TG := fun v σ H Q => ∃ F env R d env', Stt K C.G C.F0 F H σ env R ∧ Is K F d v ∧ b d env = some env' ∧ ∀ σ' F' H' R', Ext F H F' H' → Stt K C.G C.F0 F' H' σ' env' R' → Off sl σ σ' → Q σ' H'
def tBnds (K : PySem.W.Frag) (C : Cn) (b : Bnds) (sl : List Nat) : TGs := fun vs σ H Q => ∃ F env R ds env', Stt K C.G C.F0 F H σ env R ∧ IsL K F ds vs ∧ b ds env = some env' ∧ ∀ σ' F' H' R', Ext F H F' H' → Stt K C.G C.F0 F' H' σ' env' R' → Off sl σ σ' → Q σ' H'
structure DG (X : Cx) (C : Cn) (tg : Expr) (b : Bnd) (sl : List Nat) : Prop where
  pg : PG X tg (tBnd X.K C b sl)
structure DGs (X : Cx) (C : Cn) (tgs : List Expr) (b : Bnds) (sl : List Nat) : Prop where
  pgs : PGs X tgs (tBnds X.K C b sl)
  len : ∀ ds env env', b ds env = some env' → ds.length = tgs.length
theorem _root_.L2.PG.imp {X : Cx} {e : Expr} {t t' : TG} (h : PG X e t) (i : ∀ v σ H Q, t' v σ H Q → t v σ H Q) : PG X e t' := ⟨fun pins s σ H v u Q I r hw => h.run pins s σ H v u Q I r (i v σ H Q hw)⟩
theorem _root_.L2.PGs.imp {X : Cx} {e : List Expr} {t t' : TGs} (h : PGs X e t) (i : ∀ v σ H Q, t' v σ H Q → t v σ H Q) : PGs X e t' := ⟨fun pins s σ H v u Q I r hw => h.run pins s σ H v u Q I r (i v σ H Q hw)⟩
section
variable {X : Cx} {C : Cn} {e a c tg iter : Expr} {m ma mb mc : Den} {ms m1 m2 body : DenS} {pos p : Pos} {st : Stmt} {sts rest : List Stmt} {b : Bnd} {bs : Bnds} {tgs es : List Expr} {sl sl' : List Nat}
theorem dg_name {i : Nat} {x : Str} (hN : X.N.Nodup) (hi : X.N[i]? = some x) (hx : Loc X.env.scope x) (hf : X.fn x = true ∨ X.env.scope.names.lookup x = some .local := by first | exact .inl rfl | exact .inr rfl | assumption) : DG X C (.Name x p) (Bnd.name i) [i] :=
  ⟨(pg_name hN hi hx hf).imp fun v σ H Q ⟨F, env, R, d, env', st, hd, hb, q⟩ => by
    unfold Bnd.name at hb
    obtain ⟨hl, rfl⟩ := show i < env.length ∧ env.set i (some (.fz d)) = env' by
      split at hb
      · exact ⟨by assumption, Option.some.inj hb⟩
      · cases hb
    obtain ⟨R', st'⟩ := st.setFz hd hl
    exact q _ F H R' (Ext.refl st.exF) st' ⟨by simp, fun j hj => by rw [List.getElem?_set_ne (fun z => hj (by simp [z]))]⟩⟩
theorem dgs_nil : DGs X C [] Bnds.nil [] := ⟨pgs_nil.imp fun vs σ H Q ⟨F, env, R, ds, env', st, hd, hb, q⟩ => by
    cases ds with
    | nil =>
      cases vs with
      | nil => cases hb; exact ⟨rfl, q σ F H R (Ext.refl st.exF) st Off.refl⟩
      | cons _ _ => exact hd.elim
    | cons _ _ => exact (nomatch hb), fun ds env env' h => by
    cases ds with
    | nil => rfl
    | cons _ _ => cases h⟩
theorem dgs_cons (h1 : DG X C e b sl) (h2 : DGs X C es bs sl') (hs : (assignEach (e :: es) X.env).map (·.2) = assign e X.env :: (assignEach es X.env).map (·.2) := by rfl) : DGs X C (e :: es) (Bnds.cons b bs) (sl ++ sl') :=
  ⟨(pgs_cons h1.pg h2.pgs hs).imp fun vs σ H Q ⟨F, env, R, ds, env', st, hd, hb, q⟩ => by
    cases ds with
    | nil => cases hb
    | cons d ds =>
      cases vs with
      | nil => exact hd.elim
      | cons v vs =>
        simp only [Bnds.cons, Option.bind_eq_some_iff] at hb
        obtain ⟨env1, hb1, hb2⟩ := hb
        refine ⟨v, vs, rfl, F, env, R, d, env1, st, hd.1, hb1, fun σ1 F1 H1 R1 e1 st1 o1 => ?_⟩
        exact ⟨F1, env1, R1, ds, env', st1, IsL.mono (e1.ex st.exF) _ _ hd.2, hb2, fun σ2 F2 H2 R2 e2 st2 o2 => q σ2 F2 H2 R2 (e1.trans e2) st2 (o1.trans o2)⟩, fun ds env env' h => by
    cases ds with
    | nil => cases h
    | cons d ds =>
      simp only [Bnds.cons, Option.bind_eq_some_iff] at h
      obtain ⟨env1, hb1, hb2⟩ := h
      exact congrArg (· + 1) (h2.len _ _ _ hb2)⟩
theorem dg_tup {k : Nat} (hc : X.calm = true) (h : DGs X C es bs sl) (hn : (assignEach es X.env).length = es.length := by rfl) (hst : (assignEach es X.env).findIdx? (·.1) = none := by rfl) : DG X C (.Tuple es k p) (Bnd.tup bs) sl :=
  ⟨(pg_tup hc h.pgs hn hst).imp fun v σ H Q ⟨F, env, R, d, env', st, hd, hb, q⟩ => by
    cases d with
    | tup ds =>
      obtain ⟨a, vs, rfl, h1, h2⟩ := hd
      exact ⟨a, vs, rfl, (st.exF.sqp h1).sqt, by rw [← h2.len]; exact h.len _ _ _ hb, F, env, R, ds, env', st, h2, hb, q⟩
    | wtp ds =>
      obtain ⟨a, vs, rfl, h1, h2⟩ := hd
      exact ⟨a, vs, rfl, st.exF.sqt h1, by rw [← h2.len]; exact h.len _ _ _ hb, F, env, R, ds, env', st, h2, hb, q⟩
    | _ => cases hb⟩
/-- target = e -/
def DenS.asgT (b : Bnd) (m : Den) : DenS := fun env => sb (m env) env fun r => match r with
  | .val t => (match b t.frz env with
    | some env' => .nx env'
    | none => .stuck)
  | .bor _ => .stuck
theorem ds_asgT (h : DE X C e m) (hg : DG X C tg b sl) (hs : swapsWithSole [tg] e pos.line X.env = pure false := by rfl) (hw : swappedStores [tg] e X.env = pure none := by rfl)
    (h1 : (assignEach [tg] X.env).map (·.2) = [assign tg X.env] := by rfl) : DS X C (.Assign [tg] e pos) (DenS.asgT b m) :=
  ⟨(ps_asg h.pe hg.pg hs hw h1).imp fun D σ H ⟨F, env, Rg, st, o⟩ => den_sbN st o
    (fun t v F' H' Rn hm e n o' => by
      simp only at o'
      obtain ⟨F2, e2, x2, i2⟩ := n.freeze e
      cases hb : b t.frz env with
      | none => rw [hb] at o'; exact o'.elim
      | some env' =>
        rw [hb] at o'
        exact ⟨F2, env, Rg, t.frz, env', st.ext e2, i2, hb, fun σ' F3 H3 R' e3 st' _ => o' σ' F3 H3 R' (x2.trans (e3.ex e2.fz)) st'⟩)
    fun t v F' H' hm e b o' => o'.elim⟩

/-! ### what is walked -/
structure WalkD (K : PySem.W.Frag) (Hb F' : Hp) (J : It) (ds : List D) : Prop where
  len : ds.length ≤ sizeLine
  go : ∀ i H1, i < ds.length → Ex Hb H1 → J.go i H1
  stop : ∀ H1, Ex Hb H1 → J.stop ds.length H1
  yld : ∀ i F1 H1 x H2, i < ds.length → Ex Hb H1 → Ex F' F1 → Ex F1 H1 → J.yld i H1 x H2 → ∃ F2 d, ds[i]? = some d ∧ Ext F1 H1 F2 H2 ∧ Is K F2 d x
abbrev DenI := Env' → O (List D × Bool)
def OutI (K : PySem.W.Frag) (C : Cn) (F H : Hp) (σ : L2.St) (R : It → Hp → Prop) : O (List D × Bool) → Prop
  | .stuck => False
  | .exn x => ∀ c a F' H', Ext F H F' H' → ExnAt K F' x c a → C.E c a σ H'
  | .ok (ds, cl) => ∀ J F' H', Ext F H F' H' → WalkD K (if cl then F' else H') F' J ds → R J H'
structure DI (X : Cx) (C : Cn) (tg iter : Expr) (m : DenI) : Prop where
  pi : PI X tg iter (fun σ H R => ∃ F env Rg, Stt X.K C.G C.F0 F H σ env Rg ∧ OutI X.K C F H σ R (m env))
theorem _root_.L2.PI.imp {X : Cx} {tg e : Expr} {t t' : TI} (h : PI X tg e t) (i : ∀ σ H Q, t' σ H Q → t σ H Q) : PI X tg e t' := ⟨fun pins s σ H Q I hw => h.run pins s σ H Q I (i σ H Q hw)⟩
/-- the turns -/
def forL (b : Bnd) (body : DenS) : List D → Env' → Os
  | [], env => .nx env
  | d :: ds, env => match b d env with
    | none => .stuck
    | some env1 => match body env1 with
      | .nx e => forL b body ds e
      | .cnt e => forL b body ds e
      | .brk e => .nx e
      | o => o
def DenS.for (src : DenI) (b : Bnd) (body : DenS) : DenS := fun env => sb (src env) env fun r => match r with
  | (ds, true) => forL b body ds env
  | _ => .stuck
theorem ds_for (hp : PassesOwn (model X.prog X.w) X.A X.env X.xe) (hc : X.calm = true) {src : DenI} (hi : DI X C tg iter src) (hg : DG X C tg b sl) (hb : DSs X C sts body) (hs : ∀ x, foldedSetIterable iter X.env x = pure x := by intro _; rfl) :
    DS X C (.For tg iter sts [] pos) (DenS.for src b body) := by
  refine ⟨(ps_for hp hc hi.pi hg.pg hb.pss hs).imp fun D σ H ⟨F, env, Rg, st, o⟩ => ⟨F, env, Rg, st, ?_⟩⟩
  unfold DenS.for at o
  cases hm : src env with
  | stuck => rw [hm] at o; exact o
  | exn x => rw [hm] at o; exact fun c a F' H' e z => o c a σ F' H' Rg (e.ex st.exF) (st.ext e) z
  | ok r =>
    obtain ⟨ds, cl⟩ := r
    rw [hm] at o
    simp only [sb_ok] at o
    cases cl with
    | false => exact o.elim
    | true =>
      simp only at o
      intro J F' H' e w
      simp only [if_true] at w
      refine ⟨fun i m σ1 H1 => m = ds.length - i ∧ i ≤ ds.length ∧ ∃ F1 env1 R1, Ex F' F1 ∧ Stt X.K C.G C.F0 F1 H1 σ1 env1 R1 ∧ OutS X.K C D F1 (forL b body (ds.drop i) env1),
        ⟨ds.length, by simp, Nat.zero_le _, F', env, Rg, Ex.refl _, st.ext e, by rw [List.drop_zero]; exact o.mono (e.ex st.exF)⟩, ?_⟩
      rintro i m σ1 H1 ⟨rfl, hi, F1, env1, R1, x1, st1, o1⟩
      by_cases hlt : i < ds.length
      · refine .inr ⟨w.go i H1 hlt (x1.trans st1.exF), fun σ2 H2 => ∃ F2 env2 R2, Ex F' F2 ∧ Stt X.K C.G C.F0 F2 H2 σ2 env2 R2 ∧ OutS X.K C D F2 (forL b body (ds.drop (i + 1)) env2),
          fun σ2 H2 ⟨F2, env2, R2, a1, a2, a3⟩ => ⟨ds.length - (i + 1), by omega, rfl, hlt, F2, env2, R2, a1, a2, a3⟩, fun x H2 y => ?_⟩
        obtain ⟨F2, d, hd, e2, i2⟩ := w.yld i F1 H1 x H2 hlt (x1.trans st1.exF) x1 st1.exF y
        have hdr : ds.drop i = d :: ds.drop (i + 1) := by
          obtain ⟨h1, h2⟩ := List.getElem?_eq_some_iff.mp hd
          rw [List.drop_eq_getElem_cons h1, h2]
        rw [hdr] at o1
        unfold forL at o1
        cases hb1 : b d env1 with
        | none => rw [hb1] at o1; exact o1.elim
        | some env2 =>
          rw [hb1] at o1
          simp only at o1
          refine ⟨F2, env1, R1, d, env2, st1.ext e2, i2, hb1, fun σ3 F3 H3 R3 e3 st3 _ => ⟨F3, env2, R3, st3, ?_⟩⟩
          have x3 : Ex F1 F3 := (e2.ex st1.exF).trans (e3.ex e2.fz)
          cases ho : body env2 with
          | stuck => rw [ho] at o1; exact o1
          | exn x en => rw [ho] at o1; exact o1.mono x3
          | nx en =>
            rw [ho] at o1
            exact fun σ4 F4 H4 R4 e4 st4 => ⟨F4, en, R4, (x1.trans x3).trans e4, st4, o1.mono (x3.trans e4)⟩
          | cnt en =>
            rw [ho] at o1
            exact fun σ4 F4 H4 R4 e4 st4 => ⟨F4, en, R4, (x1.trans x3).trans e4, st4, o1.mono (x3.trans e4)⟩
          | brk en =>
            rw [ho] at o1
            exact fun σ4 F4 H4 R4 e4 st4 => o1 σ4 F4 H4 R4 (x3.trans e4) st4
          | ret t =>
            rw [ho] at o1
            exact fun v F4 H4 Rn e4 => o1 v F4 H4 Rn (x3.trans e4)
      · have e0 : i = ds.length := by omega
        subst e0
        rw [List.drop_length] at o1
        exact .inl ⟨w.stop H1 (x1.trans st1.exF), o1 σ1 F1 H1 R1 (Ex.refl _) st1⟩

/-! ### while -/
def whileF (mc : Den) (body : DenS) : Nat → Env' → Os
  | 0, _ => .stuck
  | n + 1, env => sb (mc env) env fun r => match r.rd.truth with
    | some true => (match body env with
      | .nx e => whileF mc body n e
      | .cnt e => whileF mc body n e
      | .brk e => .nx e
      | o => o)
    | some false => .nx env
    | none => .stuck
def DenS.while (n : Nat) (mc : Den) (body : DenS) : DenS := fun env => whileF mc body n env
theorem ds_while (n : Nat) (hp : PassesOwn (model X.prog X.w) X.A X.env X.xe) (hc : DE X C c mc) (hb : DSs X C sts body) : DS X C (.While c sts [] pos) (DenS.while n mc body) := by
  refine ⟨(ps_while hp hc.pt hb.pss).imp fun D σ H ⟨F, env, Rg, st, o⟩ => ?_⟩
  refine ⟨fun m σ1 H1 => ∃ F1 env1 R1, Stt X.K C.G C.F0 F1 H1 σ1 env1 R1 ∧ OutS X.K C D F1 (whileF mc body m env1), ⟨n, F, env, Rg, st, o⟩, ?_⟩
  rintro m σ1 H1 ⟨F1, env1, R1, st1, o1⟩
  cases m with
  | zero => exact o1.elim
  | succ m =>
    unfold whileF at o1
    refine tst_sb (D := D) (k := fun r => if r.rd.truth = some true then (match body env1 with
      | .nx e => whileF mc body m e
      | .cnt e => whileF mc body m e
      | .brk e => .nx e
      | o => o) else .nx env1) st1 ?_ fun r b F' H' hb1 e st' o' => ?_
    · cases hm : mc env1 with
      | stuck => rw [hm] at o1; exact o1
      | exn x => rw [hm] at o1; exact o1
      | ok r =>
        rw [hm] at o1
        simp only [sb_ok] at o1 ⊢
        cases hb : r.rd.truth with
        | none => rw [hb] at o1; exact o1
        | some b =>
          rw [hb] at o1
          cases b with
          | true => simp only [if_pos]; exact o1
          | false => simp only [Option.some.injEq, Bool.false_eq_true, if_false]; exact o1
    · cases b with
      | false =>
        rw [if_neg (by rw [hb1]; simp)] at o'
        rw [if_neg (by simp)]
        exact o' σ1 F' H' R1 (Ex.refl _) st'
      | true =>
        rw [if_pos hb1] at o'
        rw [if_pos rfl]
        refine ⟨fun σ2 H2 => ∃ F2 env2 R2, Stt X.K C.G C.F0 F2 H2 σ2 env2 R2 ∧ OutS X.K C D F2 (whileF mc body m env2), fun σ2 H2 h => ⟨m, Nat.lt_succ_self m, h⟩, F', env1, R1, st', ?_⟩
        cases ho : body env1 with
        | stuck => rw [ho] at o'; exact o'
        | exn x en => rw [ho] at o'; exact o'
        | nx en =>
          rw [ho] at o'
          exact fun σ4 F4 H4 R4 e4 st4 => ⟨F4, en, R4, st4, o'.mono e4⟩
        | cnt en =>
          rw [ho] at o'
          exact fun σ4 F4 H4 R4 e4 st4 => ⟨F4, en, R4, st4, o'.mono e4⟩
        | brk en => rw [ho] at o'; exact o'
        | ret t => rw [ho] at o'; exact o'
end
end PV

set_option Elab.async false
set_option linter.all false
set_option maxRecDepth 100000
set_option maxHeartbeats 2000000
namespace PV
open PySem PySem.Spec PyProof.Rows L2

/-! ### a list or a tuple -/
def SqK (K : PySem.W.Frag) (k : Bool) (H : Hp) (a : Addr) (xs : List V) : Prop := if k then SqL K H a xs else SqT K H a xs
def IterK (k : Bool) (h : Heap) (it a : Addr) (i : Nat) : Prop := if k then h.IsListIter it a i else h.IsTupleIter it a i
def SeqK (k : Bool) (h : Heap) (a : Addr) (its : Array Value) : Prop := if k then h.IsList a its else h.IsTuple a its
theorem IterK.obj {k : Bool} {h : Heap} {it a : Addr} {i : Nat} (x : IterK k h it a i) : ∃ o, h.get? it = some o ∧ ∀ v, o.data ≠ .cell v := by
  cases k with
  | true =>
    obtain ⟨o, e, _, d⟩ : h.IsListIter it a i := x
    exact ⟨o, e, fun v q => by rw [d] at q; cases q⟩
  | false =>
    obtain ⟨o, e, _, d⟩ : h.IsTupleIter it a i := x
    exact ⟨o, e, fun v q => by rw [d] at q; cases q⟩
theorem IterK.at {k : Bool} {h h' : Heap} {it a : Addr} {i : Nat} (x : IterK k h it a i) (e : ∀ o, h.get? it = some o → h'.get? it = some o) : IterK k h' it a i := by
  cases k with
  | true => exact Heap.IsListIter.at (show h.IsListIter it a i from x) e
  | false => exact Heap.IsTupleIter.at (show h.IsTupleIter it a i from x) e
theorem Draws.seqK {prog : Program} {w : World} {A : Around} (hh : A.handled = none) (k : Bool) (it l : Addr) (hne : l ≠ it) (items : Array Value) :
    Draws prog w A it [it, l] items.size (fun i v => items[i]? = some v) (fun i h => IterK k h it l i ∧ SeqK k h l items) := by
  cases k with
  | true => exact Draws.list hh it l hne items
  | false => exact Draws.tuple hh it l hne items
section
variable {X : Cx} {pins : List (Addr × Obj)} {σ : L2.St} {H : Hp} {s : Shared}
theorem Inv.seqK {k : Bool} {a : Addr} {xs : List V} (I : Inv X pins σ H s) (h : SqK X.K k H a xs) : ∃ its : List Value, Vals xs its ∧ SeqK k s.heap a its.toArray ∧ xs.length ≤ sizeLine ∧ a < s.heap.objs.size := by
  cases k with
  | true =>
    obtain ⟨its, r, p, z⟩ := I.list (show SqL X.K H a xs from h)
    exact ⟨its, r, p.isList, z, p.lt⟩
  | false =>
    obtain ⟨its, r, p, z⟩ := I.tuple (show SqT X.K H a xs from h)
    obtain ⟨o, ho, _⟩ := id p
    exact ⟨its, r, p, z, Heap.lt_size ho⟩
theorem SqK.mono {K : PySem.W.Frag} {k : Bool} {H H' : Hp} {a : Addr} {xs : List V} (e : Ex H H') (h : SqK K k H a xs) : SqK K k H' a xs := by
  cases k with
  | true => exact e.sql h
  | false => exact e.sqt h
end

/-! ### zip of two -/
def Itm (K : PySem.W.Frag) (k1 k2 : Bool) (a b : Addr) (xs ys : List V) : It :=
  ⟨fun i H => i < min xs.length ys.length ∧ SqK K k1 H a xs ∧ SqK K k2 H b ys,
   fun i H v H' => ∃ T x y, v = .ref T ∧ H T = none ∧ H' = upd H T (.tup [x, y]) ∧ xs[i]? = some x ∧ ys[i]? = some y,
   fun i H => i = min xs.length ys.length ∧ SqK K k1 H a xs ∧ SqK K k2 H b ys⟩
theorem zipSep {z TI TO i1 i2 a b : Addr} (D : ZipApart z TI TO i1 i2 a b) (h2 : b ≠ i1) (h3 : b ≠ i2) (h4 : b ≠ z) (h5 : b ≠ TO) : ZipSep2 z TI TO i1 i2 [i1, a] [i2, b] := by
  refine ⟨D.TIz, D.TOz, D.TITO, D.TIi1, by simp, ?_, ?_, D.TIi2, by simp, ?_, ?_, ?_, ?_⟩
  · intro h
    rcases List.mem_cons.mp h with h | h
    · exact D.i1z h.symm
    · exact D.l1z (List.mem_singleton.mp h).symm
  · intro h
    rcases List.mem_cons.mp h with h | h
    · exact D.TOi1 h
    · exact D.l1TO (List.mem_singleton.mp h).symm
  · intro h
    rcases List.mem_cons.mp h with h | h
    · exact D.i2z h.symm
    · exact h4 (List.mem_singleton.mp h).symm
  · intro h
    rcases List.mem_cons.mp h with h | h
    · exact D.TOi2 h
    · exact h5 (List.mem_singleton.mp h).symm
  · intro h
    rcases List.mem_cons.mp h with h | h
    · exact D.i12 h
    · exact h2 (List.mem_singleton.mp h).symm
  · intro h
    rcases List.mem_cons.mp h with h | h
    · exact D.i12 h.symm
    · exact D.l1i2 (List.mem_singleton.mp h).symm
theorem turn_zipM {P : Program} {w : World} {K : PySem.W.Frag} {elts : List Expr} {kk : Nat} {tpos : Pos} {k1 k2 : Bool} {a b z TI TO i1 i2 : Addr} {xs ys : List V} (D : ZipSep2 z TI TO i1 i2 [i1, a] [i2, b]) (hai : a ≠ i1) (hbi : b ≠ i2) :
    Turn P w K (.Tuple elts kk tpos) (Itm K k1 k2 a b xs ys) [z, TI, TO, i1, i2] z (fun i h => IsZip h z TI TO .none ∧ IsTupOf2 h TI (.ref i1) (.ref i2) ∧ (∃ x y, IsTupOf2 h TO x y) ∧ IterK k1 h i1 a i ∧ IterK k2 h i2 b i) where
  mem := by simp
  obj := fun i h st c hc => by
    obtain ⟨hz, hTI, ⟨x, y, hTO⟩, h1, h2⟩ := st
    have e' : c = z ∨ c = TI ∨ c = TO ∨ c = i1 ∨ c = i2 := by simpa using hc
    rcases e' with q | q | q | q | q
    · rw [q]; exact ⟨_, hz, fun v q => nomatch q⟩
    · rw [q]; exact ⟨_, hTI, fun v q => nomatch q⟩
    · rw [q]; exact ⟨_, hTO, fun v q => nomatch q⟩
    · rw [q]; exact h1.obj
    · rw [q]; exact h2.obj
  keep := fun i h h' st k => by
    obtain ⟨hz, hTI, ⟨x, y, hTO⟩, h1, h2⟩ := st
    exact ⟨k z (by simp) _ hz, k TI (by simp) _ hTI, ⟨x, y, k TO (by simp) _ hTO⟩, h1.at fun o q => k i1 (by simp) o q, h2.at fun o q => k i2 (by simp) o q⟩
  item := by
    intro X hP hw hK hc i pins s σ H E I hf st hg
    subst hP hw hK
    obtain ⟨hz, hTI, hTO, h1, h2⟩ := st
    obtain ⟨hi, hqx, hqy⟩ := hg
    obtain ⟨its, rv, p, _, hla⟩ := Inv.seqK I hqx
    obtain ⟨its2, rv2, p2, _, hlb⟩ := Inv.seqK I hqy
    have l1 := rv.length
    have l2 := rv2.length
    have dr1 := Draws.seqK (prog := X.prog) (w := X.w) (A := X.A.in1) (I.ok.hd hc) k1 i1 a hai its.toArray
    have dr2 := Draws.seqK (prog := X.prog) (w := X.w) (A := X.A.in1) (I.ok.hd hc) k2 i2 b hbi its2.toArray
    have hn : i < min its.toArray.size its2.toArray.size := by simp only [List.size_toArray]; omega
    refine (GoesN.zip2 (elts := elts) (x1 := kk) (pos := tpos) D dr1 dr2).goes i s _ E hn ⟨hz, hTI, hTO, ⟨h1, p⟩, ⟨h2, p2⟩⟩ fun v h' tk hY st' hk htk => ?_
    obtain ⟨T, u, u2, rfl, hT, hu, hu2, hIT⟩ := hY
    obtain ⟨z', hTI', hTO', ⟨h1', _⟩, ⟨h2', _⟩⟩ := st'
    have hx : xs[i]? = some xs[i] := List.getElem?_eq_getElem (by omega)
    have hy : ys[i]? = some ys[i] := List.getElem?_eq_getElem (by omega)
    obtain ⟨v1, e1, r1⟩ := rv.get hx
    obtain ⟨v2, e2, r2⟩ := rv2.get hy
    have ev1 : v1 = u := by
      have q : its.toArray[i]? = some v1 := by simpa using e1
      rw [hu] at q
      exact (Option.some.inj q).symm
    have ev2 : v2 = u2 := by
      have q : its2.toArray[i]? = some v2 := by simpa using e2
      rw [hu2] at q
      exact (Option.some.inj q).symm
    subst ev1 ev2
    have new : ObjOk X.prog X.w (upd H T (.tup [xs[i], ys[i]])) h' T (.tup [xs[i], ys[i]]) :=
      ⟨by show 2 ≤ sizeLine; decide, [v1, v2], .cons r1 (.cons r2 .nil), hIT⟩
    have I1 : Inv X pins σ (upd H T (.tup [xs[i], ys[i]])) { s with heap := h', toks := tk } :=
      I.turnedNew (t' := tk) (ch := [z, TI, TO, i1, i2]) (fun c o hb q => hk c o (fun q' => hb (by
        simp only [List.mem_cons, List.not_mem_nil, or_false] at q' ⊢
        rcases q' with q' | q' | q' | q' <;> simp [q'])) q) hf hT new
    refine ⟨.ref T, _, I1, rfl, ⟨T, _, _, rfl, I.hok.fresh hT, rfl, hx, hy⟩, ⟨z', hTI', hTO', h1', h2'⟩, fun c hcm => ?_⟩
    have hlt : c < s.heap.objs.size := by
      have e' : c = z ∨ c = TI ∨ c = TO ∨ c = i1 ∨ c = i2 := by simpa using hcm
      rcases e' with q | q | q | q | q
      · rw [q]; exact Heap.lt_size hz
      · rw [q]; exact Heap.lt_size hTI
      · rw [q]; obtain ⟨_, _, e⟩ := hTO; exact Heap.lt_size e
      · rw [q]; obtain ⟨_, e, _⟩ := h1.obj; exact Heap.lt_size e
      · rw [q]; obtain ⟨_, e, _⟩ := h2.obj; exact Heap.lt_size e
    rw [upd_ne (Nat.ne_of_lt (Nat.lt_of_lt_of_le hlt hT))]
    exact (hf c hcm).1
  done := by
    intro X hP hw hK hc i pins s σ H E I hf st hg
    subst hP hw hK
    obtain ⟨hz, hTI, hTO, h1, h2⟩ := st
    obtain ⟨hi, hqx, hqy⟩ := hg
    obtain ⟨its, rv, p, _, hla⟩ := Inv.seqK I hqx
    obtain ⟨its2, rv2, p2, _, hlb⟩ := Inv.seqK I hqy
    have l1 := rv.length
    have l2 := rv2.length
    have dr1 := Draws.seqK (prog := X.prog) (w := X.w) (A := X.A.in1) (I.ok.hd hc) k1 i1 a hai its.toArray
    have dr2 := Draws.seqK (prog := X.prog) (w := X.w) (A := X.A.in1) (I.ok.hd hc) k2 i2 b hbi its2.toArray
    have hn : i = min its.toArray.size its2.toArray.size := by simp only [List.size_toArray]; omega
    subst hn
    refine (GoesN.zip2 (elts := elts) (x1 := kk) (pos := tpos) D dr1 dr2).stops s _ E ⟨hz, hTI, hTO, ⟨h1, p⟩, ⟨h2, p2⟩⟩ fun h' tk hk htk => ?_
    exact I.turnedL (t' := tk) (ch := [z, TI, TO, i1, i2]) (fun c o hb q => hk c o (fun q' => hb (by
        simp only [List.mem_cons, List.not_mem_nil, or_false] at q' ⊢
        rcases q' with q' | q' | q' | q' <;> simp [q'])) q) hf
  self := fun A i s Q E st h => wpAny_pyIter_zip st.1 h

/-! ### sources -/
def unfz : List T → Option (List D)
  | [] => some []
  | .fz d :: ts => (unfz ts).map fun ds => d :: ds
  | _ => none
@[simp] theorem unfz_map (ds : List D) : unfz (ds.map .fz) = some ds := by
  induction ds with
  | nil => rfl
  | cons d ds ih => simp [unfz, ih]
@[simp] theorem unfz_map' {α : Type} (f : α → D) (xs : List α) : unfz (xs.map fun x => .fz (f x)) = some (xs.map f) := by
  induction xs with
  | nil => rfl
  | cons d ds ih => simp [unfz, ih]
/-- a list's or tuple's items: is it a list, the items, is it clean -/
def seqOf : Rv → Option (Bool × List D × Bool)
  | .val t => (match t.frz with
    | .lst xs => some (true, xs, true)
    | .tup xs => some (false, xs, true)
    | _ => none)
  | .bor (.lst ts) => (unfz ts).map fun ds => (true, ds, false)
  | _ => none
section
variable {K : PySem.W.Frag} {G F F' H H' : Hp}
theorem OwnL.unfz : ∀ {ts : List T} {vs : List V} {R : List Addr} {ds : List D}, OwnL K F H ts vs R → PV.unfz ts = some ds → IsL K F ds vs
  | [], [], _, _, _, e => by cases e; trivial
  | [], _ :: _, _, _, h, _ => h.elim
  | _ :: _, [], _, _, h, _ => h.elim
  | t :: ts, v :: vs, R, ds, h, e => by
    obtain ⟨R1, R2, rfl, h1, h2⟩ := h
    cases t with
    | fz d =>
      simp only [PV.unfz, Option.map_eq_some_iff] at e
      obtain ⟨ds', e1, rfl⟩ := e
      exact ⟨h1.2, OwnL.unfz h2 e1⟩
    | lst _ => cases e
    | dic _ _ => cases e
    | ins _ _ _ => cases e
theorem seqOf_ok {r : Rv} {v : V} {k cl : Bool} {ds : List D} (x : Ex F H) (h : RdV K G F H r v) (e : seqOf r = some (k, ds, cl)) : ∃ a vs, v = .ref a ∧ IsL K F ds vs ∧ SqK K k (if cl then F else H) a vs := by
  cases r with
  | val t =>
    have h : Is K F t.frz v := h
    unfold seqOf at e
    simp only at e
    generalize t.frz = d at h e
    cases d with
    | lst xs => cases e; obtain ⟨a, vs, rfl, h1, h2⟩ := h; exact ⟨a, vs, rfl, h2, SqL.of h1⟩
    | tup xs => cases e; obtain ⟨a, vs, rfl, h1, h2⟩ := h; exact ⟨a, vs, rfl, h2, h1.sqt⟩
    | _ => cases e
  | bor t =>
    obtain ⟨Rb, h, _⟩ : Bor K G F H t v := h
    cases t with
    | lst ts =>
      simp only [seqOf, Option.map_eq_some_iff] at e
      obtain ⟨ds', e1, e2⟩ := e
      cases e2
      obtain ⟨a, vs, R', rfl, h1, rfl, h2⟩ := h
      exact ⟨a, vs, rfl, h2.unfz e1, SqL.of h1⟩
    | _ => cases e
theorem base_ex {cl : Bool} (x : Ex F H) : Ex (if cl then F else H) H := by
  cases cl with
  | true => exact x
  | false => exact Ex.refl H
/-- a list or a tuple walked -/
def Itk1 (K : PySem.W.Frag) (k : Bool) (a : Addr) : It := if k then Itl K a else Itt K a
theorem walk1 {k : Bool} {Hb : Hp} {a : Addr} {vs : List V} {ds : List D} (hz : vs.length ≤ sizeLine) (hs : SqK K k Hb a vs) (hd : IsL K F ds vs) : WalkD K Hb F (Itk1 K k a) ds := by
  have hl := hd.len
  cases k with
  | true =>
    have w := walk_list (K := K) (a := a) (xs := vs)
    refine ⟨by omega, fun i H1 hi x => w.goes i H1 (by omega) (x.sql hs), fun H1 x => by rw [hl]; exact w.stops H1 (x.sql hs), fun i F1 H1 y H2 hi x x1 x2 hy => ?_⟩
    obtain ⟨rfl, hv⟩ := w.yields i H1 y H2 (by omega) (x.sql hs) hy
    obtain ⟨v, h1, h2⟩ := hd.get (List.getElem?_eq_getElem hi)
    rw [hv] at h1
    cases h1
    exact ⟨F1, _, List.getElem?_eq_getElem hi, Ext.refl x2, h2.mono x1 _ _⟩
  | false =>
    have w := walk_tup (K := K) (a := a) (xs := vs)
    refine ⟨by omega, fun i H1 hi x => w.goes i H1 (by omega) (x.sqt hs), fun H1 x => by rw [hl]; exact w.stops H1 (x.sqt hs), fun i F1 H1 y H2 hi x x1 x2 hy => ?_⟩
    obtain ⟨rfl, hv⟩ := w.yields i H1 y H2 (by omega) (x.sqt hs) hy
    obtain ⟨v, h1, h2⟩ := hd.get (List.getElem?_eq_getElem hi)
    rw [hv] at h1
    cases h1
    exact ⟨F1, _, List.getElem?_eq_getElem hi, Ext.refl x2, h2.mono x1 _ _⟩
theorem walkS {Hb : Hp} {s : List Nat} (ok : OkS s) : WalkD K Hb F (Its (S s)) (s.map fun c => .str [c]) := by
  have w := walk_str (z := S s)
  have hz : (S s).cps.size = s.length := by simp [S]
  refine ⟨by rw [List.length_map, sizeLine_eq]; exact ok.2, fun i H1 hi x => w.goes i H1 (by rw [hz]; simpa using hi) trivial, fun H1 x => by
    have := w.stops H1 trivial
    rw [hz] at this
    simpa using this, fun i F1 H1 y H2 hi x x1 x2 hy => ?_⟩
  have hi' : i < s.length := by simpa using hi
  obtain ⟨rfl, c, hc, rfl⟩ := w.yields i H1 y H2 (by rw [hz]; exact hi') trivial hy
  have hc' : s[i]? = some c := by simpa [S] using hc
  refine ⟨F1, .str [c], by rw [List.getElem?_map, hc']; rfl, Ext.refl x2, rfl, fun c' h => ?_, by simp⟩
  rw [List.mem_singleton.mp h]
  exact ok.1 c (List.mem_of_getElem? hc')
theorem walkR {Hb : Hp} {lo : Int} {n : Nat} (hn : n ≤ 16777216) : WalkD K Hb F (Itr lo n) ((List.range n).map fun (i : Nat) => .int (lo + i)) := by
  have w := walk_range (lo := lo) (n := n)
  refine ⟨by rw [List.length_map, List.length_range, sizeLine_eq]; exact hn, fun i H1 hi x => w.goes i H1 (by simpa using hi) trivial, fun H1 x => by
    have := w.stops H1 trivial
    simpa using this, fun i F1 H1 y H2 hi x x1 x2 hy => ?_⟩
  have hi' : i < n := by simpa using hi
  obtain ⟨rfl, rfl⟩ := w.yields i H1 y H2 hi' trivial hy
  exact ⟨F1, .int (lo + i), by simp [List.getElem?_map, List.getElem?_range hi'], Ext.refl x2, rfl⟩
def zipD : List D → List D → List D
  | x :: xs, y :: ys => .wtp [x, y] :: zipD xs ys
  | _, _ => []
theorem zipD_len : ∀ xs ys : List D, (zipD xs ys).length = min xs.length ys.length
  | [], _ => by simp [zipD]
  | _ :: _, [] => by simp [zipD]
  | _ :: xs, _ :: ys => by simp only [zipD, List.length_cons, zipD_len xs ys]; omega
theorem zipD_get : ∀ {xs ys : List D} {i : Nat} {x y : D}, xs[i]? = some x → ys[i]? = some y → (zipD xs ys)[i]? = some (.wtp [x, y])
  | [], _, _, _, _, h, _ => by simp at h
  | _ :: _, [], _, _, _, _, h => by simp at h
  | a :: xs, b :: ys, 0, x, y, h, g => by simp at h g; subst h g; rfl
  | a :: xs, b :: ys, i + 1, x, y, h, g => by
    simp only [zipD, List.getElem?_cons_succ]
    exact zipD_get (by simpa using h) (by simpa using g)
theorem walkZ {k1 k2 c1 c2 : Bool} {a b : Addr} {vs us : List V} {ds es : List D} (hz : vs.length ≤ sizeLine) (x : Ex F H) (h1 : SqK K k1 (if c1 then F else H) a vs) (h2 : SqK K k2 (if c2 then F else H) b us) (hd : IsL K F ds vs) (he : IsL K F es us) :
    WalkD K (if (c1 && c2) then F else H) F (Itm K k1 k2 a b vs us) (zipD ds es) := by
  have l1 := hd.len
  have l2 := he.len
  have q1 : SqK K k1 (if (c1 && c2) then F else H) a vs := by
    cases c1 with
    | true =>
      cases c2 with
      | true => exact h1
      | false => exact SqK.mono x h1
    | false => cases c2 <;> exact h1
  have q2 : SqK K k2 (if (c1 && c2) then F else H) b us := by
    cases c2 with
    | true =>
      cases c1 with
      | true => exact h2
      | false => exact SqK.mono x h2
    | false => cases c1 <;> exact h2
  refine ⟨by rw [zipD_len]; omega, fun i H1 hi y => ?_, fun H1 y => ⟨by rw [zipD_len]; omega, SqK.mono y q1, SqK.mono y q2⟩, fun i F1 H1 v H2 hi y x1 x2 hy => ?_⟩
  · rw [zipD_len] at hi
    exact ⟨by omega, SqK.mono y q1, SqK.mono y q2⟩
  · rw [zipD_len] at hi
    obtain ⟨T, v1, v2, rfl, hT, rfl, e1, e2⟩ := hy
    have g1 : ds[i]? = some ds[i] := List.getElem?_eq_getElem (by omega)
    have g2 : es[i]? = some es[i] := List.getElem?_eq_getElem (by omega)
    obtain ⟨u1, z1, z2⟩ := hd.get g1
    obtain ⟨u2, z3, z4⟩ := he.get g2
    rw [e1] at z1
    cases z1
    rw [e2] at z3
    cases z3
    have ext : Ext F1 H1 (upd F1 T (.tup [v1, v2])) (upd H1 T (.tup [v1, v2])) := Ext.new x2 hT
    refine ⟨_, _, zipD_get g1 g2, ext, ⟨T, _, rfl, SqT.of upd_same, Is.mono (x1.trans (ext.ex x2)) _ _ z2, Is.mono (x1.trans (ext.ex x2)) _ _ z4, trivial⟩⟩
end
section
variable {X : Cx} {C : Cn} {e e2 tg : Expr} {m : Den} {ms : Dens} {pos p tpos : Pos} {elts : List Expr} {kk : Nat}
def DenI.seq (m : Den) : DenI := fun env => (m env).bnd fun r => match r.rd with
  | .str s => .ok (s.map fun c => .str [c], true)
  | _ => (match seqOf r with
    | some (_, ds, cl) => .ok (ds, cl)
    | none => .stuck)
theorem OutI.ext {K : PySem.W.Frag} {F H F' H' : Hp} {σ : L2.St} {R : It → Hp → Prop} (x : Ext F H F' H') {o : O (List D × Bool)} (h : OutI K C F H σ R o) : OutI K C F' H' σ R o := by
  cases o with
  | stuck => exact h
  | exn y => exact fun c a F2 H2 e2 ha => h c a F2 H2 (x.trans e2) ha
  | ok r =>
    obtain ⟨ds, cl⟩ := r
    exact fun J F2 H2 e2 => h J F2 H2 (x.trans e2)
theorem den_bndI {K : PySem.W.Frag} {F H : Hp} {σ : L2.St} {env : Env'} {Rg : List Addr} {R : It → Hp → Prop} {k : Rv → O (List D × Bool)} (st : Stt K C.G C.F0 F H σ env Rg) (h : OutI K C F H σ R ((m env).bnd k)) {Q : VK}
    (hr : ∀ r v F' H', Ext F H F' H' → Stt K C.G C.F0 F' H' σ env Rg → RdV K C.G F' H' r v → OutI K C F' H' σ R (k r) → Q v H') : tDen K C m σ H Q := by
  refine ⟨F, env, Rg, st, ?_⟩
  cases hm : m env with
  | stuck => rw [hm] at h; exact h.elim
  | exn x => rw [hm] at h; exact h
  | ok r =>
    rw [hm] at h
    exact OutE.rd st.exF fun v F' H' e rd => hr r v F' H' e (st.ext e) rd (h.ext e)
theorem dens_bndI {K : PySem.W.Frag} {F H : Hp} {σ : L2.St} {env : Env'} {Rg : List Addr} {R : It → Hp → Prop} {k : List Rv → O (List D × Bool)} (st : Stt K C.G C.F0 F H σ env Rg) (h : OutI K C F H σ R ((ms env).bnd k)) {Q : List V → Hp → Prop}
    (hr : ∀ rs vs F' H', Ext F H F' H' → Stt K C.G C.F0 F' H' σ env Rg → RdL K C.G F' H' rs vs → OutI K C F' H' σ R (k rs) → Q vs H') : tDens K C ms σ H Q := by
  refine ⟨F, env, Rg, st, ?_⟩
  cases hm : ms env with
  | stuck => rw [hm] at h; exact h.elim
  | exn x => rw [hm] at h; exact h
  | ok rs =>
    rw [hm] at h
    exact fun vs F' H' e rd => hr rs vs F' H' e (st.ext e) rd (h.ext e)
theorem di_seq (h : DE X C e m) : DI X C tg e (DenI.seq m) := by
  refine ⟨⟨fun pins s σ H R I ⟨F, env, Rg, st, o⟩ => ?_⟩⟩
  refine thn (h.pe.run pins s σ H (fun v H' => ∃ F' r, Ext F H F' H' ∧ Ex F' H' ∧ RdV X.K C.G F' H' r v ∧ OutI X.K C F' H' σ R (match r.rd with
    | .str s => .ok (s.map fun c => .str [c], true)
    | _ => (match seqOf r with
      | some (_, ds, cl) => .ok (ds, cl)
      | none => .stuck))) I (den_bndI st o fun r v F' H' x st' rd o' => ⟨F', r, x, st'.exF, rd, o'⟩)) fun v s1 ⟨x, H1, I1, r1, F1, r, e1, x1, rd, o1⟩ => ?_
  by_cases hs : ∃ z, r.rd = .str z
  · obtain ⟨z, hz⟩ := hs
    rw [hz] at o1
    simp only at o1
    have i1 := rd.is x1
    rw [hz] at i1
    obtain ⟨rfl, ok⟩ := i1
    obtain ⟨t, rfl⟩ := r1
    have q := o1 (Its (S z)) F1 H1 (Ext.refl x1) (walkS ok)
    cases ha : (S z).cps.all (· < 128)
    · exact wpAny_pyIter_wide ha (pi_one (tk := s1.toks) I1 _ (turn_str _ (S z) t "str_iterator" (.inr rfl)) ⟨_, Heap.get?_push_size _ rfl, rfl, rfl⟩ q)
    · exact wpAny_pyIter_ascii ha (pi_one (tk := s1.toks) I1 _ (turn_str _ (S z) t "str_ascii_iterator" (.inl rfl)) ⟨_, Heap.get?_push_size _ rfl, rfl, rfl⟩ q)
  · have o2 : OutI X.K C F1 H1 σ R (match seqOf r with
      | some (_, ds, cl) => .ok (ds, cl)
      | none => .stuck) := by
      cases hr : r.rd with
      | str z => exact absurd ⟨z, hr⟩ hs
      | _ => rw [hr] at o1; exact o1
    cases hq : seqOf r with
    | none => rw [hq] at o2; exact o2.elim
    | some q =>
      obtain ⟨k, ds, cl⟩ := q
      rw [hq] at o2
      simp only at o2
      obtain ⟨a, vs, rfl, hd, hsq⟩ := seqOf_ok x1 rd hq
      cases r1
      have hsq' := SqK.mono (base_ex x1) hsq
      obtain ⟨_, _, _, hzz, _⟩ := Inv.seqK I1 hsq'
      have w := o2 (Itk1 X.K k a) F1 H1 (Ext.refl x1) (walk1 hzz hsq hd)
      cases k with
      | true =>
        obtain ⟨its, rv, p, hz⟩ := I1.list (show SqL X.K H1 a vs from hsq')
        exact wpAny_pyIter_list p.isList (pi_one (tk := s1.toks) I1 _ (turn_list a _) ⟨_, Heap.get?_push_size _ rfl, rfl, rfl⟩ w)
      | false =>
        obtain ⟨its, rv, p, hz⟩ := I1.tuple (show SqT X.K H1 a vs from hsq')
        exact wpAny_pyIter_tuple (show s1.heap.IsTuple a its.toArray from p) (pi_one (tk := s1.toks) I1 _ (turn_tuple a _) ⟨_, Heap.get?_push_size _ rfl, rfl, rfl⟩ w)
/-- range(n), range(a, b) -/
def range1 : D → Option (List D)
  | .int j => if j.natAbs ≤ 1000000 then some ((List.range j.toNat).map fun (i : Nat) => .int i) else none
  | _ => none
def range2 : D → D → Option (List D)
  | .int i, .int j => if (j - i).natAbs ≤ 1000000 ∧ i.natAbs ≤ 1000000000000 ∧ j.natAbs ≤ 1000000000000 then some ((List.range (j - i).toNat).map fun (n : Nat) => .int (i + n)) else none
  | _, _ => none
def oI (o : Option (List D)) : O (List D × Bool) := match o with
  | some ds => .ok (ds, true)
  | none => .stuck
def DenI.range1 (m : Den) : DenI := fun env => (m env).bnd fun r => oI (PV.range1 r.rd)
def DenI.range2 (m m2 : Den) : DenI := fun env => (m env).bnd fun r => (m2 env).bnd fun r2 => oI (PV.range2 r.rd r2.rd)
theorem oI_ok {K : PySem.W.Frag} {F H : Hp} {σ : L2.St} {R : It → Hp → Prop} {o : Option (List D)} (h : OutI K C F H σ R (oI o)) : ∃ ds, o = some ds ∧ ∀ J F' H', Ext F H F' H' → WalkD K F' F' J ds → R J H' := by
  cases o with
  | none => exact h.elim
  | some ds => exact ⟨ds, rfl, h⟩
theorem di_range1 (h : DE X C e m) (hg : Gl X "range") (hm : X.mg "range" = none) (hs : starEach [e] X.env = [(false, eval e X.env)] := by rfl) (hs' : starEach [e] X.env = (false, eval e X.env) :: starEach [] X.env := by rfl) : DI X C tg (.Call (.Name "range" p) [e] [] pos) (DenI.range1 m) :=
  ⟨(pi_range1 hg hm (pa_cons h.pe pa_nil hs') hs).imp fun σ H R ⟨F, env, Rg, st, o⟩ => by
    refine den_bndI st o fun r v F1 H1 x1 st1 rd1 o1 => ?_
    obtain ⟨ds, hq, o2⟩ := oI_ok o1
    have i1 := rd1.is st1.exF
    generalize r.rd = d at hq i1
    cases d with
    | int j =>
      cases i1
      simp only [PV.range1] at hq
      split at hq
      · rename_i hj
        cases hq
        refine ⟨j, rfl, by omega, by omega, o2 (Itr 0 j.toNat) F1 H1 (Ext.refl st1.exF) ?_⟩
        have w := walkR (K := X.K) (F := F1) (Hb := F1) (lo := 0) (n := j.toNat) (by omega)
        have e0 : ((List.range j.toNat).map fun (i : Nat) => D.int (0 + (i : Int))) = (List.range j.toNat).map fun (i : Nat) => D.int i := by
          apply List.map_congr_left
          intro a _
          rw [Int.zero_add]
        rw [e0] at w
        exact w
      · cases hq
    | _ => cases hq⟩
theorem di_range2 {m2 : Den} (h : DE X C e m) (h2 : DE X C e2 m2) (hg : Gl X "range") (hm : X.mg "range" = none) (hs : starEach [e, e2] X.env = [(false, eval e X.env), (false, eval e2 X.env)] := by rfl) (hs2 : starEach [e2] X.env = [(false, eval e2 X.env)] := by rfl)
    (hs' : starEach [e2] X.env = (false, eval e2 X.env) :: starEach [] X.env := by rfl) (hs'' : starEach [e, e2] X.env = (false, eval e X.env) :: starEach [e2] X.env := by rfl) :
    DI X C tg (.Call (.Name "range" p) [e, e2] [] pos) (DenI.range2 m m2) :=
  ⟨(pi_range2 hg hm (pa_cons h.pe (pa_cons h2.pe pa_nil hs') hs'') hs hs2).imp fun σ H R ⟨F, env, Rg, st, o⟩ => by
    refine den_bndI st o fun r v F1 H1 x1 st1 rd1 o1 => ?_
    refine den_bndI st1 o1 fun r2 v2 F2 H2 x2 st2 rd2 o2 => ?_
    obtain ⟨ds, hq, o3⟩ := oI_ok o2
    have i1 := (rd1.mono x2 st1.exF).is st2.exF
    have i2 := rd2.is st2.exF
    generalize r.rd = d at hq i1
    generalize r2.rd = d2 at hq i2
    cases d with
    | int a =>
      cases d2 with
      | int b =>
        cases i1
        cases i2
        simp only [PV.range2] at hq
        split at hq
        · rename_i hj
          cases hq
          exact ⟨a, b, rfl, by omega, o3 (Itr a (b - a).toNat) F2 H2 (Ext.refl st2.exF) (walkR (by omega))⟩
        · cases hq
      | _ => cases hq
    | _ => cases d2 <;> cases hq⟩
/-- zip(a, b) to a target of several names -/
def zipI (r r2 : Rv) : O (List D × Bool) := match seqOf r, seqOf r2 with
  | some (_, ds, c1), some (_, es, c2) => .ok (zipD ds es, c1 && c2)
  | _, _ => .stuck
def DenI.zip (m m2 : Den) : DenI := fun env => (m env).bnd fun r => (m2 env).bnd fun r2 => zipI r r2
theorem fresh5 {pins : List (Addr × Obj)} {σ : L2.St} {H : Hp} {s : Shared} (I : Inv X pins σ H s) : ∀ c, c ∈ [s.heap.objs.size + 4, s.heap.objs.size + 2, s.heap.objs.size + 3, s.heap.objs.size, s.heap.objs.size + 1] → FpOk X pins H c := fun c hcm => by
  have e' : c = s.heap.objs.size + 4 ∨ c = s.heap.objs.size + 2 ∨ c = s.heap.objs.size + 3 ∨ c = s.heap.objs.size ∨ c = s.heap.objs.size + 1 := by simpa using hcm
  have hle : s.heap.objs.size ≤ c := by
    rcases e' with z | z | z | z | z
    · rw [z]; exact Nat.le_add_right _ _
    · rw [z]; exact Nat.le_add_right _ _
    · rw [z]; exact Nat.le_add_right _ _
    · rw [z]; exact Nat.le_refl _
    · rw [z]; exact Nat.le_add_right _ _
  exact I.fpOk hle (I.hok.fresh hle)
def itO (k : Bool) (a : Addr) : Obj := if k then { cls := .type "list_iterator", data := .fields #[.ref a, .int 0 0] } else { cls := .type "tuple_iterator", data := .fields #[.ref a, .int 0 0] }
theorem beginsK (k : Bool) (a : Addr) (its : Array Value) : Begins (.ref a) (itO k a) (fun h => SeqK k h a its) := by
  cases k with
  | true => exact begins_list a its
  | false => exact begins_tuple a its
theorem itO_iter {k : Bool} {h : Heap} {it a : Addr} (e : h.get? it = some (itO k a)) : IterK k h it a 0 := by
  cases k with
  | true => exact (⟨_, e, rfl, rfl⟩ : h.IsListIter it a 0)
  | false => exact (⟨_, e, rfl, rfl⟩ : h.IsTupleIter it a 0)
theorem di_zip {m2 : Den} (h : DE X C e m) (h2 : DE X C e2 m2) (hg : Gl X "zip") (hm : X.mg "zip" = none) (hs : starEach [e, e2] X.env = (false, eval e X.env) :: starEach [e2] X.env := by rfl) (hpl : (backTo pos (starEach [e2] X.env)).any (·.1) = false := by rfl)
    (hs' : starEach [e2] X.env = (false, eval e2 X.env) :: starEach [] X.env := by rfl) :
    DI X C (.Tuple elts kk tpos) (.Call (.Name "zip" p) [e, e2] [] pos) (DenI.zip m m2) := by
  refine ⟨⟨fun pins s σ H R I ⟨F, env, Rg, st, o⟩ => ?_⟩⟩
  have ha : PA X [e, e2] (tCons (tDen X.K C m) (tCons (tDen X.K C m2) tNil)) := pa_cons h.pe (pa_cons h2.pe pa_nil hs') hs
  refine Call_ (ld_blt I hg hm PyProof.Rows.boot_zip (PyProof.Rows.callWith_type1 (thn (ha.run pos pins s σ H (fun vs H' => ∃ F' r r2 v v2, vs = [v, v2] ∧ Ex F' H' ∧ RdV X.K C.G F' H' r v ∧ RdV X.K C.G F' H' r2 v2 ∧ OutI X.K C F' H' σ R (zipI r r2)) I ?_)
    fun us s1 ⟨vs, H1, I1, r1, q1⟩ => ?_) hs hpl))
  · refine den_bndI st o fun r v F1 H1 x1 st1 rd1 o1 => ?_
    refine den_bndI st1 o1 fun r2 v2 F2 H2 x2 st2 rd2 o2 => ?_
    exact ⟨F2, r, r2, v, v2, rfl, st2.exF, rd1.mono x2 st1.exF, rd2, o2⟩
  · obtain ⟨F1, r, r2, v, v2, rfl, x1, rd1, rd2, o1⟩ := q1
    unfold zipI at o1
    cases hq : seqOf r with
    | none => rw [hq] at o1; exact o1.elim
    | some q =>
      obtain ⟨k, ds, cl⟩ := q
      cases hq2 : seqOf r2 with
      | none => rw [hq, hq2] at o1; exact o1.elim
      | some q2 =>
        obtain ⟨k2, es, cl2⟩ := q2
        rw [hq, hq2] at o1
        simp only at o1
        obtain ⟨a, vs, rfl, hd, hsq⟩ := seqOf_ok x1 rd1 hq
        obtain ⟨b, us', rfl, he, hsq2⟩ := seqOf_ok x1 rd2 hq2
        cases r1 with
        | cons r rr =>
          cases rr with
          | cons r' rr =>
            cases rr
            cases r
            cases r'
            obtain ⟨its, rv, p1, hzz, la⟩ := Inv.seqK I1 (SqK.mono (base_ex x1) hsq)
            have w := o1 (Itm X.K k k2 a b vs us') F1 H1 (Ext.refl x1) (walkZ hzz x1 hsq hsq2 hd he)
            obtain ⟨its2, rv2, p2, _, lb⟩ := Inv.seqK I1 (SqK.mono (base_ex x1) hsq2)
            refine zip_begins2 (beginsK k a its.toArray) (beginsK k2 b its2.toArray) p1 p2 fun h' hz hTI hTO h1 h2 hsz hk => wpAny_pyIter_zip hz ?_
            have I2 : Inv X pins σ H1 { s1 with heap := h' } := I1.kept (t' := s1.toks) hk
            have ap := PySem.W.ktu_apart s1.heap.objs.size a b la lb
            have ns : ∀ {x y : Nat}, x < y → x ≠ y := fun h => Nat.ne_of_lt h
            exact ⟨s1.heap.objs.size + 4, [s1.heap.objs.size + 4, s1.heap.objs.size + 2, s1.heap.objs.size + 3, s1.heap.objs.size, s1.heap.objs.size + 1], _, _, H1, rfl, I2,
              turn_zipM (zipSep ap (ns lb) (ns (Nat.lt_of_lt_of_le lb (Nat.le_add_right _ _))) (ns (Nat.lt_of_lt_of_le lb (Nat.le_add_right _ _))) (ns (Nat.lt_of_lt_of_le lb (Nat.le_add_right _ _)))) (ns la) (ns (Nat.lt_of_lt_of_le lb (Nat.le_add_right _ _))),
              ⟨hz, hTI, ⟨_, _, hTO⟩, itO_iter h1, itO_iter h2⟩, fresh5 I1, w⟩
end
end PV

set_option Elab.async false
set_option linter.all false
set_option maxRecDepth 100000
set_option maxHeartbeats 2000000
namespace PV
open PySem PySem.Spec PyProof.Rows L2
/-! ### enumerate -/
def Item (K : PySem.W.Frag) (k : Bool) (a : Addr) (xs : List V) (k0 : Int) : It :=
  ⟨fun i H => i < xs.length ∧ SqK K k H a xs,
   fun i H v H' => ∃ T x, v = .ref T ∧ H T = none ∧ H' = upd H T (.tup [.int (k0 + (i : Nat)), x]) ∧ xs[i]? = some x,
   fun i H => i = xs.length ∧ SqK K k H a xs⟩
theorem turn_enumM {P : Program} {w : World} {K : PySem.W.Frag} {elts : List Expr} {kk : Nat} {tpos : Pos} {k : Bool} {a e it : Addr} {xs : List V} {k0 : Int} (hei : e ≠ it) (hea : e ≠ a) (hai : a ≠ it) :
    Turn P w K (.Tuple elts kk tpos) (Item K k a xs k0) [e, it] e (fun i h => (∃ old, IsEnum h e it (k0 + (i : Int)) old) ∧ IterK k h it a i) where
  mem := by simp
  obj := fun i h st b hb => by
    obtain ⟨⟨old, he⟩, h1⟩ := st
    have e' : b = e ∨ b = it := by simpa using hb
    rcases e' with z | z
    · rw [z]; exact ⟨_, he, fun v q => nomatch q⟩
    · rw [z]; exact h1.obj
  keep := fun i h h' st k => by
    obtain ⟨⟨old, he⟩, h1⟩ := st
    exact ⟨⟨old, k e (by simp) _ he⟩, h1.at fun o q => k it (by simp) o q⟩
  item := by
    intro X hP hw hK hc i pins s σ H E I hf st hg
    subst hP hw hK
    obtain ⟨he, h1⟩ := st
    obtain ⟨hi, hqx⟩ := hg
    obtain ⟨its, rv, p, _, hla⟩ := Inv.seqK I hqx
    have l1 := rv.length
    have dr := Draws.seqK (prog := X.prog) (w := X.w) (A := X.A.in1) (I.ok.hd hc) k it a hai its.toArray
    have hn : i < its.toArray.size := by simp only [List.size_toArray]; omega
    refine (GoesN.enumFrom (elts := elts) (x1 := kk) (pos := tpos) k0 dr e hei (by
      intro h
      rcases List.mem_cons.mp h with h | h
      · exact hei h
      · exact hea (List.mem_singleton.mp h)) (by simp)).goes i s _ E hn ⟨he, h1, p⟩ fun v h' tk hY st' hk htk => ?_
    obtain ⟨T, t, u, rfl, hT, hu, hIT⟩ := hY
    obtain ⟨he', h1', _⟩ := st'
    have hx : xs[i]? = some xs[i] := List.getElem?_eq_getElem (by omega)
    obtain ⟨v1, e1, r1⟩ := rv.get hx
    have ev1 : v1 = u := by
      have q : its.toArray[i]? = some v1 := by simpa using e1
      rw [hu] at q
      exact (Option.some.inj q).symm
    subst ev1
    have new : ObjOk X.prog X.w (upd H T (.tup [.int (k0 + (i : Nat)), xs[i]])) h' T (.tup [.int (k0 + (i : Nat)), xs[i]]) :=
      ⟨by show 2 ≤ sizeLine; decide, [.int (k0 + (i : Int)) t, v1], .cons ⟨t, rfl⟩ (.cons r1 .nil), hIT⟩
    have I1 : Inv X pins σ (upd H T (.tup [.int (k0 + (i : Nat)), xs[i]])) { s with heap := h', toks := tk } :=
      I.turnedNew (t' := tk) (ch := [e, it]) (fun c o hb q => hk c o hb q) hf hT new
    refine ⟨.ref T, _, I1, rfl, ⟨T, _, rfl, I.hok.fresh hT, rfl, hx⟩, ⟨he', h1'⟩, fun c hcm => ?_⟩
    have hlt : c < s.heap.objs.size := by
      have e' : c = e ∨ c = it := by simpa using hcm
      rcases e' with q | q
      · rw [q]; obtain ⟨_, e⟩ := he; exact Heap.lt_size e
      · rw [q]; obtain ⟨_, e, _⟩ := h1.obj; exact Heap.lt_size e
    rw [upd_ne (Nat.ne_of_lt (Nat.lt_of_lt_of_le hlt hT))]
    exact (hf c hcm).1
  done := by
    intro X hP hw hK hc i pins s σ H E I hf st hg
    subst hP hw hK
    obtain ⟨he, h1⟩ := st
    obtain ⟨hi, hqx⟩ := hg
    obtain ⟨its, rv, p, _, hla⟩ := Inv.seqK I hqx
    have l1 := rv.length
    have dr := Draws.seqK (prog := X.prog) (w := X.w) (A := X.A.in1) (I.ok.hd hc) k it a hai its.toArray
    have hn : i = its.toArray.size := by simp only [List.size_toArray]; omega
    subst hn
    refine (GoesN.enumFrom (elts := elts) (x1 := kk) (pos := tpos) k0 dr e hei (by
      intro h
      rcases List.mem_cons.mp h with h | h
      · exact hei h
      · exact hea (List.mem_singleton.mp h)) (by simp)).stops s _ E ⟨he, h1, p⟩ fun h' tk hk htk => ?_
    exact I.turnedL (t' := tk) (ch := [e, it]) (fun c o hb q => hk c o hb q) hf
  self := fun A i s Q E st h => by
    obtain ⟨⟨old, he⟩, _⟩ := st
    exact wpAny_pyIter_enum he h
set_option maxHeartbeats 4000000 in
theorem meets_enumerate_newB1 {v : Value} {o : Obj} {H : Heap → Prop} (B : Begins v o H) :
    Meets (Builtin.«enumerate.__new__» ⟨[.type "enumerate", v], []⟩) (fun _ R s => H s.heap ∧
      R (.ok (.ret (.ref (s.heap.push o).objs.size))) { s with heap := (s.heap.push o).push { cls := .type "enumerate", data := .fields #[.none, .bool false, .ref s.heap.objs.size, rawInt 0, .none, .none] } }) :=
  .of_wp fun prog w A R s h => by
    obtain ⟨hp, g, d, tk, os⟩ := s; obtain ⟨h1, h⟩ := h
    have hsub := sub_enumerate
    have q1 : ∀ {A' : Around} {E : Value → Shared → Prop} {Q : Value → Shared → Prop}, Q (.ref hp.objs.size) ⟨hp.push o, g, d, tk, os⟩ → wpAny (model prog w) A' (pyIter v) Q E ⟨hp, g, d, tk, os⟩ :=
      fun q => B.iter prog w _ _ ⟨hp, g, d, tk, os⟩ _ h1 q
    wp_walk using q1
    refine wpAny_stack_any fun st => wpAny_pure ?_
    split
    · rename_i c _ _ _ _ _
      cases (c == Value.type "enumerate")
      · wp_walk using q1
        exact ⟨_, rfl, h⟩
      · wp_walk using q1
        exact ⟨_, rfl, h⟩
    · wp_walk using q1
      exact ⟨_, rfl, h⟩
theorem enum_begins1 {prog : Program} {w : World} {A : Around} {E : Value → Shared → Prop} {s : Shared} {v : Value} {o : Obj} {H : Heap → Prop} {Q : Value → Shared → Prop} (B : Begins v o H) (h1 : H s.heap)
    (h : ∀ h', IsEnum h' (s.heap.objs.size + 1) s.heap.objs.size 0 .none → h'.get? s.heap.objs.size = some o → h'.objs.size = s.heap.objs.size + 2 →
      (∀ b o, s.heap.get? b = some o → h'.get? b = some o) → Q (.ref (s.heap.objs.size + 1)) { s with heap := h' }) :
    wpAny (model prog w) A (call (.type "enumerate") [v]) Q E s := by
  refine callType_new F.called_enumerate (by decide) (F.typeCall_enumerate_1 _) (F.newCall_enumerate_1 _) (fun obj => F.args_object_init_2 obj _) F.entry_enumerate_new
    (meets_enumerate_newB1 B) ⟨h1, ?_⟩
  have hz : (s.heap.push o).objs.size = s.heap.objs.size + 1 := Heap.size_push ..
  show _ ∧ _
  rw [hz]
  have he : IsEnum ((s.heap.push o).push { cls := .type "enumerate", data := .fields #[.none, .bool false, .ref s.heap.objs.size, rawInt 0, .none, .none] }) (s.heap.objs.size + 1) s.heap.objs.size 0 .none := by
    have := Heap.get?_push_size (s.heap.push o) (o := { cls := .type "enumerate", data := .fields #[.none, .bool false, .ref s.heap.objs.size, rawInt 0, .none, .none] }) rfl
    rw [hz] at this; exact this
  refine ⟨⟨_, he, rfl⟩, h _ he (Heap.get?_push_of_some _ (Heap.get?_push_size _ B.free)) (by rw [Heap.size_push, hz]) fun b o x => Heap.get?_push_of_some _ (Heap.get?_push_of_some _ x)⟩
/-- the items with their numbers -/
def enumD (k0 : Int) : List D → List D
  | [] => []
  | d :: ds => .wtp [.int k0, d] :: enumD (k0 + 1) ds
theorem enumD_len (k0 : Int) : ∀ ds : List D, (enumD k0 ds).length = ds.length
  | [] => rfl
  | d :: ds => congrArg (· + 1) (enumD_len (k0 + 1) ds)
theorem enumD_get : ∀ {ds : List D} {k0 : Int} {i : Nat} {d : D}, ds[i]? = some d → (enumD k0 ds)[i]? = some (.wtp [.int (k0 + (i : Int)), d])
  | [], _, _, _, h => by simp at h
  | a :: ds, k0, 0, d, h => by
    simp at h
    subst h
    simp [enumD]
  | a :: ds, k0, i + 1, d, h => by
    simp only [enumD, List.getElem?_cons_succ]
    rw [enumD_get (k0 := k0 + 1) (by simpa using h)]
    congr 4
    push_cast
    omega
section
variable {K : PySem.W.Frag} {F H : Hp}
theorem walkE {k : Bool} {Hb : Hp} {a : Addr} {vs : List V} {ds : List D} {k0 : Int} (hz : vs.length ≤ sizeLine) (hs : SqK K k Hb a vs) (hd : IsL K F ds vs) : WalkD K Hb F (Item K k a vs k0) (enumD k0 ds) := by
  have hl := hd.len
  refine ⟨by rw [enumD_len]; omega, fun i H1 hi y => ?_, fun H1 y => ⟨by rw [enumD_len]; exact hl, SqK.mono y hs⟩, fun i F1 H1 v H2 hi y x1 x2 hy => ?_⟩
  · rw [enumD_len] at hi
    exact ⟨by omega, SqK.mono y hs⟩
  · rw [enumD_len] at hi
    obtain ⟨T, x, rfl, hT, rfl, e1⟩ := hy
    obtain ⟨u1, z1, z2⟩ := hd.get (List.getElem?_eq_getElem hi)
    rw [e1] at z1
    cases z1
    have ext : Ext F1 H1 (upd F1 T (.tup [.int (k0 + (i : Nat)), x])) (upd H1 T (.tup [.int (k0 + (i : Nat)), x])) := Ext.new x2 hT
    exact ⟨_, _, enumD_get (List.getElem?_eq_getElem hi), ext, ⟨T, _, rfl, SqT.of upd_same, rfl, Is.mono (x1.trans (ext.ex x2)) _ _ z2, trivial⟩⟩
end
section
variable {X : Cx} {C : Cn} {e e2 tg : Expr} {m : Den} {ms : Dens} {pos p tpos : Pos} {elts : List Expr} {kk : Nat}
def enumI (r : Rv) (d : D) : O (List D × Bool) := match seqOf r, d with
  | some (_, ds, c1), .int k0 => if -1000000 ≤ k0 ∧ k0 ≤ 1000000 then .ok (enumD k0 ds, c1) else .stuck
  | _, _ => .stuck
def DenI.enum (m : Den) : DenI := fun env => (m env).bnd fun r => enumI r (.int 0)
def DenI.enum2 (m m2 : Den) : DenI := fun env => (m env).bnd fun r => (m2 env).bnd fun r2 => enumI r r2.rd
theorem enumI_ok {K : PySem.W.Frag} {F H : Hp} {σ : L2.St} {R : It → Hp → Prop} {r : Rv} {d : D} {G : Hp} {v : V} (x : Ex F H) (rd : RdV K G F H r v) (h : OutI K C F H σ R (enumI r d)) :
    ∃ k a vs k0, v = .ref a ∧ d = .int k0 ∧ -1000000 ≤ k0 ∧ k0 ≤ 1000000 ∧ SqK K k H a vs ∧ (vs.length ≤ sizeLine → R (Item K k a vs k0) H) := by
  unfold enumI at h
  cases hq : seqOf r with
  | none => rw [hq] at h; exact h.elim
  | some q =>
    obtain ⟨k, ds, cl⟩ := q
    rw [hq] at h
    cases d with
    | int k0 =>
      simp only at h
      split at h
      · rename_i hk
        obtain ⟨a, vs, rfl, hd, hsq⟩ := seqOf_ok x rd hq
        exact ⟨k, a, vs, k0, rfl, rfl, hk.1, hk.2, SqK.mono (base_ex x) hsq, fun hz => h (Item K k a vs k0) F H (Ext.refl x) (walkE hz hsq hd)⟩
      · exact h.elim
    | _ => exact h.elim
theorem enum_end {pins : List (Addr × Obj)} {σ : L2.St} {H : Hp} {s1 : Shared} {R : It → Hp → Prop} {k : Bool} {a : Addr} {vs : List V} {k0 : Int} (I1 : Inv X pins σ H s1) (hsq : SqK X.K k H a vs) (w : vs.length ≤ sizeLine → R (Item X.K k a vs k0) H) {h' : Heap}
    (he : IsEnum h' (s1.heap.objs.size + 1) s1.heap.objs.size k0 .none) (hit : h'.get? s1.heap.objs.size = some (itO k a)) (hk : ∀ b o, s1.heap.get? b = some o → h'.get? b = some o) {E : Value → Shared → Prop} :
    wpAny (model X.prog X.w) X.A (pyIter (.ref (s1.heap.objs.size + 1))) (PIE X pins σ (.Tuple elts kk tpos) R) E { s1 with heap := h' } := by
  obtain ⟨its, rv, p1, hzz, la⟩ := Inv.seqK I1 hsq
  have w := w hzz
  have I2 : Inv X pins σ H { s1 with heap := h' } := I1.kept (t' := s1.toks) hk
  have la' : a < s1.heap.objs.size := la
  refine wpAny_pyIter_enum he ⟨s1.heap.objs.size + 1, [s1.heap.objs.size + 1, s1.heap.objs.size], _, _, H, rfl, I2, turn_enumM (Nat.succ_ne_self _) (Nat.ne_of_gt (Nat.lt_succ_of_lt la')) (Nat.ne_of_lt la'), ⟨⟨.none, by simpa using he⟩, itO_iter hit⟩, fun b hb => ?_, w⟩
  have e' : b = s1.heap.objs.size + 1 ∨ b = s1.heap.objs.size := by simpa using hb
  have hle : s1.heap.objs.size ≤ b := by
    rcases e' with z | z
    · rw [z]; exact Nat.le_succ _
    · rw [z]; exact Nat.le_refl _
  exact I1.fpOk hle (I1.hok.fresh hle)
theorem di_enum (h : DE X C e m) (hg : Gl X "enumerate") (hm : X.mg "enumerate" = none) (hs : starEach [e] X.env = [(false, eval e X.env)] := by rfl) (hs' : starEach [e] X.env = (false, eval e X.env) :: starEach [] X.env := by rfl) :
    DI X C (.Tuple elts kk tpos) (.Call (.Name "enumerate" p) [e] [] pos) (DenI.enum m) := by
  refine ⟨⟨fun pins s σ H R I ⟨F, env, Rg, st, o⟩ => ?_⟩⟩
  have ha : PA X [e] (tCons (tDen X.K C m) tNil) := pa_cons h.pe pa_nil hs'
  refine Call_ (ld_blt I hg hm boot_enumerate (PyProof.Rows.callWith_type1 (thn (ha.run pos pins s σ H (fun vs H' => ∃ F' r v, vs = [v] ∧ Ex F' H' ∧ RdV X.K C.G F' H' r v ∧ OutI X.K C F' H' σ R (enumI r (.int 0))) I ?_)
    fun us s1 ⟨vs, H1, I1, r1, q1⟩ => ?_) hs rfl))
  · refine den_bndI st o fun r v F1 H1 x1 st1 rd1 o1 => ?_
    exact ⟨F1, r, v, rfl, st1.exF, rd1, o1⟩
  · obtain ⟨F1, r, v, rfl, x1, rd1, o1⟩ := q1
    obtain ⟨k, a, us', k0, rfl, hk0, _, _, hsq, w⟩ := enumI_ok x1 rd1 o1
    cases hk0
    cases r1 with
    | cons r rr =>
      cases rr
      cases r
      obtain ⟨its, rv, p1, _, la⟩ := Inv.seqK I1 hsq
      exact enum_begins1 (beginsK k a its.toArray) p1 fun h' he hit hsz hk => enum_end I1 hsq w he hit hk
theorem di_enum2 {m2 : Den} (h : DE X C e m) (h2 : DE X C e2 m2) (hg : Gl X "enumerate") (hm : X.mg "enumerate" = none) (hs : starEach [e, e2] X.env = (false, eval e X.env) :: starEach [e2] X.env := by rfl) (hpl : (backTo pos (starEach [e2] X.env)).any (·.1) = false := by rfl)
    (hs' : starEach [e2] X.env = (false, eval e2 X.env) :: starEach [] X.env := by rfl) :
    DI X C (.Tuple elts kk tpos) (.Call (.Name "enumerate" p) [e, e2] [] pos) (DenI.enum2 m m2) := by
  refine ⟨⟨fun pins s σ H R I ⟨F, env, Rg, st, o⟩ => ?_⟩⟩
  have ha : PA X [e, e2] (tCons (tDen X.K C m) (tCons (tDen X.K C m2) tNil)) := pa_cons h.pe (pa_cons h2.pe pa_nil hs') hs
  refine Call_ (ld_blt I hg hm boot_enumerate (PyProof.Rows.callWith_type1 (thn (ha.run pos pins s σ H (fun vs H' => ∃ F' r v r2 v2, vs = [v, v2] ∧ Ex F' H' ∧ RdV X.K C.G F' H' r v ∧ RdV X.K C.G F' H' r2 v2 ∧ OutI X.K C F' H' σ R (enumI r r2.rd)) I ?_)
    fun us s1 ⟨vs, H1, I1, r1, q1⟩ => ?_) hs hpl))
  · refine den_bndI st o fun r v F1 H1 x1 st1 rd1 o1 => ?_
    refine den_bndI st1 o1 fun r2 v2 F2 H2 x2 st2 rd2 o2 => ?_
    exact ⟨F2, r, v, r2, v2, rfl, st2.exF, rd1.mono x2 st1.exF, rd2, o2⟩
  · obtain ⟨F1, r, v, r2, v2, rfl, x1, rd1, rd2, o1⟩ := q1
    obtain ⟨k, a, us', k0, rfl, hk0, k1, k2, hsq, w⟩ := enumI_ok x1 rd1 o1
    have i2 := rd2.is x1
    rw [hk0] at i2
    cases i2
    cases r1 with
    | cons r rr =>
      cases rr with
      | cons r' rr =>
        cases rr
        cases r
        obtain ⟨t, rfl⟩ := r'
        obtain ⟨its, rv, p1, _, la⟩ := Inv.seqK I1 hsq
        exact enum_begins (beginsK k a its.toArray) p1 (by omega) (by omega) fun h' he hit hsz hk => enum_end I1 hsq w he hit hk
end
end PV

set_option Elab.async false
set_option linter.all false
set_option maxRecDepth 100000
set_option maxHeartbeats 2000000
namespace PV
open PySem PySem.Spec PyProof.Rows L2
/-! ### list comprehensions -/
def wipeE (env : Env') : List Nat → Env'
  | [] => env
  | v :: vs => (wipeE env vs).set v none
section
variable {K : PySem.W.Frag} {F F' H H' G F0 : Hp}
theorem OwnE.unset : ∀ {env : Env'} {σ : L2.St} {R : List Addr} (i : Nat), OwnE K F H env σ R → ∃ R', OwnE K F H (env.set i none) (σ.set i none) R' ∧ R'.Sublist R
  | [], [], R, _, h => ⟨R, h, List.Sublist.refl _⟩
  | none :: es, o :: σ, R, 0, h => ⟨R, h, List.Sublist.refl _⟩
  | some t :: es, some v :: σ, R, 0, h => by
    obtain ⟨R1, R2, rfl, h1, h2⟩ := h
    exact ⟨R2, h2, List.sublist_append_right _ _⟩
  | none :: es, o :: σ, R, i + 1, h => by
    obtain ⟨R', h1, h2⟩ := OwnE.unset (env := es) (σ := σ) i h
    exact ⟨R', h1, h2⟩
  | some t :: es, some v :: σ, R, i + 1, h => by
    obtain ⟨R1, R2, rfl, h1, h2⟩ := h
    obtain ⟨R', h3, h4⟩ := OwnE.unset (env := es) (σ := σ) i h2
    exact ⟨R1 ++ R', ⟨R1, R', rfl, h1, h3⟩, h4.append_left _⟩
  | some _ :: _, none :: _, _, _, h => h.elim
  | some _ :: _, [], _, _, h => h.elim
  | none :: _, [], _, _, h => h.elim
  | [], _ :: _, _, _, h => h.elim
variable {σ : L2.St} {env : Env'} {R : List Addr}
theorem Stt.wipe (S : Stt K G F0 F H σ env R) : ∀ vs : List Nat, ∃ R', Stt K G F0 F H (L2.wipe σ vs) (wipeE env vs) R' ∧ R'.Sublist R
  | [] => ⟨R, S, List.Sublist.refl _⟩
  | v :: vs => by
    obtain ⟨R', S', sb⟩ := S.wipe vs
    obtain ⟨R2, h1, h2⟩ := S'.own.unset v
    exact ⟨R2, ⟨S'.exG, S'.exF, S'.sep, h1, h2.nodup S'.nd, fun r hr => S'.out r (h2.subset hr)⟩, h2.trans sb⟩
theorem wipe_get (σ : L2.St) (i : Nat) : ∀ vs : List Nat, (L2.wipe σ vs)[i]? = if i ∈ vs then (σ[i]?).map fun _ => none else σ[i]?
  | [] => by simp [L2.wipe]
  | v :: vs => by
    unfold L2.wipe
    have ih := wipe_get σ i vs
    by_cases h : v = i
    · subst h
      rw [List.getElem?_set_self']
      rw [ih]
      rw [if_pos (List.mem_cons_self)]
      by_cases h2 : v ∈ vs
      · rw [if_pos h2]; cases σ[v]? <;> rfl
      · rw [if_neg h2]; cases σ[v]? <;> rfl
    · rw [List.getElem?_set_ne h, ih]
      have h' : i ≠ v := fun e => h e.symm
      by_cases h2 : i ∈ vs
      · rw [if_pos h2, if_pos (List.mem_cons_of_mem _ h2)]
      · rw [if_neg h2, if_neg (by simp [h', h2])]
theorem Off.wipe {sl vs : List Nat} {σ σ' : L2.St} (h : Off sl (L2.wipe σ vs) σ') (hs : ∀ i ∈ sl, i ∈ vs) : L2.wipe σ' vs = L2.wipe σ vs := by
  have hl : σ'.length = σ.length := by rw [h.1, L2.wipe_length]
  apply List.ext_getElem?
  intro i
  rw [wipe_get, wipe_get]
  by_cases hi : i ∈ vs
  · rw [if_pos hi, if_pos hi]
    by_cases hb : i < σ.length
    · rw [List.getElem?_eq_getElem hb, List.getElem?_eq_getElem (by omega)]; rfl
    · rw [List.getElem?_eq_none (by omega), List.getElem?_eq_none (by omega)]
  · rw [if_neg hi, if_neg hi]
    have := h.2 i (fun z => hi (hs i z))
    rw [wipe_get, if_neg hi] at this
    exact this
end
section
variable {X : Cx} {C : Cn} {elt tg iter : Expr} {ifs : List Expr} {pos : Pos} {scope : Scope} {own : List (Str × Nat)} {b : Bnd} {sl : List Nat} {src : DenI}
/-- the tests of a comprehension: none, or one -/
abbrev DenT := Env' → O Bool
def DenT.yes : DenT := fun _ => .ok true
def DenT.one (m : Den) : DenT := fun env => (m env).bnd fun r => O.of r.rd.truth
def OutB (K : PySem.W.Frag) (C : Cn) (F H : Hp) (σ : L2.St) (Q : Bool → Hp → Prop) : O Bool → Prop
  | .stuck => False
  | .exn x => ∀ c a F' H', Ext F H F' H' → ExnAt K F' x c a → C.E c a σ H'
  | .ok k => ∀ F' H', Ext F H F' H' → Q k H'
def tDenT (K : PySem.W.Frag) (C : Cn) (m : DenT) : TT := fun σ H Q => ∃ F env Rg, Stt K C.G C.F0 F H σ env Rg ∧ OutB K C F H σ Q (m env)
structure DT (X : Cx) (C : Cn) (ifs : List Expr) (m : DenT) : Prop where
  pts : PTs X ifs (tDenT X.K C m)
theorem _root_.L2.PTs.imp {X : Cx} {e : List Expr} {t t' : TT} (h : PTs X e t) (i : ∀ σ H Q, t' σ H Q → t σ H Q) : PTs X e t' := ⟨fun pins s σ H Q I hw => h.run pins s σ H Q I (i σ H Q hw)⟩
theorem dt_yes : DT X C [] DenT.yes := ⟨pts_nil.imp fun σ H Q ⟨F, env, Rg, st, o⟩ => o F H (Ext.refl st.exF)⟩
theorem dt_one {c : Expr} {m : Den} (h : DE X C c m) : DT X C [c] (DenT.one m) := by
  refine ⟨(pts_one h.pt).imp fun σ H Q ⟨F, env, Rg, st, o⟩ => ⟨F, env, Rg, st, ?_⟩⟩
  unfold DenT.one at o
  cases hm : m env with
  | stuck => rw [hm] at o; exact o
  | exn x => rw [hm] at o; exact o
  | ok r =>
    rw [hm] at o
    simp only [O.bnd_ok] at o
    cases hb : r.rd.truth with
    | none => rw [hb] at o; exact o.elim
    | some k => rw [hb] at o; exact ⟨k, hb, o⟩
def lcL (b : Bnd) (t : DenT) (m : Den) (env : Env') : List D → O (List D)
  | [] => .ok []
  | d :: ds => match b d env with
    | none => .stuck
    | some env1 => (t env1).bnd fun k => if k = true then (m env1).bnd fun r => if r.clean = true ∨ r.rd.scal = true then (lcL b t m env ds).bnd fun xs => .ok (r.rd :: xs) else .stuck else lcL b t m env ds
/-- what raises within it is stuck -/
def O.calm {α : Type} : O α → O α
  | .exn _ => .stuck
  | o => o
def Den.lc (vs : List Nat) (src : DenI) (b : Bnd) (t : DenT) (m : Den) : Den := fun env => (src env).bnd fun r => (lcL b t m (wipeE env vs) r.1).calm.bnd fun xs => .ok (.val (T.of xs))
/-- name = e: owned, or frozen at once -/
def DenS.asgK (k : Bool) (i : Nat) (m : Den) : DenS := fun env => sb (m env) env fun r => match r with
  | .val t => if i < env.length then .nx (env.set i (some (if k = true then .fz t.frz else t))) else .stuck
  | .bor _ => .stuck
theorem asgK_t {K : PySem.W.Frag} {C : Cn} {F H : Hp} {σ : L2.St} {env : Env'} {Rg : List Addr} {D : Ends} {k : Bool} {i : Nat} {m : Den} (st : Stt K C.G C.F0 F H σ env Rg) (o : OutS K C D F (DenS.asgK k i m env)) : tDen K C m σ H (fun x H1 => gName i x σ H1 D.nx) :=
  den_sbN st o
    (fun t v F' H' Rn hm e n o' => by
      simp only at o'
      split at o'
      · rename_i hl
        cases k with
        | false =>
          obtain ⟨R', st'⟩ := st.set' e n hl
          exact o' _ F' H' R' (Ex.refl F') st'
        | true =>
          obtain ⟨F2, e2, x2, i2⟩ := n.freeze e
          obtain ⟨R', st'⟩ := (st.ext e2).setFz i2 hl
          exact o' _ F2 H' R' x2 st'
      · exact o'.elim)
    fun t v F' H' hm e b o' => o'.elim
theorem lc_t {t : DenT} {m : Den} {K : PySem.W.Frag} {own : List Nat} {σ : L2.St} {H : Hp} {Q : VK} (hsl : ∀ i ∈ sl, i ∈ own) (h : tDen K C (Den.lc own src b t m) σ H Q) :
    tLc (fun σ H R => ∃ F env Rg, Stt K C.G C.F0 F H σ env Rg ∧ OutI K C F H σ R (src env)) (tBnd K C.nox b sl) (tDenT K C.nox t) (tDen K C.nox m) own σ H Q := by
  obtain ⟨F, env, Rg, st, o⟩ := h
  refine ⟨F, env, Rg, st, ?_⟩
  unfold Den.lc at o
  cases hm : src env with
  | stuck => rw [hm] at o; exact o
  | exn x => rw [hm] at o; exact o
  | ok r =>
    obtain ⟨ds, cl⟩ := r
    rw [hm] at o
    simp only [O.bnd_ok] at o
    intro J F1 H1 e1 w L hL
    have st1 := st.ext e1
    obtain ⟨R0, stw, _⟩ := st1.wipe own
    cases hx : lcL b t m (wipeE env own) ds with
    | stuck => rw [hx] at o; exact o.elim
    | exn x => rw [hx] at o; exact o.elim
    | ok xs =>
      rw [hx] at o
      have o : OutE K C F H σ Q (.ok (.val (T.of xs))) := o
      have eh : H L = none := e1.hp.none hL
      have bex : Ex (if cl = true then F1 else H1) H1 := base_ex st1.exF
      refine ⟨fun i k H2 => k = ds.length - i ∧ i ≤ ds.length ∧ ∃ F2 acc accV ys, Ext F1 H1 F2 H2 ∧ H2 L = some (.lst accV) ∧ F2 L = none ∧ IsL K F2 acc accV ∧ acc.length ≤ i ∧ lcL b t m (wipeE env own) (ds.drop i) = .ok ys ∧ acc ++ ys = xs,
        ⟨ds.length, by simp, Nat.zero_le _, F1, [], [], xs, Ext.newOwn st1.exF hL, upd_same, st1.exF.none hL, trivial, Nat.zero_le _, by rw [List.drop_zero]; exact hx, rfl⟩, ?_⟩
      rintro i k H2 ⟨rfl, hi, F2, acc, accV, ys, e2, hl2, hf2, ha, hlen, hx2, hys⟩
      have hb2 : Ex (if cl = true then F1 else H1) H2 := bex.trans e2.hp
      have st2 := stw.ext e2
      by_cases hlt : i < ds.length
      · refine .inr ⟨w.go i H2 hlt hb2, fun H3 => ∃ F3 acc accV ys, Ext F1 H1 F3 H3 ∧ H3 L = some (.lst accV) ∧ F3 L = none ∧ IsL K F3 acc accV ∧ acc.length ≤ i + 1 ∧ lcL b t m (wipeE env own) (ds.drop (i + 1)) = .ok ys ∧ acc ++ ys = xs,
          fun H3 h3 => ⟨ds.length - (i + 1), by omega, rfl, hlt, h3⟩, fun x H3 hy => ?_⟩
        obtain ⟨F3, d, hd, e3, i3⟩ := w.yld i F2 H2 x H3 hlt hb2 (e2.ex st1.exF) e2.fz hy
        have hdr : ds.drop i = d :: ds.drop (i + 1) := by
          obtain ⟨h1, h2⟩ := List.getElem?_eq_some_iff.mp hd
          rw [List.drop_eq_getElem_cons h1, h2]
        rw [hdr] at hx2
        unfold lcL at hx2
        cases hb1 : b d (wipeE env own) with
        | none => rw [hb1] at hx2; cases hx2
        | some env1 =>
          rw [hb1] at hx2
          simp only at hx2
          have st3 := st2.ext e3
          refine ⟨F3, _, R0, d, env1, st3, i3, hb1, fun σ4 F4 H4 R4 e4 st4 off => ⟨off.wipe hsl, F4, env1, R4, st4, ?_⟩⟩
          have e14 : Ext F1 H1 F4 H4 := (e2.trans e3).trans e4
          have hl4 : H4 L = some (.lst accV) := e4.hp _ _ (e3.hp _ _ hl2)
          have hf4 : F4 L = none := (e4.eq _ _ (e3.hp _ _ hl2)).trans ((e3.eq _ _ hl2).trans hf2)
          have ha4 : IsL K F4 acc accV := IsL.mono ((e3.ex e2.fz).trans (e4.ex e3.fz)) _ _ ha
          cases htm : t env1 with
          | stuck => rw [htm] at hx2; cases hx2
          | exn x => rw [htm] at hx2; cases hx2
          | ok kk =>
            rw [htm] at hx2
            simp only [O.bnd_ok] at hx2
            intro F5 H5 e5
            have e15 := e14.trans e5
            have hl5 : H5 L = some (.lst accV) := e5.hp _ _ hl4
            have hf5 : F5 L = none := (e5.eq _ _ hl4).trans hf4
            have ha5 : IsL K F5 acc accV := IsL.mono (e5.ex e4.fz) _ _ ha4
            cases kk with
            | false =>
              rw [if_neg (by simp)] at hx2
              rw [if_neg (by simp)]
              exact ⟨F5, acc, accV, ys, e15, hl5, hf5, ha5, by omega, hx2, hys⟩
            | true =>
              rw [if_pos rfl] at hx2
              rw [if_pos rfl]
              refine ⟨F5, env1, R4, st4.ext e5, ?_⟩
              cases hme : m env1 with
              | stuck => rw [hme] at hx2; cases hx2
              | exn x => rw [hme] at hx2; cases hx2
              | ok r =>
                rw [hme] at hx2
                simp only [O.bnd_ok] at hx2
                split at hx2
                · rename_i hcl
                  cases hrest : lcL b t m (wipeE env own) (ds.drop (i + 1)) with
                  | stuck => rw [hrest] at hx2; cases hx2
                  | exn x => rw [hrest] at hx2; cases hx2
                  | ok ys' =>
                    rw [hrest] at hx2
                    simp only [O.bnd_ok] at hx2
                    cases hx2
                    refine OutE.rd (st4.ext e5).exF fun y F6 H6 e6 rd => ?_
                    have hl6 : H6 L = some (.lst accV) := e6.hp _ _ hl5
                    have hf6 : F6 L = none := (e6.eq _ _ hl5).trans hf5
                    have ha6 : IsL K F6 acc accV := IsL.mono (e6.ex e5.fz) _ _ ha5
                    have iy : Is K F6 r.rd y := by
                      rcases hcl with hcl | hcl
                      · exact rd.fz hcl
                      · exact (rd.is e6.fz).any hcl
                    have e16 := e15.trans e6
                    refine ⟨accV, hl6, by rw [← ha6.len]; have := w.len; omega, F6, acc ++ [r.rd], accV ++ [y], ys', ⟨fun a o h => ?_, fun a o h => ?_, e16.eq⟩, upd_same, hf6, ha6.append ⟨iy, trivial⟩, by simp; omega, rfl, by simp [← hys]⟩
                    · rw [upd_ne (ne_of_none h hL)]; exact e16.hp a o h
                    · rw [upd_ne (ne_of_none h hf6)]; exact e16.fz a o h
                · cases hx2
      · have e0 : i = ds.length := by omega
        subst e0
        rw [List.drop_length] at hx2
        cases hx2
        rw [List.append_nil] at hys
        subst hys
        refine .inl ⟨w.stop H2 hb2, o (.ref L) F2 H2 [L] ⟨e1.hp.trans e2.hp, e2.fz, fun a o h => (e2.eq a o (e1.hp a o h)).trans (e1.eq a o h)⟩ ⟨⟨L, accV, [], rfl, hl2, rfl, ownL_fz ha⟩, by simp, fun r hr => ?_⟩⟩
        rw [List.mem_singleton.mp hr]
        exact ⟨eh, hf2⟩
theorem de_lc {t : DenT} {m : Den} (hc : X.calm = true) (hN : X.N.Nodup) (hi : DI X C tg iter src) (ok : BlkOk X.N X.env.scope scope own)
    (hg : ∀ (s : Shared) (H : Hp) (A : Addr) (cl : List (Str × Addr)) (fp : List Addr), DG (X.blk s H scope (compEnvC scope cl A X.env) fp) C.nox tg b sl)
    (ht : ∀ (s : Shared) (H : Hp) (A : Addr) (cl : List (Str × Addr)) (fp : List Addr), DT (X.blk s H scope (compEnvC scope cl A X.env) fp) C.nox ifs t)
    (he : ∀ (s : Shared) (H : Hp) (A : Addr) (cl : List (Str × Addr)) (fp : List Addr), DE (X.blk s H scope (compEnvC scope cl A X.env) fp) C.nox elt m) (hsl : ∀ i ∈ sl, i ∈ own.map (·.2) := by decide) (hs : ∀ x, foldedSetIterable iter X.env x = pure x := by intro _; rfl) :
    DE X C (.ListComp elt [⟨tg, iter, ifs, 0⟩] scope pos) (Den.lc (own.map (·.2)) src b t m) :=
  DE.of ((pe_lc (g := tBnd X.K C.nox b sl) (tt := tDenT X.K C.nox t) (te := tDen X.K C.nox m) hc hN hi.pi ok (fun s H A cl fp => (hg s H A cl fp).pg) (fun s H A cl fp => (ht s H A cl fp).pts) (fun s H A cl fp => (he s H A cl fp).pe) hs).imp fun σ H Q h => lc_t hsl h) (fun _ => rfl)
/-- name = [..], frozen at once (k) or owned -/
theorem ds_asgLc (k : Bool) (i : Nat) {y : Str} {py spos : Pos} {t : DenT} {m : Den} (hc : X.calm = true) (hN : X.N.Nodup) (hi : DI X C tg iter src) (ok : BlkOk X.N X.env.scope scope own)
    (hg : ∀ (s : Shared) (H : Hp) (A : Addr) (cl : List (Str × Addr)) (fp : List Addr), DG (X.blk s H scope (compEnvC scope cl A X.env) fp) C.nox tg b sl)
    (ht : ∀ (s : Shared) (H : Hp) (A : Addr) (cl : List (Str × Addr)) (fp : List Addr), DT (X.blk s H scope (compEnvC scope cl A X.env) fp) C.nox ifs t)
    (he : ∀ (s : Shared) (H : Hp) (A : Addr) (cl : List (Str × Addr)) (fp : List Addr), DE (X.blk s H scope (compEnvC scope cl A X.env) fp) C.nox elt m)
    (hy : X.N[i]? = some y := by rfl) (hyl : X.env.scope.names.lookup y = some .local := by rfl) (hk : X.env.scope.kind = .function := by rfl) (hln : (py.line == pos.line) = true := by rfl) (ha : (scope.names.any fun (n, k) => n == y && (k == .local || k == .cell)) = false := by rfl)
    (hsl : ∀ i ∈ sl, i ∈ own.map (·.2) := by decide) (hs : ∀ x, foldedSetIterable iter X.env x = pure x := by intro _; rfl) :
    DS X C (.Assign [.Name y py] (.ListComp elt [⟨tg, iter, ifs, 0⟩] scope pos) spos) (DenS.asgK k i (Den.lc (own.map (·.2)) src b t m)) := by
  refine ⟨(ps_setLc (g := tBnd X.K C.nox b sl) (tt := tDenT X.K C.nox t) (te := tDen X.K C.nox m) hc hN hy hyl (sw_true hk hyl hln ha) hi.pi ok (fun s H A cl fp => (hg s H A cl fp).pg) (fun s H A cl fp => (ht s H A cl fp).pts) (fun s H A cl fp => (he s H A cl fp).pe) hs).imp fun D σ H ⟨F, env, Rg, st, o⟩ => ?_⟩
  exact lc_t hsl (asgK_t st o)
end
end PV

set_option Elab.async false
set_option linter.all false
set_option maxRecDepth 100000
set_option maxHeartbeats 2000000
namespace PV
open PySem PySem.Spec PyProof.Rows L2
/-! ### own defs -/
/-- what a def computes of its (frozen) arguments -/
abbrev Fn := List D → O T
def OutF (K : PySem.W.Frag) (F H : Hp) (Q : VK) (E : XK) : O T → Prop
  | .stuck => False
  | .exn x => ∀ c a F' H', Ext F H F' H' → ExnAt K F' x c a → E c a H'
  | .ok t => ∀ v F' H' Rn, Ext F H F' H' → New K H F' H' t v Rn → Q v H'
def spF (K : PySem.W.Frag) (n : Nat) (m : Fn) : Sp := fun vs H Q E => ∃ F ds, Ex F H ∧ IsL K F ds vs ∧ ds.length = n ∧ OutF K F H Q E (m ds)
structure Thr (X : Cx) (C : Cn) : Prop where
  at_ : ∀ σ, PassesAt (L2.CX X.prog X.w) X σ (fun c d H => C.E c d σ H)
theorem Thr.of {X : Cx} {C : Cn} (tk : Takes X C.E) : Thr X C := ⟨fun σ => passAt tk σ⟩
theorem Thr.nox {X : Cx} {C : Cn} : Thr X C.nox := ⟨fun _ _ _ _ _ _ _ h => by
  obtain ⟨_, _, _, _, _, _, _, _, _, _, _, _, z⟩ := h
  exact z.elim⟩
/-- a def of the module by its name: n parameters, what it computes -/
def Defd (P : Program) (w : World) (K : PySem.W.Frag) (mg : Str → Option Value) (base : Heap) (k : Nat) (x : Str) (n : Nat) (m : Fn) : Prop :=
  ∃ f fd ps, FnOk P w K mg base (L2.CX P w) k f fd ps (spF K n m) ∧ mg x = some (.ref f) ∧ PySem.W.keepIn K (.ref f) = true ∧ Binds K fd ps []
def callO (rs : List Rv) : O T → O Rv
  | .stuck => .stuck
  | .exn x => if rs.all Rv.clean = true ∨ x.fs = [] then .exn x else .stuck
  | .ok t => fin rs (some t)
def Den.call (m : Fn) (ms : Dens) : Den := fun env => (ms env).bnd fun rs => callO rs (m (rs.map Rv.rd))
/-- F on what stands, F' behind it -/
def over (F H F' : Hp) : Hp := fun a => match H a with
  | some _ => F a
  | none => F' a
theorem over_in {F H F' : Hp} {a : Addr} {o : HO} (h : H a = some o) : over F H F' a = F a := by unfold over; rw [h]
theorem over_out {F H F' : Hp} {a : Addr} (h : H a = none) : over F H F' a = F' a := by unfold over; rw [h]
theorem over_ext {F H F' H' : Hp} (x : Ex F H) (e : Ext H H F' H') : Ext F H (over F H F') H' := by
  refine ⟨e.hp, fun a o h => ?_, fun a o h => over_in h⟩
  cases q : H a with
  | some u => rw [over_in q] at h; exact e.hp a o (x a o h)
  | none => rw [over_out q] at h; exact e.fz a o h
/-- what is called, with the arguments as they are -/
theorem call_out {K : PySem.W.Frag} {C : Cn} {F H : Hp} {σ : L2.St} {Q : VK} {rs : List Rv} {vs : List V} {n : Nat} {m : Fn} (x : Ex F H) (hr : RdL K C.G F H rs vs) (hl : rs.length = n)
    (o : OutE K C F H σ Q (callO rs (m (rs.map Rv.rd)))) : spF K n m vs H Q (fun c d H' => C.E c d σ H') := by
  by_cases hc : rs.all Rv.clean = true
  · refine ⟨F, rs.map Rv.rd, x, hr.fz hc, by simpa using hl, ?_⟩
    cases hm : m (rs.map Rv.rd) with
    | stuck => rw [hm] at o; exact o
    | exn x => rw [hm] at o; simp only [callO, hc, true_or, if_true] at o; exact o
    | ok t => rw [hm] at o; simp only [callO, fin, hc, true_or, if_true] at o; exact o
  · refine ⟨H, rs.map Rv.rd, Ex.refl H, hr.is x, by simpa using hl, ?_⟩
    cases hm : m (rs.map Rv.rd) with
    | stuck => rw [hm] at o; exact o
    | exn y =>
      rw [hm] at o
      simp only [callO] at o
      split at o
      · rename_i h
        rcases h with h | h
        · exact absurd h hc
        · exact fun c a F' H' e ha => o c a _ H' (over_ext x e) ⟨ha.1, .inl h⟩
      · exact o.elim
    | ok t =>
      rw [hm] at o
      simp only [callO, fin] at o
      split at o
      · rename_i h
        rcases h with h | h
        · exact absurd h hc
        · intro v F' H' Rn e nw
          cases t with
          | fz d =>
            refine o v (over F H F') H' [] (over_ext x e) (New.fz ?_)
            exact nw.own.2.any h
          | _ => cases h
      · exact o.elim
section
variable {X : Cx} {C : Cn} {e a b c : Expr} {m ma mb mc : Den} {pos p p2 : Pos} {es rest : List Expr} {x : Str} {k n : Nat} {fn : Fn} {ms : Dens}
theorem de_call (h : Defd X.prog X.w X.K X.mg X.base k x n fn) (hr : Room k X.A) (hg : Gl X x) (tk : Thr X C) (ha : DA X C (e :: es) ms) (hn : (e :: es).length = n := by rfl) (hdb : (x == ("__debug__" : Str)) = false := by decide)
    (he : starEach (e :: es) X.env = (false, eval e X.env) :: starEach es X.env := by rfl) (hpl : (backTo pos (starEach es X.env)).any (·.1) = false := by rfl) :
    DE X C (.Call (.Name x p) (e :: es) [] pos) (Den.call fn ms) := by
  obtain ⟨f, fd, ps, F, hm, hk, hb⟩ := h
  refine DE.of ((pe_callSD (E := fun σ c d H => C.E c d σ H) F hr hg hm hk hb .nil tk.at_ ha.pa hdb he hpl).imp fun σ H Q ⟨F, env, Rg, st, o⟩ => ?_) (fun _ => rfl)
  refine dens_bnd st o fun rs vs F1 H1 hm1 e1 st1 rd o1 => ?_
  rw [List.append_nil]
  exact call_out st1.exF rd (by rw [ha.len _ _ hm1]; exact hn) o1
theorem de_call0 (h : Defd X.prog X.w X.K X.mg X.base k x 0 fn) (hr : Room k X.A) (hg : Gl X x) (tk : Thr X C) (hdb : (x == ("__debug__" : Str)) = false := by decide) :
    DE X C (.Call (.Name x p) [] [] pos) (Den.call fn Dens.nil) := by
  obtain ⟨f, fd, ps, F, hm, hk, hb⟩ := h
  refine DE.of ⟨fun pins s σ H Q I hw => ?_⟩ (fun _ => rfl)
  refine wpAny_Call_Name_kw (ld_glob I hg hm ?_ hdb)
  refine PySem.W.callWith_K0 I.kIn hk (run_fnSD (us := []) (vs := []) (E := fun σ c d H => C.E c d σ H) F hr hb .nil (tk.at_ σ) I .nil ?_)
  obtain ⟨F1, env, Rg, st, o⟩ := hw
  exact call_out (rs := []) (vs := []) st.exF trivial rfl o
end
/-! ### what a def's body gives -/
def startE (n : Nat) (ds : List D) : Env' := ds.map (fun d => some (.fz d)) ++ List.replicate (n - ds.length) none
def fnOf (n : Nat) (ms : DenS) : Fn := fun ds => match ms (startE n ds) with
  | .ret t => .ok t
  | .nx _ => .ok (.fz .non)
  | .exn x _ => .exn x
  | _ => .stuck
theorem ownE_none {K : PySem.W.Frag} {F H : Hp} : ∀ n, OwnE K F H (List.replicate n none) (List.replicate n none) []
  | 0 => rfl
  | n + 1 => by rw [List.replicate_succ]; exact ownE_none n
theorem ownE_start {K : PySem.W.Frag} {F H : Hp} (k : Nat) : ∀ {ds : List D} {vs : List V}, IsL K F ds vs → OwnE K F H (ds.map (fun d => some (.fz d)) ++ List.replicate k none) (vs.map some ++ List.replicate k none) []
  | [], [], _ => ownE_none k
  | [], _ :: _, h => h.elim
  | _ :: _, [], h => h.elim
  | _ :: _, _ :: _, h => ⟨[], [], rfl, ⟨rfl, h.1⟩, ownE_start k h.2⟩
theorem stt_start {K : PySem.W.Frag} {F H : Hp} {N : List Str} {ds : List D} {vs : List V} (x : Ex F H) (h : IsL K F ds vs) : Stt K H F F H (L2.start N vs) (startE N.length ds) [] where
  exG := Ex.refl H
  exF := x
  sep := fun _ _ _ => rfl
  own := by
    unfold L2.start startE
    rw [h.len]
    exact ownE_start _ h
  nd := List.nodup_nil
  out := fun _ h => nomatch h
def Cn.body (F H : Hp) (E : XK) : Cn := ⟨H, F, fun c d _ H' => E c d H'⟩
theorem fn_start {K : PySem.W.Frag} {F H : Hp} {Q : VK} {E : XK} {N : List Str} {ms : DenS} {ds : List D} {vs : List V} (x : Ex F H) (h : IsL K F ds vs) (o : OutF K F H Q E (fnOf N.length ms ds)) :
    tDenS K (Cn.body F H E) ms { nx := fun _ H' => Q .non H', rt := Q } (L2.start N vs) H := by
  refine ⟨F, startE N.length ds, [], stt_start x h, ?_⟩
  unfold fnOf at o
  cases hm : ms (startE N.length ds) with
  | stuck => rw [hm] at o; exact o
  | brk _ => rw [hm] at o; exact o.elim
  | cnt _ => rw [hm] at o; exact o.elim
  | nx env => rw [hm] at o; exact fun σ' F' H' R' e st => o .non F' H' [] ⟨st.exG, st.exF, fun a u h => st.sep a u h⟩ (New.fz rfl)
  | exn y env => rw [hm] at o; exact fun c a σ' F' H' R' e st ha => o c a F' H' ⟨st.exG, st.exF, fun a u h => st.sep a u h⟩ ha
  | ret t => rw [hm] at o; exact fun v F' H' Rn e1 e2 nw => o v F' H' Rn e2 nw
/-- THE RULE: a def of the module -/
theorem def_ok {P : Program} {w : World} {K : PySem.W.Frag} {mg : Str → Option Value} {base : Heap} {x qual : Str} {params : Arguments} {body : List Stmt} {scope : Scope} {f : Addr} {fd : FuncData} {N ps : List Str} {k : Nat} {ms : DenS} {n : Nat}
    (F : FunD K x qual params body scope [] [] f fd) (hmg : mg x = some (.ref f)) (S : FnScope N ps scope)
    (hb : ∀ (kV doc pm : Value) (an : Option Addr) (cdv ct : Value) (us : List Value), us.length = ps.length → bindArgs (PySem.W.fnOf x qual params body scope .none kV doc pm an cdv ct) ⟨us, []⟩ = pure (ps.zip us))
    (hn : ps.length = n)
    (h : ∀ (cdv : Value) (A : Around) (outer : List Env) (s : Shared) (H F0 : Hp) (E : XK), Room k (A.deeper (envOfC qual scope s.heap.objs.size f cdv)) →
      DSs (cxOf (L2.CX P w) P w K mg base N qual scope f cdv A outer s H E) (Cn.body F0 H E) body ms) :
    Defd P w K mg base (k + 1) x n (fnOf N.length ms) := by
  refine ⟨f, fd, ps, ?_, hmg, F.kp, FunD.bindsN F hb⟩
  refine F.ok S (fun vs H Q E ⟨F0, ds, x, hi, hl, o⟩ => by rw [← hi.len, hl, hn]) fun cdv A outer s H vs Q E hr hsp => ?_
  obtain ⟨F0, ds, x, hi, hl, o⟩ := hsp
  exact ⟨_, (h cdv A outer s H F0 E hr).pss, fn_start x hi o⟩
end PV

set_option Elab.async false
set_option linter.all false
set_option maxRecDepth 100000
set_option maxHeartbeats 2000000
namespace PV
open PySem PySem.Spec PyProof.Rows L2
theorem _root_.L2.CallR.imp {X : Cx} {f : Value} {r r' : List V → Hp → VK → Prop} (h : CallR X f r) (i : ∀ xs H Q, r' xs H Q → r xs H Q) : CallR X f r' := fun pins s σ H xs us Q I rx hw => h pins s σ H xs us Q I rx (i xs H Q hw)
def Den.fn (f : List D → Option T) (ms : Dens) : Den := fun env => (ms env).bnd fun rs => fin rs (f (rs.map Rv.rd))
section
variable {X : Cx} {C : Cn} {e : Expr} {pos p : Pos} {es : List Expr} {x : Str} {ms : Dens} {f : List D → Option T} {id T : String}
theorem fn_tCB {σ : L2.St} {H : Hp} {Q : VK} (ha : DA X C es ms) (h : tDen X.K C (Den.fn f ms) σ H Q) : tCB (rV X.K f) (tDens X.K C ms) σ H Q := by
  obtain ⟨F, env, Rg, st, o⟩ := h
  refine dens_bnd st o fun rs vs F1 H1 hm1 e1 st1 rd o1 => ?_
  exact fin_rV st1.exF o1 rd
/-- a built-in function -/
theorem de_callB (hc : CallR X (.builtin id) (rV X.K f)) (hg : Gl X x) (hm : X.mg x = none) (hv : bootBuiltins x = some (.builtin id)) (ha : DA X C (e :: es) ms) (hn : x ≠ "__name__" := by decide) (hdb : (x == ("__debug__" : Str)) = false := by decide)
    (he : starEach (e :: es) X.env = (false, eval e X.env) :: starEach es X.env := by rfl) (hpl : (backTo pos (starEach es X.env)).any (·.1) = false := by rfl) : DE X C (.Call (.Name x p) (e :: es) [] pos) (Den.fn f ms) :=
  DE.of ((pe_callB hc hg hm hv ha.pa hn hdb he hpl).imp fun σ H Q h => fn_tCB ha h) (fun _ => rfl)
/-- a built-in type, called -/
theorem de_callT (hc : CallR X (.type T) (rV X.K f)) (hg : Gl X x) (hm : X.mg x = none) (hv : bootBuiltins x = some (.type T)) (ha : DA X C (e :: es) ms) (hn : x ≠ "__name__" := by decide) (hdb : (x == ("__debug__" : Str)) = false := by decide)
    (he : starEach (e :: es) X.env = (false, eval e X.env) :: starEach es X.env := by rfl) (hpl : (backTo pos (starEach es X.env)).any (·.1) = false := by rfl) : DE X C (.Call (.Name x p) (e :: es) [] pos) (Den.fn f ms) :=
  DE.of ((pe_callTy hc hg hm hv ha.pa hn hdb he hpl).imp fun σ H Q h => fn_tCB ha h) (fun _ => rfl)
end
/-! ### built-ins -/
def f1 (g : D → Option T) : List D → Option T := fun ds => match ds with
  | [d] => g d
  | _ => none
def f2 (g : D → D → Option T) : List D → Option T := fun ds => match ds with
  | [d, e] => g d e
  | _ => none
def gI (i : Int) : Option T := some (.fz (.int i))
def gB (b : Bool) : Option T := some (.fz (.bl b))
theorem rV_1 {K : PySem.W.Frag} {g : D → Option T} {xs : List V} {H : Hp} {Q : VK} (h : rV K (f1 g) xs H Q) : ∃ F d t x, xs = [x] ∧ Ex F H ∧ Is K H d x ∧ (Is K F d x ∨ t.scal = true) ∧ g d = some t ∧ ∀ v F' H' Rn, Ext F H F' H' → New K H F' H' t v Rn → Q v H' := by
  obtain ⟨F, ds, t, ex, hx, hy, ht, q⟩ := h
  match ds, xs, hx, ht with
  | [d], [x], hx, ht => exact ⟨F, d, t, x, rfl, ex, hx.1, hy.imp (fun h => h.1) id, ht, q⟩
theorem rV_2 {K : PySem.W.Frag} {g : D → D → Option T} {xs : List V} {H : Hp} {Q : VK} (h : rV K (f2 g) xs H Q) : ∃ F d d2 t x x2, xs = [x, x2] ∧ Ex F H ∧ Is K H d x ∧ Is K H d2 x2 ∧ ((Is K F d x ∧ Is K F d2 x2) ∨ t.scal = true) ∧ g d d2 = some t ∧ ∀ v F' H' Rn, Ext F H F' H' → New K H F' H' t v Rn → Q v H' := by
  obtain ⟨F, ds, t, ex, hx, hy, ht, q⟩ := h
  match ds, xs, hx, ht with
  | [d, d2], [x, x2], hx, ht => exact ⟨F, d, d2, t, x, x2, rfl, ex, hx.1, hx.2.1, hy.imp (fun h => ⟨h.1, h.2.1⟩) id, ht, q⟩
theorem give {K : PySem.W.Frag} {F H : Hp} {Q : VK} {d : D} {v : V} (ex : Ex F H) (q : ∀ v F' H' Rn, Ext F H F' H' → New K H F' H' (.fz d) v Rn → Q v H') (i : Is K F d v) : Q v H := q v F H [] (Ext.refl ex) (New.fz i)

def lenD : D → Option T
  | .str s => gI s.length
  | .lst xs => gI xs.length
  | .tup xs => gI xs.length
  | .wtp xs => gI xs.length
  | .scr ns => gI ns.length
  | _ => none
def absD : D → Option T
  | .int i => gI (if i < 0 then -i else i)
  | _ => none
/-- int(text) -/
def intS (s : List Nat) : Option Int := if s.length ≤ 640 then PySem.intText? (S s) else none
def intD : D → Option T
  | .int i => gI i
  | .bl b => gI (if b then 1 else 0)
  | .str s => (intS s).map fun i => .fz (.int i)
  | _ => none
def codes (s : Str) : List Nat := s.cps.toList
def strI (i : Int) : List Nat := codes (toString i : String)
def maxD : D → D → Option T
  | .int i, .int j => gI (if j > i then j else i)
  | _, _ => none
def minD : D → D → Option T
  | .int i, .int j => gI (if j < i then j else i)
  | _, _ => none
def blsD : List D → Option (List Bool)
  | [] => some []
  | .bl b :: ds => (blsD ds).map (b :: ·)
  | _ => none
def intsD : List D → Option (List Int)
  | [] => some []
  | .int b :: ds => (intsD ds).map (b :: ·)
  | _ => none
theorem blsD_ok {K : PySem.W.Frag} {F : Hp} : ∀ {ds : List D} {bs : List Bool} {vs : List V}, blsD ds = some bs → IsL K F ds vs → vs = bs.map V.bl
  | [], bs, [], e, _ => by cases e; rfl
  | [], _, _ :: _, _, h => h.elim
  | .bl b :: ds, bs, [], e, h => h.elim
  | .bl b :: ds, bs, v :: vs, e, h => by
    simp only [blsD, Option.map_eq_some_iff] at e
    obtain ⟨bs', e1, rfl⟩ := e
    rw [blsD_ok e1 h.2]
    have : v = .bl b := h.1
    rw [this]; rfl
theorem intsD_ok {K : PySem.W.Frag} {F : Hp} : ∀ {ds : List D} {bs : List Int} {vs : List V}, intsD ds = some bs → IsL K F ds vs → vs = bs.map V.int
  | [], bs, [], e, _ => by cases e; rfl
  | [], _, _ :: _, _, h => h.elim
  | .int b :: ds, bs, [], e, h => h.elim
  | .int b :: ds, bs, v :: vs, e, h => by
    simp only [intsD, Option.map_eq_some_iff] at e
    obtain ⟨bs', e1, rfl⟩ := e
    rw [intsD_ok e1 h.2]
    have : v = .int b := h.1
    rw [this]; rfl
def allD : D → Option T
  | .lst ds => (blsD ds).bind fun bs => gB (bs.all id)
  | _ => none
def anyD : D → Option T
  | .lst ds => (blsD ds).bind fun bs => gB (bs.any id)
  | _ => none
def sumD : D → Option T
  | .lst ds => (intsD ds).bind fun bs => gI bs.sum
  | _ => none
def listD : D → Option T
  | .lst xs => some (T.of xs)
  | .tup xs => some (T.of xs)
  | .scr ns => some (T.of (ns.map .int))
  | _ => none
def tupleD : D → Option T
  | .lst xs => some (.fz (.tup xs))
  | .tup xs => some (.fz (.tup xs))
  | _ => none
def tyD : D → Option String
  | .non => some "NoneType"
  | .bl _ => some "bool"
  | .int _ => some "int"
  | .str _ => some "str"
  | .lst _ => some "list"
  | .scr _ => some "list"
  | .tup _ => some "tuple"
  | .dic _ _ => some "dict"
  | .wtp _ => some "tuple"
  | .dit _ _ => none
  | .ty _ => none
  | .ins _ _ _ => none
def isiD : D → D → Option T
  | d, .ty n => (tyD d).bind fun t => (kitB t n).bind gB
  | _, _ => none
section
variable {X : Cx}
theorem b_len : CallR X (.builtin "len") (rV X.K (f1 lenD)) := call_len.imp fun xs H Q h => by
  obtain ⟨F, d, t, x, rfl, ex, i, hy, ht, q⟩ := rV_1 h
  cases d with
  | str s =>
    cases ht
    obtain ⟨rfl, ok⟩ := i
    exact ⟨_, s.length, rfl, ⟨ok.line, (S_len s).symm⟩, give ex q rfl⟩
  | lst ds =>
    cases ht
    obtain ⟨a, vs, rfl, h1, h2⟩ := i
    exact ⟨_, ds.length, rfl, .inl ⟨vs, SqL.of h1, h2.len⟩, give ex q rfl⟩
  | tup ds =>
    cases ht
    obtain ⟨a, vs, rfl, h1, h2⟩ := i
    exact ⟨_, ds.length, rfl, .inr ⟨vs, h1.sqt, h2.len⟩, give ex q rfl⟩
  | wtp ds =>
    cases ht
    obtain ⟨a, vs, rfl, h1, h2⟩ := i
    exact ⟨_, ds.length, rfl, .inr ⟨vs, h1, h2.len⟩, give ex q rfl⟩
  | scr ns =>
    cases ht
    obtain ⟨a, rfl, h1⟩ := i
    exact ⟨_, ns.length, rfl, .inl ⟨_, h1, by simp⟩, give ex q rfl⟩
  | _ => cases ht
theorem b_abs : CallR X (.builtin "abs") (rV X.K (f1 absD)) := call_abs.imp fun xs H Q h => by
  obtain ⟨F, d, t, x, rfl, ex, i, hy, ht, q⟩ := rV_1 h
  cases d with
  | int n =>
    cases ht
    cases i
    exact ⟨n, rfl, give ex q rfl⟩
  | _ => cases ht
theorem b_int : CallR X (.type "int") (rV X.K (f1 intD)) := (CallR.or call_int1 call_int_str).imp fun xs H Q h => by
  obtain ⟨F, d, t, x, rfl, ex, i, hy, ht, q⟩ := rV_1 h
  cases d with
  | int n =>
    cases ht
    cases i
    exact .inl (.inl ⟨n, rfl, give ex q rfl⟩)
  | bl b =>
    cases ht
    cases i
    exact .inl (.inr ⟨b, rfl, give ex q rfl⟩)
  | str s =>
    obtain ⟨rfl, ok⟩ := i
    simp only [intD, intS, Option.map_eq_some_iff] at ht
    obtain ⟨n, e, rfl⟩ := ht
    split at e
    · rename_i hl
      exact .inr ⟨_, n, rfl, e, by rw [S_len]; exact hl, give ex q rfl⟩
    · cases e
  | _ => cases ht
theorem b_max (hc : X.calm = true) : CallR X (.builtin "max") (rV X.K (f2 maxD)) := (call_max2 hc).imp fun xs H Q h => by
  obtain ⟨F, d, d2, t, x, x2, rfl, ex, i, i2, hy, ht, q⟩ := rV_2 h
  cases d <;> cases d2 <;> first | (cases ht; done) | skip
  cases ht
  cases i
  cases i2
  exact ⟨_, _, rfl, give ex q rfl⟩
theorem b_min (hc : X.calm = true) : CallR X (.builtin "min") (rV X.K (f2 minD)) := (call_min2 hc).imp fun xs H Q h => by
  obtain ⟨F, d, d2, t, x, x2, rfl, ex, i, i2, hy, ht, q⟩ := rV_2 h
  cases d <;> cases d2 <;> first | (cases ht; done) | skip
  cases ht
  cases i
  cases i2
  exact ⟨_, _, rfl, give ex q rfl⟩
theorem b_all (hc : X.calm = true) : CallR X (.builtin "all") (rV X.K (f1 allD)) := (cr_all hc).imp fun xs H Q h => by
  obtain ⟨F, d, t, x, rfl, ex, i, hy, ht, q⟩ := rV_1 h
  cases d with
  | lst ds =>
    simp only [allD, Option.bind_eq_some_iff] at ht
    obtain ⟨bs, e, ht⟩ := ht
    cases ht
    obtain ⟨a, vs, rfl, h1, h2⟩ := i
    exact ⟨a, bs, rfl, by rw [← blsD_ok e h2]; exact SqL.of h1, give ex q rfl⟩
  | _ => cases ht
theorem b_any (hc : X.calm = true) : CallR X (.builtin "any") (rV X.K (f1 anyD)) := (cr_any hc).imp fun xs H Q h => by
  obtain ⟨F, d, t, x, rfl, ex, i, hy, ht, q⟩ := rV_1 h
  cases d with
  | lst ds =>
    simp only [anyD, Option.bind_eq_some_iff] at ht
    obtain ⟨bs, e, ht⟩ := ht
    cases ht
    obtain ⟨a, vs, rfl, h1, h2⟩ := i
    exact ⟨a, bs, rfl, by rw [← blsD_ok e h2]; exact SqL.of h1, give ex q rfl⟩
  | _ => cases ht
theorem b_sum (hc : X.calm = true) : CallR X (.builtin "sum") (rV X.K (f1 sumD)) := (cr_sum hc).imp fun xs H Q h => by
  obtain ⟨F, d, t, x, rfl, ex, i, hy, ht, q⟩ := rV_1 h
  cases d with
  | lst ds =>
    simp only [sumD, Option.bind_eq_some_iff] at ht
    obtain ⟨bs, e, ht⟩ := ht
    cases ht
    obtain ⟨a, vs, rfl, h1, h2⟩ := i
    exact ⟨a, bs, rfl, by rw [← intsD_ok e h2]; exact SqL.of h1, give ex q rfl⟩
  | _ => cases ht
theorem b_list : CallR X (.type "list") (rV X.K (f1 listD)) := call_list_of.imp fun xs H Q h => by
  obtain ⟨F, d, t, x, rfl, ex, i, hy, ht, q⟩ := rV_1 h
  cases d with
  | lst ds =>
    cases ht
    obtain ⟨a, vs, rfl, h1, h2⟩ := hy.resolve_right (by simp)
    exact ⟨a, vs, rfl, .inl (SqL.of (ex _ _ h1)), fun l hl => q _ F _ [l] (Ext.newOwn ex hl) (New.lst ex hl h2)⟩
  | tup ds =>
    cases ht
    obtain ⟨a, vs, rfl, h1, h2⟩ := hy.resolve_right (by simp)
    exact ⟨a, vs, rfl, .inr (ex.sqp h1).sqt, fun l hl => q _ F _ [l] (Ext.newOwn ex hl) (New.lst ex hl h2)⟩
  | scr ns =>
    cases ht
    obtain ⟨a, rfl, h1⟩ := i
    exact ⟨a, _, rfl, .inl h1, fun l hl => q _ F _ [l] (Ext.newOwn ex hl) (New.lst ex hl (isL_ints ns))⟩
  | _ => cases ht
theorem b_tuple : CallR X (.type "tuple") (rV X.K (f1 tupleD)) := call_tuple_P.imp fun xs H Q h => by
  obtain ⟨F, d, t, x, rfl, ex, i, hy, ht, q⟩ := rV_1 h
  cases d with
  | lst ds =>
    cases ht
    obtain ⟨a, vs, rfl, h1, h2⟩ := hy.resolve_right (by simp [D.scal])
    exact ⟨a, vs, rfl, .inl ⟨SqL.of (ex _ _ h1), NewT.of ex h2 q⟩⟩
  | tup ds =>
    cases ht
    have hz := hy.resolve_right (by simp [D.scal])
    obtain ⟨a, vs, rfl, h1, h2⟩ := id hz
    exact ⟨a, vs, rfl, .inr ⟨(ex.sqp h1).sqt, give ex q hz⟩⟩
  | _ => cases ht
theorem rd_lst_ty {K : PySem.W.Frag} {H : Hp} {a : Addr} {xs : List V} (h : SqL K H a xs) : TyX K H (.ref a) (.type "list") := by
  rcases h with (h | ⟨o, h⟩) | ⟨o, its, n, h, c, _⟩
  · exact .base (.lst h)
  · exact .base (.frz h)
  · exact .kList h c
theorem rd_tup_ty {K : PySem.W.Frag} {H : Hp} {a : Addr} {xs : List V} (h : SqT K H a xs) : TyX K H (.ref a) (.type "tuple") := by
  rcases h with (h | ⟨o, h⟩) | ⟨o, its, n, h, c, _⟩
  · exact .base (.tup h)
  · exact .fTuple h
  · exact .kTuple h c
theorem ty_of {K : PySem.W.Frag} {H : Hp} {d : D} {x : V} {t : String} (i : Is K H d x) (h : tyD d = some t) : TyX K H x (.type t) := by
  cases d with
  | non => cases h; cases i; exact .base .non
  | bl b => cases h; cases i; exact .base (.bl b)
  | int b => cases h; cases i; exact .base (.int b)
  | str s => cases h; obtain ⟨rfl, ok⟩ := i; exact .base (.str _)
  | lst ds => cases h; obtain ⟨a, vs, rfl, h1, h2⟩ := i; exact rd_lst_ty (SqL.of h1)
  | scr ds => cases h; obtain ⟨a, rfl, h1⟩ := i; exact rd_lst_ty h1
  | tup ds => cases h; obtain ⟨a, vs, rfl, h1, h2⟩ := i; exact rd_tup_ty h1.sqt
  | wtp ds => cases h; obtain ⟨a, vs, rfl, h1, h2⟩ := i; exact rd_tup_ty h1
  | dic ks ds =>
    cases h
    obtain ⟨a, kvs, rfl, h1, h2⟩ := i
    rcases h1 with h1 | ⟨o, h1⟩
    · exact .base (.dK h1)
    · exact .fDict h1
  | _ => cases h
theorem b_isi : CallR X (.builtin "isinstance") (rV X.K (f2 isiD)) := call_isi.imp fun xs H Q h => by
  obtain ⟨F, d, d2, t, x, x2, rfl, ex, i, i2, hy, ht, q⟩ := rV_2 h
  cases d2 with
  | ty n =>
    simp only [isiD, Option.bind_eq_some_iff] at ht
    obtain ⟨tt, e1, bb, e2, ht⟩ := ht
    cases ht
    cases i2
    exact ⟨x, _, _, _, bb, rfl, .ty n, ty_of i e1, kit_ty e2, give ex q rfl⟩
  | _ => cases ht
/-- a built-in type by its name -/
theorem de_ty {C : Cn} {x : Str} {T : String} {p : Pos} (hg : Gl X x) (hm : X.mg x = none) (hv : bootBuiltins x = some (.type T)) (hn : x ≠ "__name__" := by decide) (hdb : (x == ("__debug__" : Str)) = false := by decide) : DE X C (.Name x p) (Den.c (.ty T)) :=
  de_c (v := .ty T) ⟨fun pins s σ H Q I h => ld_blt I hg hm hv (show EP X pins σ Q _ _ from ⟨.ty T, H, I, rfl, h⟩) hn hdb⟩ (fun _ => rfl) (fun _ => rfl)
end
end PV

set_option Elab.async false
set_option linter.all false
set_option maxRecDepth 100000
set_option maxHeartbeats 2000000
namespace PV
open PySem PySem.Spec PyProof.Rows L2
/-! ### methods of built-in types -/
def tyP (K : PySem.W.Frag) (T : String) (x : V) (H : Hp) : Prop := tyV K T x H ∨ (T = "tuple" ∧ ∃ p o u, x = .ref p ∧ H p = some (.frz o u) ∧ o.cls = .type "tuple" ∧ o.dict = none) ∨
  (T = "dict" ∧ ∃ p kvs, x = .ref p ∧ Rd H p (.dK kvs))
theorem tyP_is {X : Cx} {pins : List (Addr × Obj)} {σ : L2.St} {H : Hp} {s : Shared} {T : String} {x : V} {v : Value} (I : Inv X pins σ H s) (r : RelV x v) (ty : tyP X.K T x H) :
    s.TypeIs v T ∧ ∀ a, v = .ref a → ∃ ob, s.heap.get? a = some ob ∧ ob.dict = none := by
  rcases ty with ty | ⟨rfl, p, o, u, rfl, hp, hc, hd⟩ | ⟨rfl, p, kvs, rfl, hp⟩
  · exact tyV_is I r ty
  · cases r
    have hg := (I.hok p _ hp).1
    refine ⟨⟨o, hg, hc⟩, fun a e => ?_⟩
    cases e
    exact ⟨o, hg, hd⟩
  · cases r
    obtain ⟨_, _, vs, _, o, _, _, e, ex, _⟩ := hp.ok I.hok
    refine ⟨⟨o, e, ex.1⟩, fun a e2 => ?_⟩
    cases e2
    exact ⟨o, e, ex.2.1⟩
section
variable {X : Cx} {o e : Expr} {es : List Expr} {to : TE} {t : TA} {name : Str} {apos cpos : Pos} {T id : String} {r : V → List V → Hp → VK → Prop}
theorem pe_bmP (pa : PlainAttrs T) (slot : Slot T name id) (hty : typeOf (.builtin id) = pure (.type "method_descriptor")) (hm : MtR X id r) (ho : PE X o to) (ha : PA X (e :: es) t)
    (hbase : attributeBase o name X.env (eval o X.env) = eval o X.env := by rfl)
    (hfew : ((backTo cpos (starEach (e :: es) X.env)).all (fun x => !x.1) && (backToKw cpos (keywordEach [] X.env)).all (fun x => x.1.isSome) && decide ((e :: es).length + ([] : List Keyword).length + (if ([] : List Keyword).isEmpty then 0 else 1) < 30)) = true := by rfl)
    (hline : (apos.endLine == cpos.line) = true := by rfl) (hs : starEach (e :: es) X.env = (false, eval e X.env) :: starEach es X.env := by rfl) (hplain : (backTo cpos (starEach es X.env)).any (·.1) = false := by rfl) :
    PE X (.Call (.Attribute o name apos) (e :: es) [] cpos) (fun σ H Q => to σ H fun x H1 => tyP X.K T x H1 ∧ t σ H1 fun xs H2 => r x xs H2 Q) := by
  refine ⟨fun pins s σ H Q I h => ?_⟩
  refine wpAny_Call_method_late hbase hfew hline rfl (thn (ho.run pins s σ H _ I h) fun v s1 hh => ?_)
  obtain ⟨x, H1, I1, r1, ty, q1⟩ := hh
  have h12 := tyP_is I1 r1 ty
  refine ⟨T, id, pa, slot, hty, h12.1, h12.2, ?_⟩
  have hA := ha.run cpos pins s1 σ H1 _ I1 q1
  rw [hs] at hA ⊢
  refine Calls.callWith_builtin (by show (false || (backTo cpos (starEach es X.env)).any (·.1)) = false; rw [hplain]; rfl) (Calls.evalArgs_plain ?_)
  refine thn hA fun us s2 hh => ?_
  obtain ⟨vs, H2, I2, r2, q2⟩ := hh
  exact hm pins s2 σ H2 x vs v us Q I2 r1 r2 q2
theorem pe_bmP0 (pa : PlainAttrs T) (slot : Slot T name id) (hty : typeOf (.builtin id) = pure (.type "method_descriptor")) (hm : MtR X id r) (ho : PE X o to)
    (hbase : attributeBase o name X.env (eval o X.env) = eval o X.env := by rfl) (hline : (apos.endLine == cpos.line) = true := by rfl) :
    PE X (.Call (.Attribute o name apos) [] [] cpos) (fun σ H Q => to σ H fun x H1 => tyP X.K T x H1 ∧ r x [] H1 Q) := by
  refine ⟨fun pins s σ H Q I h => ?_⟩
  refine wpAny_Call_method0_late hbase hline (thn (ho.run pins s σ H _ I h) fun v s1 hh => ?_)
  obtain ⟨x, H1, I1, r1, ty, q1⟩ := hh
  have h12 := tyP_is I1 r1 ty
  exact ⟨T, id, pa, slot, hty, h12.1, h12.2, Calls.callWith_builtin rfl (PySem.evalArgs_none (hm pins s1 σ H1 x [] v [] Q I1 r1 .nil q1))⟩
end
def tyM (T : String) : D → Bool
  | .str _ => T == "str"
  | .lst _ => T == "list"
  | .scr _ => T == "list"
  | .tup _ => T == "tuple"
  | .dic _ _ => T == "dict"
  | _ => false
theorem tyM_ok {K : PySem.W.Frag} {H : Hp} {T : String} {d : D} {x : V} (i : Is K H d x) (h : tyM T d = true) : tyP K T x H := by
  cases d with
  | str s => obtain ⟨rfl, _⟩ := i; exact .inl (show T = "str" by simpa [tyM] using h)
  | lst xs => obtain ⟨a, vs, rfl, h1, h2⟩ := i; exact .inl (.inl ⟨by simpa [tyM] using h, vs, SqL.of h1⟩)
  | scr xs => obtain ⟨a, rfl, h1⟩ := i; exact .inl (.inl ⟨by simpa [tyM] using h, _, h1⟩)
  | tup xs =>
    obtain ⟨a, vs, rfl, h1, h2⟩ := i
    have hT : T = "tuple" := by simpa [tyM] using h
    rcases h1 with ⟨o, h1, hc, hd⟩ | ⟨o, its, n, hk, hc, hd, _⟩
    · exact .inr (.inl ⟨hT, a, o, _, rfl, h1, hc, hd⟩)
    · exact .inl (.inr (.inl ⟨hT, o, hk, hc, hd⟩))
  | dic ks xs =>
    obtain ⟨a, kvs, rfl, h1, h2⟩ := i
    exact .inr (.inr ⟨by simpa [tyM] using h, a, kvs, rfl, h1⟩)
  | _ => cases h
/-- a method: of the receiver and the arguments -/
def Den.mt (T : String) (f : List D → Option PV.T) (mo : Den) (ms : Dens) : Den := fun env => (mo env).bnd fun ro => if tyM T ro.rd = true then (ms env).bnd fun rs => fin (ro :: rs) (f (ro.rd :: rs.map Rv.rd)) else .stuck
def MtV (X : Cx) (id : String) (f : List D → Option PV.T) : Prop := MtR X id (fun x xs H Q => rV X.K f (x :: xs) H Q)
section
variable {X : Cx} {C : Cn} {o e : Expr} {es : List Expr} {mo : Den} {ms : Dens} {name : Str} {apos cpos : Pos} {T id : String} {f : List D → Option PV.T}
theorem de_mt (pa : PlainAttrs T) (slot : Slot T name id) (hty : typeOf (.builtin id) = pure (.type "method_descriptor")) (hm : MtV X id f) (ho : DE X C o mo) (ha : DA X C (e :: es) ms)
    (hbase : attributeBase o name X.env (eval o X.env) = eval o X.env := by rfl)
    (hfew : ((backTo cpos (starEach (e :: es) X.env)).all (fun x => !x.1) && (backToKw cpos (keywordEach [] X.env)).all (fun x => x.1.isSome) && decide ((e :: es).length + ([] : List Keyword).length + (if ([] : List Keyword).isEmpty then 0 else 1) < 30)) = true := by rfl)
    (hline : (apos.endLine == cpos.line) = true := by rfl) (hs : starEach (e :: es) X.env = (false, eval e X.env) :: starEach es X.env := by rfl) (hplain : (backTo cpos (starEach es X.env)).any (·.1) = false := by rfl) :
    DE X C (.Call (.Attribute o name apos) (e :: es) [] cpos) (Den.mt T f mo ms) := by
  refine DE.of ((pe_bmP pa slot hty hm ho.pe ha.pa hbase hfew hline hs hplain).imp fun σ H Q ⟨F, env, Rg, st, o⟩ => ?_) (fun _ => rfl)
  refine den_bnd st o fun ro v F1 H1 e1 st1 r1 o1 => ?_
  split at o1
  · rename_i ht
    refine ⟨tyM_ok (r1.is st1.exF) ht, ?_⟩
    refine dens_bnd st1 o1 fun rs vs F2 H2 hm2 e2 st2 rd o2 => ?_
    exact fin_rV (rs := ro :: rs) st2.exF o2 ⟨r1.mono e2 st1.exF, rd⟩
  · exact o1.elim
theorem de_mt0 (pa : PlainAttrs T) (slot : Slot T name id) (hty : typeOf (.builtin id) = pure (.type "method_descriptor")) (hm : MtV X id f) (ho : DE X C o mo)
    (hbase : attributeBase o name X.env (eval o X.env) = eval o X.env := by rfl) (hline : (apos.endLine == cpos.line) = true := by rfl) :
    DE X C (.Call (.Attribute o name apos) [] [] cpos) (Den.mt T f mo Dens.nil) := by
  refine DE.of ((pe_bmP0 pa slot hty hm ho.pe hbase hline).imp fun σ H Q ⟨F, env, Rg, st, o⟩ => ?_) (fun _ => rfl)
  refine den_bnd st o fun ro v F1 H1 e1 st1 r1 o1 => ?_
  split at o1
  · rename_i ht
    exact ⟨tyM_ok (r1.is st1.exF) ht, fin_rV (rs := [ro]) st1.exF o1 ⟨r1, trivial⟩⟩
  · exact o1.elim
end
/-! ### texts -/
def strsD : List D → Option (List (List Nat))
  | [] => some []
  | .str b :: ds => (strsD ds).map (b :: ·)
  | _ => none
@[simp] theorem strsD_map (xs : List (List Nat)) : strsD (xs.map .str) = some xs := by
  induction xs with
  | nil => rfl
  | cons x xs ih => simp [strsD, ih]
@[simp] theorem strsD_map' {α : Type} (f : α → List Nat) (xs : List α) : strsD (xs.map fun x => .str (f x)) = some (xs.map f) := by
  induction xs with
  | nil => rfl
  | cons x xs ih => simp [strsD, ih]
@[simp] theorem blsD_map {α : Type} (f : α → Bool) (xs : List α) : blsD (xs.map fun x => .bl (f x)) = some (xs.map f) := by
  induction xs with
  | nil => rfl
  | cons x xs ih => simp [blsD, ih]
@[simp] theorem intsD_map {α : Type} (f : α → Int) (xs : List α) : intsD (xs.map fun x => .int (f x)) = some (xs.map f) := by
  induction xs with
  | nil => rfl
  | cons x xs ih => simp [intsD, ih]
theorem strsD_ok {K : PySem.W.Frag} {F : Hp} : ∀ {ds : List D} {bs : List (List Nat)} {vs : List V}, strsD ds = some bs → IsL K F ds vs → vs = (bs.map S).map V.str ∧ ∀ b ∈ bs, OkS b
  | [], bs, [], e, _ => by cases e; exact ⟨rfl, fun _ h => nomatch h⟩
  | [], _, _ :: _, _, h => h.elim
  | .str b :: ds, bs, [], e, h => h.elim
  | .str b :: ds, bs, v :: vs, e, h => by
    simp only [strsD, Option.map_eq_some_iff] at e
    obtain ⟨bs', e1, rfl⟩ := e
    obtain ⟨e2, ok⟩ := strsD_ok e1 h.2
    rw [e2]
    have h1 := h.1
    obtain ⟨rfl, ok1⟩ := h1
    refine ⟨rfl, fun c hc => ?_⟩
    rcases List.mem_cons.mp hc with rfl | hc
    · exact ok1
    · exact ok c hc
theorem isL_strs {K : PySem.W.Frag} {F : Hp} : ∀ {xs : List (List Nat)}, (∀ x ∈ xs, OkS x) → IsL K F (xs.map .str) ((xs.map S).map V.str)
  | [], _ => trivial
  | x :: xs, h => ⟨⟨rfl, h x (by simp)⟩, isL_strs fun y hy => h y (by simp [hy])⟩
theorem spl_mem {sep : List Nat} : ∀ (a acc : List Nat) (k : Nat) (p : List Nat), p ∈ TL.spl sep k acc a → (∀ c ∈ p, c ∈ acc ∨ c ∈ a) ∧ p.length ≤ acc.length + a.length
  | [], acc, k, p, h => by
    rw [TL.spl_nil] at h
    rw [List.mem_singleton.mp h]
    exact ⟨fun c hc => .inl hc, by simp⟩
  | c :: r, acc, 0, p, h => by
    unfold TL.spl at h
    split at h
    · rcases List.mem_cons.mp h with rfl | h
      · exact ⟨fun c hc => .inl hc, by simp⟩
      · obtain ⟨h1, h2⟩ := spl_mem r [] _ p h
        refine ⟨fun x hx => .inr ?_, by simp at h2 ⊢; omega⟩
        rcases h1 x hx with h | h
        · cases h
        · exact List.mem_cons_of_mem _ h
    · obtain ⟨h1, h2⟩ := spl_mem r (acc ++ [c]) 0 p h
      refine ⟨fun x hx => ?_, by simp at h2 ⊢; omega⟩
      rcases h1 x hx with h | h
      · rcases List.mem_append.mp h with h | h
        · exact .inl h
        · exact .inr (by rw [List.mem_singleton.mp h]; exact List.mem_cons_self)
      · exact .inr (List.mem_cons_of_mem _ h)
  | c :: r, acc, k + 1, p, h => by
    have h : p ∈ TL.spl sep k acc r := h
    obtain ⟨h1, h2⟩ := spl_mem r acc k p h
    exact ⟨fun x hx => (h1 x hx).imp id (List.mem_cons_of_mem _), by simp at h2 ⊢; omega⟩
theorem joinL_mem {sep : List Nat} : ∀ (ps : List (List Nat)), (∀ c ∈ TL.joinL sep ps, c ∈ sep ∨ ∃ p ∈ ps, c ∈ p) ∧ (TL.joinL sep ps).length ≤ (ps.map (·.length)).sum + ps.length * sep.length
  | [] => ⟨fun c h => by simp [TL.joinL] at h, by simp [TL.joinL]⟩
  | [p] => ⟨fun c h => .inr ⟨p, by simp, h⟩, by simp [TL.joinL]⟩
  | p :: q :: r => by
    obtain ⟨h1, h2⟩ := joinL_mem (sep := sep) (q :: r)
    unfold TL.joinL
    refine ⟨fun c h => ?_, ?_⟩
    · rcases List.mem_append.mp h with h | h
      · exact .inr ⟨p, by simp, h⟩
      · rcases List.mem_append.mp h with h | h
        · exact .inl h
        · rcases h1 c h with h | ⟨x, hx, h⟩
          · exact .inl h
          · exact .inr ⟨x, List.mem_cons_of_mem _ hx, h⟩
    · simp only [List.length_append, List.map_cons, List.sum_cons, List.length_cons, Nat.add_mul, Nat.one_mul] at h2 ⊢
      omega
theorem isL2 {K : PySem.W.Frag} {H : Hp} {d e : D} {x : V} : ∀ {xs : List V}, IsL K H [d, e] (x :: xs) → ∃ y, xs = [y] ∧ Is K H d x ∧ Is K H e y
  | [], h => h.2.elim
  | [y], h => ⟨y, rfl, h.1, h.2.1⟩
  | _ :: _ :: _, h => h.2.2.elim
theorem is_tup {K : PySem.W.Frag} {H : Hp} {ds : List D} {x : V} (h : Is K H (.tup ds) x) : ∃ a vs, x = .ref a ∧ SqP K H a vs ∧ IsL K H ds vs := h
theorem is_lst {K : PySem.W.Frag} {H : Hp} {ds : List D} {x : V} (h : Is K H (.lst ds) x) : ∃ a vs, x = .ref a ∧ H a = some (.lst vs) ∧ IsL K H ds vs := h
theorem is_str {K : PySem.W.Frag} {H : Hp} {s : List Nat} {x : V} (h : Is K H (.str s) x) : x = .str (S s) ∧ OkS s := h
def splitD : List D → Option T := fun ds => match ds with
  | [.str a, .str b] => if b ≠ [] ∧ b.all (· < 256) = true ∧ a.length ≤ 16777214 then some (T.of ((TL.spl b 0 [] a).map .str)) else none
  | _ => none
def joinD : List D → Option T := fun ds => match ds with
  | [.str a, .lst ys] => (strsD ys).bind fun ys => if (ys.map (·.length)).sum + ys.length * a.length ≤ 16777216 then some (.fz (.str (TL.joinL a ys))) else none
  | [.str a, .tup ys] => (strsD ys).bind fun ys => if (ys.map (·.length)).sum + ys.length * a.length ≤ 16777216 then some (.fz (.str (TL.joinL a ys))) else none
  | _ => none
def idxD : List D → Option T := fun ds => match ds with
  | [.tup ys, .str z] => (strsD ys).bind fun ys => if z ∈ ys then gI (ys.idxOf z : Nat) else none
  | _ => none
section
variable {X : Cx}
theorem _root_.L2.MtR.imp {id : String} {r r' : V → List V → Hp → VK → Prop} (h : MtR X id r) (i : ∀ x xs H Q, r' x xs H Q → r x xs H Q) : MtR X id r' := fun pins s σ H x xs v us Q I rx rs q => h pins s σ H x xs v us Q I rx rs (i x xs H Q q)
theorem m_split : MtV X "str.split" splitD := mt_split.imp fun x xs H Q h => by
  obtain ⟨F, ds, t, ex, hx, hy, ht, q⟩ := h
  unfold splitD at ht
  split at ht
  · rename_i a b
    split at ht
    · rename_i hc
      cases ht
      match xs, hx with
      | [y], hx =>
        obtain ⟨⟨rfl, oka⟩, ⟨rfl, okb⟩, _⟩ := hx
        refine ⟨_, _, rfl, rfl, ?_, by rw [S_len, sizeLine_eq]; omega, fun p hp => ?_⟩
        · rw [S_len]; cases b <;> simp_all
        · have e : Txt.split (S a) (S b) = (TL.spl b 0 [] a).map S := SX.split_S hc.1 hc.2.1
          rw [e]
          refine q _ F _ [p] (Ext.newOwn ex hp) (New.lst ex hp (isL_strs fun z hz => ?_))
          obtain ⟨h1, h2⟩ := spl_mem _ _ _ _ hz
          exact oka.sub (fun c hc => (h1 c hc).resolve_left (by simp)) (by simpa using h2)
    · cases ht
  · cases ht
theorem m_join : MtV X "str.join" joinD := mt_join.imp fun x xs H Q h => by
  obtain ⟨F, ds, t, ex, hx, hy, ht, q⟩ := h
  have fin : ∀ (a : List Nat) (ys : List (List Nat)), OkS a → (∀ y ∈ ys, OkS y) → (ys.map (·.length)).sum + ys.length * a.length ≤ 16777216 → OkS (TL.joinL a ys) := fun a ys oka oky hl => by
    obtain ⟨h1, h2⟩ := joinL_mem (sep := a) ys
    refine ⟨fun c hc => ?_, by omega⟩
    rcases h1 c hc with h | ⟨y, hy, h⟩
    · exact oka.1 c h
    · exact (oky y hy).1 c h
  have len : ∀ (a : List Nat) (ys : List (List Nat)), (ys.map (·.length)).sum + ys.length * a.length ≤ 16777216 → ((ys.map S).map (·.length)).sum + (ys.map S).length * (S a).length ≤ 16777216 := fun a ys hl => by
    rw [S_len, List.length_map, List.map_map]
    have : ((fun x : Str => x.length) ∘ S) = fun y : List Nat => y.length := funext fun y => S_len y
    rw [this]; exact hl
  unfold joinD at ht
  split at ht
  · rename_i a ys
    simp only [Option.bind_eq_some_iff] at ht
    obtain ⟨bs, e, ht⟩ := ht
    split at ht
    · rename_i hc
      cases ht
      obtain ⟨y, rfl, hx1, hx2⟩ := isL2 hx
      · obtain ⟨rfl, oka⟩ := is_str hx1
        obtain ⟨p, vs, rfl, h1, h2⟩ := is_lst hx2
        obtain ⟨rfl, oky⟩ := strsD_ok e h2
        refine ⟨_, p, bs.map S, rfl, rfl, .inl (SqL.of h1), len a bs hc, ?_⟩
        rw [show Txt.join (S a) (bs.map S) = S (TL.joinL a bs) from SX.join_S a bs]
        exact give ex q ⟨rfl, fin a bs oka oky hc⟩
    · cases ht
  · rename_i a ys
    simp only [Option.bind_eq_some_iff] at ht
    obtain ⟨bs, e, ht⟩ := ht
    split at ht
    · rename_i hc
      cases ht
      obtain ⟨y, rfl, hx1, hx2⟩ := isL2 hx
      · obtain ⟨rfl, oka⟩ := is_str hx1
        obtain ⟨p, vs, rfl, h1, h2⟩ := is_tup hx2
        obtain ⟨rfl, oky⟩ := strsD_ok e h2
        refine ⟨_, p, bs.map S, rfl, rfl, .inr h1.sqt, len a bs hc, ?_⟩
        rw [show Txt.join (S a) (bs.map S) = S (TL.joinL a bs) from SX.join_S a bs]
        exact give ex q ⟨rfl, fin a bs oka oky hc⟩
    · cases ht
  · cases ht
theorem m_index : MtV X "tuple.index" idxD := mt_tup_index.imp fun x xs H Q h => by
  obtain ⟨F, ds, t, ex, hx, hy, ht, q⟩ := h
  unfold idxD at ht
  split at ht
  · rename_i ys z
    simp only [Option.bind_eq_some_iff] at ht
    obtain ⟨bs, e, ht⟩ := ht
    split at ht
    · rename_i hc
      cases ht
      obtain ⟨y, rfl, hx1, hx2⟩ := isL2 hx
      · obtain ⟨p, vs, rfl, h1, h2⟩ := is_tup hx1
        obtain ⟨rfl, okz⟩ := is_str hx2
        obtain ⟨rfl, oky⟩ := strsD_ok e h2
        refine ⟨p, bs.map S, S z, bs.idxOf z, rfl, rfl, h1.sqt, ?_, fun m hm => ?_, give ex q rfl⟩
        · rw [List.getElem?_map, List.getElem?_eq_getElem (List.idxOf_lt_length_iff.mpr hc)]
          simp
        · rw [List.getElem?_map]
          intro h
          simp only [Option.map_eq_some_iff] at h
          obtain ⟨y, h3, h4⟩ := h
          have h4 := S_inj h4
          subst h4
          obtain ⟨h5, h6⟩ := List.getElem?_eq_some_iff.mp h3
          have := List.not_of_lt_findIdx (p := (· == y)) (xs := bs) (by simpa [List.idxOf] using hm)
          simp [h6] at this
    · cases ht
  · cases ht
end
end PV

set_option Elab.async false
set_option linter.all false
set_option maxRecDepth 100000
set_option maxHeartbeats 400000
namespace PV
open PySem PySem.Spec PyProof.Rows L2
/-! ### a < b < c -/
def Den.chain (f g : D → D → Option T) (ma mb mc : Den) : Den := fun env => (ma env).bnd fun ra => (mb env).bnd fun rb => match f ra.rd rb.rd with
  | some (.fz (.bl true)) => (mc env).bnd fun rc => fin [rb, rc] (g rb.rd rc.rd)
  | some (.fz (.bl false)) => .ok (.val (.fz (.bl false)))
  | _ => .stuck
section
variable {X : Cx} {C : Cn} {a b c : Expr} {ma mb mc : Den} {pos : Pos} {f g : D → D → Option T}
theorem r2_bl {K : PySem.W.Frag} {C : Cn} {F H : Hp} {ra rb : Rv} {x y : V} {k : Bool} (ex : Ex F H) (r1 : RdV K C.G F H ra x) (r2 : RdV K C.G F H rb y) (hf : f ra.rd rb.rd = some (.fz (.bl k))) {Q : VK}
    (q : ∀ F' H', Ext F H F' H' → Q (.bl k) H') : R2V K f x y H Q := by
  refine ⟨F, [ra.rd, rb.rd], .fz (.bl k), ex, ⟨r1.is ex, r2.is ex, trivial⟩, .inr rfl, hf, fun v F' H' Rn e n => ?_⟩
  have : v = .bl k := n.own.2
  subst this
  exact q F' H' e
theorem chain_t {K : PySem.W.Frag} {σ : L2.St} {H : Hp} {Q : VK} (h : tDen K C (Den.chain f g ma mb mc) σ H Q) : tChain (R2V K f) (R2V K g) (tDen K C ma) (tDen K C mb) (tDen K C mc) σ H Q := by
  obtain ⟨F, env, Rg, st, o⟩ := h
  refine den_bnd st o fun ra v F1 H1 e1 st1 r1 o1 => ?_
  refine den_bnd st1 o1 fun rb u F2 H2 e2 st2 r2 o2 => ?_
  cases hf : f ra.rd rb.rd with
  | none => simp only [hf] at o2; exact o2.elim
  | some t =>
    simp only [hf] at o2
    split at o2
    · rename_i z
      cases z
      refine r2_bl st2.exF (r1.mono e2 st1.exF) r2 hf fun F3 H3 e3 => ⟨true, rfl, ?_⟩
      rw [if_pos rfl]
      refine den_bnd (st2.ext e3) (o2.ext e3) fun rc w F4 H4 e4 st4 r4 o4 => ?_
      exact fin_rV (f := fun ds => match ds with | [d, e] => g d e | _ => none) (rs := [rb, rc]) st4.exF o4 ⟨(r2.mono e3 st2.exF).mono e4 (st2.ext e3).exF, r4, trivial⟩
    · rename_i z
      cases z
      refine r2_bl st2.exF (r1.mono e2 st1.exF) r2 hf fun F3 H3 e3 => ⟨false, rfl, ?_⟩
      rw [if_neg (by simp)]
      exact (o2.ext e3).bool e3.fz
    · exact o2.elim
theorem chain_T {K : PySem.W.Frag} {σ : L2.St} {H : Hp} {Q : Bool → Hp → Prop} (hg : ∀ d e t, g d e = some t → ∃ b, t = .fz (.bl b)) (h : tTst K C (Den.chain f g ma mb mc) σ H Q) : tTest (tChain (R2V K f) (R2V K g) (tDen K C ma) (tDen K C mb) (tDen K C mc)) σ H Q := by
  obtain ⟨F, env, Rg, st, o⟩ := h
  refine den_bndT st o fun ra v F1 H1 e1 st1 r1 o1 => ?_
  refine den_bndT st1 o1 fun rb u F2 H2 e2 st2 r2 o2 => ?_
  cases hf : f ra.rd rb.rd with
  | none => simp only [hf] at o2; exact o2.elim
  | some t =>
    simp only [hf] at o2
    split at o2
    · rename_i z
      cases z
      refine r2_bl st2.exF (r1.mono e2 st1.exF) r2 hf fun F3 H3 e3 => ⟨true, rfl, ?_⟩
      rw [if_pos rfl]
      refine den_bndT (st2.ext e3) (o2.ext e3) fun rc w F4 H4 e4 st4 r4 o4 => ?_
      refine fin_rV (C := C) (σ := σ) (f := fun ds => match ds with | [d, e] => g d e | _ => none) (rs := [rb, rc]) st4.exF ?_ ⟨(r2.mono e3 st2.exF).mono e4 (st2.ext e3).exF, r4, trivial⟩
      show OutE K C F4 H4 σ _ (fin [rb, rc] (g rb.rd rc.rd))
      unfold fin at o4 ⊢
      cases ht : g rb.rd rc.rd with
      | none => rw [ht] at o4; exact o4
      | some t =>
        rw [ht] at o4
        simp only at o4 ⊢
        obtain ⟨b, rfl⟩ := hg _ _ _ ht
        rw [if_pos (.inr rfl)] at o4 ⊢
        obtain ⟨b', hb', o5⟩ := o4
        cases hb'
        intro w F5 H5 Rn e5 n
        exact ⟨b, n.own.2, o5 F5 H5 e5⟩
    · rename_i z
      cases z
      refine r2_bl st2.exF (r1.mono e2 st1.exF) r2 hf fun F3 H3 e3 => ⟨false, rfl, ?_⟩
      rw [if_neg (by simp)]
      obtain ⟨b', hb', o5⟩ := o2
      cases hb'
      exact ⟨false, rfl, o5 F3 H3 e3⟩
    · exact o2.elim
theorem de_chain {op op' : CmpOp} (ho : OpR X (compareOp op) (R2V X.K f)) (ho' : OpR X (compareOp op') (R2V X.K g)) (hg : ∀ d e t, g d e = some t → ∃ b, t = .fz (.bl b)) (ha : DE X C a ma) (hb : DE X C b mb) (hc : DE X C c mc)
    (hm : lastMarks [op, op'] [b, c] = false := by with_unfolding_all rfl) : DE X C (.Compare a [op, op'] [b, c] pos) (Den.chain f g ma mb mc) :=
  ⟨(pe_chain ho ho' ha.pe hb.pe hc.pe hm).imp fun _ _ _ h => chain_t h, (pt_chain ho ho' ha.pe hb.pe hc.pe hm).imp fun _ _ _ h => chain_T hg h⟩
end
end PV

set_option Elab.async false
set_option linter.all false
set_option maxRecDepth 100000
set_option maxHeartbeats 400000
namespace PV
open PySem PySem.Spec PyProof.Rows L2
/-! ### what a slot owns is changed -/
section
variable {K : PySem.W.Frag} {F H G F0 : Hp} {σ : L2.St} {env : Env'} {R : List Addr}
theorem OwnE.mod : ∀ {env : Env'} {σ : L2.St} {R : List Addr} {i : Nat} {t : T}, OwnE K F H env σ R → env[i]? = some (some t) → R.Nodup →
    ∃ v Rt, σ[i]? = some (some v) ∧ Own K F H t v Rt ∧ (∀ r ∈ Rt, r ∈ R) ∧ Rt.Nodup ∧ ∀ F' H' t' v' Rt', Ex F F' → (∀ r ∈ R, r ∉ Rt → ∀ o, H r = some o → H' r = some o) → Own K F' H' t' v' Rt' → Rt'.Nodup → (∀ r ∈ Rt', r ∈ Rt ∨ r ∉ R) →
      ∃ R', OwnE K F' H' (env.set i (some t')) (σ.set i (some v')) R' ∧ R'.Nodup ∧ ∀ r ∈ R', r ∈ R ∨ r ∈ Rt'
  | [], [], _, _, _, _, e, _ => by simp at e
  | none :: es, o :: σ, R, 0, t, _, e, _ => by simp at e
  | none :: es, o :: σ, R, i + 1, t, h, e, nd => by
    obtain ⟨v, Rt, h1, h2, h3, h4, h5⟩ := OwnE.mod (env := es) (σ := σ) (i := i) h (by simpa using e) nd
    exact ⟨v, Rt, by simpa using h1, h2, h3, h4, fun F' H' t' v' Rt' x k o n d => h5 F' H' t' v' Rt' x k o n d⟩
  | some t0 :: es, some u :: σ, R, 0, t, h, e, nd => by
    obtain ⟨R1, R2, rfl, h1, h2⟩ := h
    simp at e
    subst e
    obtain ⟨n1, n2, n3⟩ := List.nodup_append.mp nd
    refine ⟨u, R1, rfl, h1, fun r hr => by simp [hr], n1, fun F' H' t' v' Rt' x k o n d => ⟨Rt' ++ R2, ⟨Rt', R2, rfl, o, h2.mono x _ _ _ fun r hr => k r (by simp [hr]) fun z => n3 r z r hr rfl⟩, ?_, fun r hr => ?_⟩⟩
    · refine List.nodup_append.mpr ⟨n, n2, fun a ha b hb z => ?_⟩
      subst z
      rcases d a ha with z | z
      · exact n3 a z a hb rfl
      · exact z (by simp [hb])
    · rcases List.mem_append.mp hr with hr | hr
      · exact .inr hr
      · exact .inl (by simp [hr])
  | some t0 :: es, some u :: σ, R, i + 1, t, h, e, nd => by
    obtain ⟨R1, R2, rfl, h1, h2⟩ := h
    obtain ⟨n1, n2, n3⟩ := List.nodup_append.mp nd
    obtain ⟨v, Rt, g1, g2, g3, g4, g5⟩ := OwnE.mod (env := es) (σ := σ) (i := i) h2 (by simpa using e) n2
    refine ⟨v, Rt, by simpa using g1, g2, fun r hr => by simp [g3 r hr], g4, fun F' H' t' v' Rt' x k o n d => ?_⟩
    obtain ⟨R', a1, a2, a3⟩ := g5 F' H' t' v' Rt' x (fun r hr => k r (by simp [hr])) o n fun r hr => (d r hr).imp id fun z w => z (by simp [w])
    refine ⟨R1 ++ R', ⟨R1, R', rfl, h1.mono x _ _ _ fun r hr => k r (by simp [hr]) fun z => n3 r hr r (g3 r z) rfl, a1⟩, ?_, fun r hr => ?_⟩
    · refine List.nodup_append.mpr ⟨n1, a2, fun a ha b hb z => ?_⟩
      subst z
      rcases a3 a hb with z | z
      · exact n3 a ha a z rfl
      · rcases d a z with w | w
        · exact n3 a ha a (g3 a w) rfl
        · exact w (by simp [ha])
    · rcases List.mem_append.mp hr with hr | hr
      · exact .inl (by simp [hr])
      · rcases a3 r hr with z | z
        · exact .inl (by simp [z])
        · exact .inr z
  | some _ :: _, none :: _, _, _, _, h, _, _ => h.elim
  | some _ :: _, [], _, _, _, h, _, _ => h.elim
  | none :: _, [], _, _, _, h, _, _ => h.elim
  | [], _ :: _, _, _, _, h, _, _ => h.elim
theorem set_self {α : Type} {l : List α} {i : Nat} {a : α} (h : l[i]? = some a) : l.set i a = l := by
  apply List.ext_getElem?
  intro j
  by_cases hj : i = j
  · subst hj
    rw [List.getElem?_set_self (List.getElem?_eq_some_iff.mp h).1, h]
  · rw [List.getElem?_set_ne hj]
/-- the slot i and how it is changed in place -/
theorem Stt.mod {i : Nat} {t : T} (S : Stt K G F0 F H σ env R) (e : env[i]? = some (some t)) : ∃ v Rt, σ[i]? = some (some v) ∧ Own K F H t v Rt ∧ Rt.Nodup ∧ (∀ r ∈ Rt, r ∈ R) ∧ (∀ r ∈ Rt, F r = none ∧ G r = none) ∧
    ∀ F' H' t' Rt', Ext F H F' H → (∀ r o, H r = some o → r ∉ Rt → H' r = some o) → Ex F' H' → Own K F' H' t' v Rt' → Rt'.Nodup → (∀ r ∈ Rt', r ∈ Rt ∨ (r ∉ R ∧ F' r = none ∧ G r = none)) →
      ∃ R', Stt K G F0 F' H' σ (env.set i (some t')) R' := by
  obtain ⟨v, Rt, h1, h2, h3, h4, h5⟩ := S.own.mod e S.nd
  refine ⟨v, Rt, h1, h2, h4, h3, fun r hr => S.out r (h3 r hr), fun F' H' t' Rt' x k x2 o n d => ?_⟩
  obtain ⟨R', a1, a2, a3⟩ := h5 F' H' t' v Rt' (x.ex S.exF) (fun r hr hn o ho => k r o ho hn) o n fun r hr => (d r hr).imp id fun z => z.1
  rw [set_self h1] at a1
  refine ⟨R', fun a u ha => k a u (S.exG a u ha) fun z => ?_, x2, fun a u ha => (x.eq a u (S.exG a u ha)).trans (S.sep a u ha), a1, a2, fun r hr => ?_⟩
  · rw [(S.out a (h3 a z)).2] at ha; cases ha
  · have old : r ∈ R → F' r = none ∧ G r = none := fun z => by
      obtain ⟨u, hu⟩ := S.own.held _ _ _ r z
      exact ⟨(x.eq r u hu).trans (S.out r z).1, (S.out r z).2⟩
    rcases a3 r hr with z | z
    · exact old z
    · rcases d r z with w | w
      · exact old (h3 r w)
      · exact w.2
theorem OwnL.append : ∀ {ts us : List T} {vs ws : List V} {R R' : List Addr}, OwnL K F H ts vs R → OwnL K F H us ws R' → OwnL K F H (ts ++ us) (vs ++ ws) (R ++ R')
  | [], us, [], ws, R, R', h, h' => by
    have h : R = [] := h
    subst h; exact h'
  | [], _, _ :: _, _, _, _, h, _ => h.elim
  | _ :: _, _, [], _, _, _, h, _ => h.elim
  | t :: ts, us, v :: vs, ws, R, R', h, h' => by
    obtain ⟨R1, R2, rfl, h1, h2⟩ := h
    exact ⟨R1, R2 ++ R', by simp, h1, OwnL.append h2 h'⟩
end
/-! ### xs.append(e) -/
def DenS.app (i : Nat) (m : Den) : DenS := fun env => match env[i]? with
  | some (some (.lst ts)) => sb (m env) env fun r => match r with
    | .val t => if ts.length < 16777216 then .nx (env.set i (some (.lst (ts ++ [t])))) else .stuck
    | .bor _ => .stuck
  | _ => .stuck
section
variable {X : Cx} {C : Cn} {e : Expr} {m : Den} {pos p p2 p3 : Pos} {x : Str} {i : Nat}
theorem upd_other {H : Hp} {a b : Addr} {o o' : HO} (h : H b = some o') (n : b ≠ a) : upd H a o b = some o' := by rw [upd_ne n]; exact h
theorem ds_app (hN : X.N[i]? = some x) (hv : Vis X.env.scope x) (he : DE X C e m) (hd : (x == ("__debug__" : Str)) = false := by decide) (hcd : (x == ("__classdict__" : Str)) = false := by decide)
    (hbase : attributeBase (.Name x p) "append" X.env (eval (.Name x p) X.env) = eval (.Name x p) X.env := by rfl)
    (hfew : ((backTo p3 (starEach [e] X.env)).all (fun x => !x.1) && (backToKw p3 (keywordEach [] X.env)).all (fun x => x.1.isSome) && decide ([e].length + ([] : List Keyword).length + (if ([] : List Keyword).isEmpty then 0 else 1) < 30)) = true := by rfl)
    (hline : (p2.endLine == p3.line) = true := by rfl) (hs : starEach [e] X.env = (false, eval e X.env) :: starEach [] X.env := by rfl)
    (hsw : swapsWith (.Call (.Attribute (.Name x p) "append" p2) [e] [] p3) none pos.line X.env = pure false := by rfl) :
    DS X C (.Expr (.Call (.Attribute (.Name x p) "append" p2) [e] [] p3) pos) (DenS.app i m) := by
  refine ⟨(ps_expr (pe_bm PySem.F.plainAttrs_list PySem.F.slot_list_append PySem.F.type_list_append mt_append (pe_var hN hv hd hcd) (pa_cons he.pe pa_nil hs) hbase hfew hline hs rfl) hsw).imp fun D σ H ⟨F, env, Rg, st, o⟩ => ?_⟩
  unfold DenS.app at o
  split at o
  · rename_i ts hi
    obtain ⟨v, Rt, h1, h2, nd, sub, out, h5⟩ := st.mod hi
    obtain ⟨a, vs, Rc, rfl, ha, rfl, hc⟩ := id h2
    refine ⟨_, h1, .inl ⟨rfl, vs, SqL.of ha⟩, ?_⟩
    refine den_sbN (D := D) st o (fun t y F1 H1 Rn hm e1 n o1 => ?_) (fun t y F1 H1 hm e1 b o1 => o1.elim)
    simp only at o1
    split at o1
    · rename_i hl
      have st1 := st.ext e1
      obtain ⟨v', Rt, g1, g2, gnd, gsub, gout, g5⟩ := st1.mod hi
      rw [h1] at g1
      cases g1
      obtain ⟨a', vs', Rc', ea, ha', rfl, hc'⟩ := id g2
      cases ea
      have hne : ∀ r ∈ Rc', r ≠ a := fun r hr z => by subst z; exact (List.nodup_cons.mp gnd).1 hr
      have hRn : ∀ r ∈ Rn, r ∉ Rg := fun r hr hm => by
        obtain ⟨u, hu⟩ := st.own.held _ _ _ r hm
        rw [(n.out r hr).1] at hu; cases hu
      have ha1 : a ∈ Rg := gsub a (by simp)
      have hna : ∀ r ∈ Rn, r ≠ a := fun r hr z => hRn r hr (z ▸ ha1)
      refine ⟨a, vs', y, rfl, rfl, ha', by rw [← OwnL.len hc', sizeLine_eq]; exact hl, ?_⟩
      obtain ⟨R', st2⟩ := g5 F1 (upd H1 a (.lst (vs' ++ [y]))) (.lst (ts ++ [t])) (a :: (Rc' ++ Rn)) (Ext.refl st1.exF) (fun r u hu hr => upd_other hu fun z => hr (by simp [z]))
        (fun b u hb => upd_other (st1.exF b u hb) fun z => by subst z; rw [(gout b (by simp)).1] at hb; cases hb)
        ⟨a, vs' ++ [y], Rc' ++ Rn, rfl, upd_same, rfl, OwnL.append (hc'.mono (Ex.refl _) _ _ _ fun r hr u hu => upd_other hu (hne r hr)) ⟨Rn, [], by simp, n.own.mono (Ex.refl _) _ _ _ fun r hr u hu => upd_other hu (hna r hr), rfl⟩⟩
        (by
          refine List.nodup_cons.mpr ⟨fun hm => ?_, List.nodup_append.mpr ⟨(List.nodup_cons.mp gnd).2, n.nd, fun b hb c hc z => ?_⟩⟩
          · rcases List.mem_append.mp hm with hm | hm
            · exact hne a hm rfl
            · exact hna a hm rfl
          · subst z; exact hRn b hc (gsub b (by simp [hb])))
        (fun r hr => by
          rcases List.mem_cons.mp hr with rfl | hr
          · exact .inl (by simp)
          · rcases List.mem_append.mp hr with hr | hr
            · exact .inl (by simp [hr])
            · exact .inr ⟨hRn r hr, (n.out r hr).2, st.exG.none (n.out r hr).1⟩)
      exact o1 σ F1 _ R' (Ex.refl F1) st2
    · exact o1.elim
  · exact o.elim
/-! ### xs[k] = e -/
def DenS.setI (i : Nat) (mk m : Den) : DenS := fun env => sb (m env) env fun r => match r with
  | .val t => (match env[i]? with
    | some (some (.lst ts)) => sb (mk env) env fun rk => (match rk.rd with
      | .int k => (match ixN ts.length k with
        | some j => .nx (env.set i (some (.lst (ts.set j t))))
        | none => .stuck)
      | _ => .stuck)
    | _ => .stuck)
  | .bor _ => .stuck
end
theorem OwnL.set {K : PySem.W.Frag} {F H : Hp} {t : T} {y : V} {Rn : List Addr} (o : Own K F H t y Rn) : ∀ {ts : List T} {vs : List V} {R : List Addr} {j : Nat}, OwnL K F H ts vs R → j < ts.length →
    ∃ R', OwnL K F H (ts.set j t) (vs.set j y) R' ∧ (∀ r ∈ R', r ∈ R ∨ r ∈ Rn) ∧ (R.Nodup → Rn.Nodup → (∀ r ∈ Rn, r ∉ R) → R'.Nodup)
  | [], [], _, _, _, hi => by simp at hi
  | [], _ :: _, _, _, h, _ => h.elim
  | _ :: _, [], _, _, h, _ => h.elim
  | t0 :: ts, v0 :: vs, R, 0, h, hi => by
    obtain ⟨R1, R2, rfl, h1, h2⟩ := h
    refine ⟨Rn ++ R2, ⟨Rn, R2, rfl, o, h2⟩, fun r hr => ?_, fun z1 z2 z3 => ?_⟩
    · rcases List.mem_append.mp hr with hr | hr
      · exact .inr hr
      · exact .inl (by simp [hr])
    · exact List.nodup_append.mpr ⟨z2, (List.nodup_append.mp z1).2.1, fun a ha b hb e => z3 a ha (by simp [e ▸ hb])⟩
  | t0 :: ts, v0 :: vs, R, j + 1, h, hi => by
    obtain ⟨R1, R2, rfl, h1, h2⟩ := h
    obtain ⟨R', h3, h4, h5⟩ := OwnL.set o (j := j) h2 (by simpa using hi)
    refine ⟨R1 ++ R', ⟨R1, R', rfl, h1, h3⟩, fun r hr => ?_, fun z1 z2 z3 => ?_⟩
    · rcases List.mem_append.mp hr with hr | hr
      · exact .inl (by simp [hr])
      · rcases h4 r hr with h | h
        · exact .inl (by simp [h])
        · exact .inr h
    · obtain ⟨n1, n2, n3⟩ := List.nodup_append.mp z1
      refine List.nodup_append.mpr ⟨n1, h5 n2 z2 (fun r hr hm => z3 r hr (by simp [hm])), fun a ha b hb e => ?_⟩
      rcases h4 b hb with h | h
      · exact n3 a ha b h e
      · exact z3 b h (by simp [← e, ha])
theorem ixN_lt {n : Nat} {i : Int} {j : Nat} (h : ixN n i = some j) : j < n := by
  unfold ixN at h
  split at h <;> first | (split at h <;> first | (cases h; omega) | cases h) | (cases h; omega) | cases h
section
variable {X : Cx} {C : Cn} {e k : Expr} {m mk : Den} {pos p p2 p3 : Pos} {x : Str} {i : Nat}
theorem ds_setI (hN : X.N[i]? = some x) (hv : Vis X.env.scope x) (he : DE X C e m) (hk : DE X C k mk) (hd : (x == ("__debug__" : Str)) = false := by decide) (hcd : (x == ("__classdict__" : Str)) = false := by decide)
    (ha : ∀ v, assign (.Subscript (.Name x p) k p2) X.env v = (do
      let ov ← holding [v] (eval (.Name x p) X.env)
      let iv ← holding [v, ov] (eval k X.env)
      standAt p2
      holding [v, ov, iv] (setItem ov iv v)
      release [v, ov, iv] []) := by intro _; rfl)
    (hs : swapsWithSole [.Subscript (.Name x p) k p2] e pos.line X.env = pure false := by rfl) (hw : swappedStores [.Subscript (.Name x p) k p2] e X.env = pure none := by rfl)
    (h1 : (assignEach [.Subscript (.Name x p) k p2] X.env).map (·.2) = [assign (.Subscript (.Name x p) k p2) X.env] := by rfl) : DS X C (.Assign [.Subscript (.Name x p) k p2] e pos) (DenS.setI i mk m) := by
  refine ⟨(ps_asg he.pe (pg_sub (pe_var hN hv hd hcd) hk.pe set_list ha) hs hw h1).imp fun D σ H ⟨F, env, Rg, st, o⟩ => ?_⟩
  refine den_sbN (D := D) st o (fun t y F1 H1 Rn hm e1 n o1 => ?_) (fun t y F1 H1 hm e1 b o1 => o1.elim)
  simp only at o1
  have st1 := st.ext e1
  split at o1
  · rename_i ts hi
    obtain ⟨v, Rt, h1, h2, nd, sub, out, h5⟩ := st1.mod hi
    obtain ⟨a, vs, Rc, rfl, ha, rfl, hc⟩ := id h2
    refine ⟨_, h1, ?_⟩
    refine den_sb (D := D) st1 o1 fun rk ky F2 H2 hmk e2 st2 rdk o2 => ?_
    cases hk2 : rk.rd with
    | int k' =>
      simp only [hk2] at o2
      have ik := rdk.is st2.exF
      rw [hk2] at ik
      have ik : ky = .int k' := ik
      subst ik
      cases hj : ixN ts.length k' with
      | none => rw [hj] at o2; exact o2.elim
      | some j =>
        rw [hj] at o2
        obtain ⟨v', Rt, g1, g2, gnd, gsub, gout, g5⟩ := st2.mod hi
        rw [h1] at g1
        cases g1
        obtain ⟨a', vs', Rc', ea, ha', rfl, hc'⟩ := id g2
        cases ea
        have hne : ∀ r ∈ Rc', r ≠ a := fun r hr z => by subst z; exact (List.nodup_cons.mp gnd).1 hr
        have hRn : ∀ r ∈ Rn, r ∉ Rg := fun r hr hm => by
          obtain ⟨u, hu⟩ := st.own.held _ _ _ r hm
          rw [(n.out r hr).1] at hu; cases hu
        have ha1 : a ∈ Rg := gsub a (by simp)
        have hna : ∀ r ∈ Rn, r ≠ a := fun r hr z => hRn r hr (z ▸ ha1)
        have hl := OwnL.len hc'
        have hF2 : ∀ r ∈ Rn, F2 r = none := fun r hr => by
          obtain ⟨u, hu⟩ := n.own.held _ _ _ r hr
          exact (e2.eq r u hu).trans (n.out r hr).2
        have own2 : Own X.K F2 H2 t y Rn := n.own.mono (e2.ex e1.fz) _ _ _ fun r _ u hu => e2.hp r u hu
        refine ⟨a, vs', k', j, rfl, rfl, ha', by rw [← hl]; exact hj, ?_⟩
        have hjl : j < ts.length := ixN_lt hj
        have own3 : Own X.K F2 (upd H2 a (.lst (vs'.set j y))) t y Rn := own2.mono (Ex.refl _) _ _ _ fun r hr u hu => upd_other hu (hna r hr)
        obtain ⟨Rc2, w1, w2, w3⟩ := OwnL.set own3 (hc'.mono (H' := upd H2 a (.lst (vs'.set j y))) (Ex.refl _) _ _ _ fun r hr u hu => upd_other hu (hne r hr)) hjl
        obtain ⟨R', st3⟩ := g5 F2 (upd H2 a (.lst (vs'.set j y))) (.lst (ts.set j t)) (a :: Rc2) (Ext.refl st2.exF) (fun r u hu hr => upd_other hu fun z => hr (by simp [z]))
          (fun b u hb => upd_other (st2.exF b u hb) fun z => by subst z; rw [(gout b (by simp)).1] at hb; cases hb)
          ⟨a, _, Rc2, rfl, upd_same, rfl, w1⟩
          (List.nodup_cons.mpr ⟨fun hm => by
            rcases w2 a hm with hm | hm
            · exact hne a hm rfl
            · exact hna a hm rfl, w3 (List.nodup_cons.mp gnd).2 n.nd fun r hr hm => hRn r hr (gsub r (by simp [hm]))⟩)
          (fun r hr => by
            rcases List.mem_cons.mp hr with rfl | hr
            · exact .inl (by simp)
            · rcases w2 r hr with hr | hr
              · exact .inl (by simp [hr])
              · exact .inr ⟨hRn r hr, hF2 r hr, st.exG.none (n.out r hr).1⟩)
        exact o2 σ F2 _ R' (Ex.refl F2) st3
    | _ => simp only [hk2] at o2; exact o2.elim
  · exact o1.elim
end
end PV

set_option Elab.async false
set_option linter.all false
set_option maxRecDepth 100000
set_option maxHeartbeats 400000
namespace PV
open PySem PySem.Spec PyProof.Rows L2
/-! ### a table of the module -/
def Tbl (K : PySem.W.Frag) (w : World) (mg : Str → Option Value) (x : Str) (tab : List (List Nat × D)) : Prop :=
  ∃ d es n, mg x = some (.ref d) ∧ KDict K w d es n ∧ ∀ z : List Nat, match tab.lookup z with
    | some dd => ∃ u v, PySem.W.nsIn K d (S z) = some (some u) ∧ RelV v u ∧ ∀ F, Is K F dd v
    | none => PySem.W.nsIn K d (S z) = some none
def Den.inTab (tab : List (List Nat × D)) (m : Den) : Den := fun env => (m env).bnd fun r => match r.rd with
  | .str s => .ok (.val (.fz (.bl (tab.lookup s).isSome)))
  | _ => .stuck
def Den.ixTab (tab : List (List Nat × D)) (m : Den) : Den := fun env => (m env).bnd fun r => match r.rd with
  | .str s => (match tab.lookup s with
    | some d => .ok (.val (.fz d))
    | none => .stuck)
  | _ => .stuck
section
variable {X : Cx} {C : Cn} {e : Expr} {m : Den} {pos p : Pos} {x : Str} {tab : List (List Nat × D)}
theorem tab_in {z : List Nat} {o : Option D} {K : PySem.W.Frag} {d : Addr} (h : tab.lookup z = o) (hz : match tab.lookup z with
    | some dd => ∃ u v, PySem.W.nsIn K d (S z) = some (some u) ∧ RelV v u ∧ ∀ F, Is K F dd v
    | none => PySem.W.nsIn K d (S z) = some none) : ∃ r, PySem.W.nsIn K d (S z) = some r ∧ r.isSome = o.isSome := by
  subst h
  cases h : tab.lookup z with
  | none => rw [h] at hz; exact ⟨none, hz, rfl⟩
  | some dd =>
    rw [h] at hz
    obtain ⟨u, v, h1, _⟩ := hz
    exact ⟨some u, h1, rfl⟩
theorem de_inTab (t : Tbl X.K X.w X.mg x tab) (hg : Gl X x) (he : DE X C e m) (hm : behindInMarks .In (.Name x p) = false := by rfl) (hdb : (x == ("__debug__" : Str)) = false := by decide) : DE X C (.Compare e [.In] [.Name x p] pos) (Den.inTab tab m) := by
  obtain ⟨d, es, n, hmg, kd, hz⟩ := t
  have hn : PE X (.Name x p) (tC (.ref d)) := pe_glob (v := .ref d) hg hmg rfl hdb
  refine ⟨(pe_cmpR (op_in_kd kd) he.pe hn hm).imp fun σ H Q ⟨F, env, Rg, st, o⟩ => ?_, (pt_cmpR (op_in_kd kd) he.pe hn hm).imp fun σ H Q ⟨F, env, Rg, st, o⟩ => ?_⟩
  · refine den_bnd st o fun r v F1 H1 e1 st1 rd o1 => ?_
    cases hr : r.rd with
    | str s =>
      simp only [hr] at o1
      have i := rd.is st1.exF
      rw [hr] at i
      obtain ⟨rfl, ok⟩ := is_str i
      obtain ⟨r', h1, h2⟩ := tab_in (o := tab.lookup s) rfl (hz s)
      exact ⟨_, r', rfl, rfl, h1, by rw [h2]; exact o1.bool st1.exF⟩
    | _ => simp only [hr] at o1; exact o1.elim
  · refine den_bndT st o fun r v F1 H1 e1 st1 rd o1 => ?_
    cases hr : r.rd with
    | str s =>
      simp only [hr] at o1
      have i := rd.is st1.exF
      rw [hr] at i
      obtain ⟨rfl, ok⟩ := is_str i
      obtain ⟨r', h1, h2⟩ := tab_in (o := tab.lookup s) rfl (hz s)
      obtain ⟨b, hb, o2⟩ := o1
      cases hb
      exact ⟨_, r', rfl, rfl, h1, r'.isSome, rfl, by rw [h2]; exact o2 F1 H1 (Ext.refl st1.exF)⟩
    | _ => simp only [hr] at o1; exact o1.elim
theorem de_ixTab (t : Tbl X.K X.w X.mg x tab) (hg : Gl X x) (he : DE X C e m) (hs : ∀ o i, subscripted e false o i = operate [o, i] (getItem o i) := by intro _ _; rfl) (hdb : (x == ("__debug__" : Str)) = false := by decide) : DE X C (.Subscript (.Name x p) e pos) (Den.ixTab tab m) := by
  obtain ⟨d, es, n, hmg, kd, hz⟩ := t
  have hn : PE X (.Name x p) (tC (.ref d)) := pe_glob (v := .ref d) hg hmg rfl hdb
  refine DE.of ⟨fun pins s σ H Q I ⟨F, env, Rg, st, o⟩ => ?_⟩ (fun _ => rfl)
  refine Subscript_ (binT hn he.pe I (R := fun x y H2 => x = .ref d ∧ ∃ (z : List Nat) (dd : D), y = .str (S z) ∧ tab.lookup z = some dd ∧ ∀ v, (∀ F, Is X.K F dd v) → Q v H2) ?_ fun v u s2 x y H2 I2 rx ry q => ?_)
  · show tDen X.K C m σ H _
    refine den_bnd st o fun r v F1 H1 e1 st1 rd o1 => ⟨rfl, ?_⟩
    cases hr : r.rd with
    | str s =>
      simp only [hr] at o1
      have i := rd.is st1.exF
      rw [hr] at i
      obtain ⟨rfl, ok⟩ := is_str i
      cases hl : tab.lookup s with
      | none => rw [hl] at o1; exact o1.elim
      | some dd => rw [hl] at o1; exact ⟨s, dd, rfl, hl, fun v hv => o1.give st1.exF (hv F1)⟩
    | _ => simp only [hr] at o1; exact o1.elim
  · obtain ⟨rfl, z, dd, rfl, hl, q⟩ := q
    have h := hz z
    rw [hl] at h
    obtain ⟨u0, v0, h1, h2, h3⟩ := h
    cases (show v = Value.ref d from rx)
    exact tail_any (kd_type kd I2) slot_dict_getitem.lookup (op_item_kd kd pins s2 σ H2 _ _ _ u Q I2 (show RelV (.ref d) (.ref d) from rfl) ry ⟨S z, u0, v0, rfl, rfl, h1, h2, q v0 h3⟩) (hs _ _)
end
end PV

set_option Elab.async false
set_option linter.all false
set_option maxRecDepth 100000
set_option maxHeartbeats 400000
namespace PV
open PySem PySem.Spec PyProof.Rows L2
/-! ### repr -/
section
variable {P : Program} {w : World} {K : PySem.W.Frag} {H : Hp} {h : Heap}
mutual
theorem Is.reads (ok : HOk P w H h) (kin : K.In h) : ∀ (d : D) (v : V) (u : Value) (n : Nat), Is K H d v → RelV v u → d.shp n = true → ∃ as, Reads h u d.pd as
  | .non, v, u, _, i, r, _ => by cases i; cases r; exact ⟨[], by simp only [D.pd]; exact .none⟩
  | .bl b, v, u, _, i, r, _ => by cases i; cases r; exact ⟨[], by simp only [D.pd]; exact .bool _⟩
  | .int b, v, u, _, i, r, _ => by cases i; obtain ⟨t, rfl⟩ := r; exact ⟨[], by simp only [D.pd]; exact .int _ _⟩
  | .str s, v, u, _, i, r, _ => by obtain ⟨rfl, _⟩ := is_str i; obtain ⟨t, rfl⟩ := r; exact ⟨[], by simp only [D.pd]; exact .str _ _⟩
  | .lst xs, v, u, n, i, r, g => by
    obtain ⟨a, vs, rfl, h1, h2⟩ := is_lst i
    cases (show u = Value.ref a from r)
    obtain ⟨_, its, m, rv, hg⟩ := ok a _ h1
    obtain ⟨as, hr⟩ := IsL.reads ok kin xs vs its n h2 rv g
    refine ⟨a :: as, ?_⟩
    simp only [D.pd]
    exact .list hg rfl rfl (by simpa using hr)
  | .tup xs, v, u, n, i, r, g => by
    obtain ⟨a, vs, rfl, h1, h2⟩ := is_tup i
    cases (show u = Value.ref a from r)
    rcases h1 with ⟨o, h1, hc, hd⟩ | ⟨o, its, m, hk, hc, hd, hs, hz, rv⟩
    · obtain ⟨hg, _, its, rv, o', e1, e2, m, e3⟩ := ok a _ h1
      obtain ⟨as, hr⟩ := IsL.reads ok kin xs vs its n h2 rv g
      refine ⟨as, ?_⟩
      simp only [D.pd]
      exact .tuple e1 e2 e3 (by simpa using hr)
    · obtain ⟨as, hr⟩ := IsL.reads ok kin xs vs its.toList n h2 rv g
      refine ⟨as, ?_⟩
      simp only [D.pd]
      exact .tuple (kin a o hk) hc hs hr
  | .scr _, _, _, _, _, _, g | .wtp _, _, _, _, _, _, g | .ty _, _, _, _, _, _, g | .dic _ _, _, _, _, _, _, g | .dit _ _, _, _, _, _, _, g | .ins _ _ _, _, _, _, _, _, g => by simp [D.shp] at g
theorem IsL.reads (ok : HOk P w H h) (kin : K.In h) : ∀ (ds : List D) (vs : List V) (us : List Value) (n : Nat), IsL K H ds vs → Vals vs us → D.shpL n ds = true → ∃ as, ReadsAll h us (D.pdL ds) as
  | [], [], us, _, _, r, _ => by cases r; exact ⟨[], by simp only [D.pdL]; exact .nil⟩
  | [], _ :: _, _, _, i, _, _ => i.elim
  | _ :: _, [], _, _, i, _, _ => i.elim
  | d :: ds, v :: vs, us, n, i, r, g => by
    cases n with
    | zero => simp [D.shpL] at g
    | succ n =>
      simp only [D.shpL, Bool.and_eq_true] at g
      cases r with
      | cons r1 r2 =>
        obtain ⟨as, h1⟩ := Is.reads ok kin d v _ n i.1 r1 g.1
        obtain ⟨bs, h2⟩ := IsL.reads ok kin ds vs _ (n + 1) i.2 r2 g.2
        exact ⟨as ++ bs, by simp only [D.pdL]; exact .cons h1 h2⟩
end
end
def D.repOk (d : D) : Bool := d.shp 20 && d.pd.showable && decide (d.pd.shown.length ≤ 16777216)
/-- what repr(d) shows -/
def D.rep (d : D) : Str := d.pd.shown
section
variable {X : Cx} {C : Cn}
theorem call_repr (hg : X.A.guards = some []) (hu : X.A.units + 64 < cLine) : CallR X (.builtin "repr") (fun xs H Q => ∃ d x, xs = [x] ∧ Is X.K H d x ∧ d.repOk = true ∧ Q (.str d.rep) H) := by
  intro pins s σ H xs us Q I r h
  obtain ⟨d, x, rfl, i, ok, q⟩ := h
  obtain ⟨u, rfl, rx⟩ := vals1 r
  simp only [D.repOk, Bool.and_eq_true, decide_eq_true_eq] at ok
  obtain ⟨⟨o1, o2⟩, o3⟩ := ok
  have hz : d.pd.shown.length ≤ sizeLine := by rw [sizeLine_eq]; exact o3
  have big : ∀ a, u = .ref a → (∀ as, Reads s.heap (.ref a) d.pd as → wpAny (model X.prog X.w) X.A (call (.builtin "repr") [.ref a]) (EP X pins σ Q) X.xe s) := fun a e as rd => by
    obtain ⟨i1, i2, i3⟩ := Is.dp d x 20 i o1
    exact PySem.repr_of_reads' rd o2 (PyData.noDict_hsm (PyData.hasDict_of_canLay _ i2)) hg (by omega) (fun _ _ z => z) (fun h' t tk k => ⟨.str _, H, I.kept (t' := tk) k, ⟨t, rfl⟩, q⟩) hz
  obtain ⟨as, rd⟩ := Is.reads I.hok I.kIn d x u 20 i rx o1
  cases d with
  | non => cases i; cases rx; exact PySem.P.repr_of_none ⟨.str _, H, I.tok _, ⟨_, rfl⟩, by simpa [D.rep, D.pd, PyData.shown] using q⟩
  | bl b => cases i; cases rx; exact PySem.P.repr_of_bool ⟨.str _, H, I.tok _, ⟨_, rfl⟩, by simpa [D.rep, D.pd, PyData.shown] using q⟩
  | int j =>
    cases i
    obtain ⟨t, rfl⟩ := rx
    exact PySem.P.repr_of_int (by simpa [D.pd, PyData.showable] using o2) ⟨.str _, H, I.tok _, ⟨_, rfl⟩, by simpa [D.rep, D.pd, PyData.shown] using q⟩
  | str z =>
    obtain ⟨rfl, _⟩ := is_str i
    obtain ⟨t, rfl⟩ := rx
    exact PySem.P.repr_of_str ⟨.str _, H, I.tok _, ⟨_, rfl⟩, by simpa [D.rep, D.pd, PyData.shown] using q⟩ (by simpa [D.pd, PyData.shown] using hz)
  | lst xs =>
    obtain ⟨a, vs, rfl, _⟩ := is_lst i
    cases (show u = Value.ref a from rx)
    exact big a rfl as rd
  | tup xs =>
    obtain ⟨a, vs, rfl, _⟩ := is_tup i
    cases (show u = Value.ref a from rx)
    exact big a rfl as rd
  | _ => simp [D.shp] at o1
/-- repr(a) == repr(b), repr(a) != repr(b) -/
def Den.reprCmp (neg : Bool) (ma mb : Den) : Den := fun env => (ma env).bnd fun ra => if ra.rd.repOk = true then (mb env).bnd fun rb => if rb.rd.repOk = true then .ok (.val (.fz (.bl (neg ^^ decide (ra.rd.rep = rb.rd.rep))))) else .stuck else .stuck
variable {a b : Expr} {ma mb : Den} {p p1 p2 p3 pos : Pos}
theorem de_reprNe (hg : X.A.guards = some []) (hu : X.A.units + 64 < cLine) (hgl : Gl X "repr") (hm : X.mg "repr" = none) (ha : DE X C a ma) (hb : DE X C b mb)
    (h1 : starEach [a] X.env = (false, eval a X.env) :: starEach [] X.env := by rfl) (h2 : starEach [b] X.env = (false, eval b X.env) :: starEach [] X.env := by rfl) :
    DE X C (.Compare (.Call (.Name "repr" p) [a] [] p1) [.NotEq] [.Call (.Name "repr" p2) [b] [] p3] pos) (Den.reprCmp true ma mb) := by
  have hv : bootBuiltins "repr" = some (.builtin "repr") := by decide +kernel
  have ca := pe_callB (p := p) (pos := p1) (call_repr hg hu) hgl hm hv (pa_cons ha.pe pa_nil h1) (by decide) (by decide) h1 rfl
  have cb := pe_callB (p := p2) (pos := p3) (call_repr hg hu) hgl hm hv (pa_cons hb.pe pa_nil h2) (by decide) (by decide) h2 rfl
  have e1 : ∀ x y : Str, (!decide (V.str x = V.str y)) = (true ^^ decide (x = y)) := fun x y => by simp
  refine ⟨(pe_cmpR op_ne ca cb (nomark _)).imp fun σ H Q ⟨F, env, Rg, st, o⟩ => ?_, (pt_cmpR op_ne ca cb (nomark _)).imp fun σ H Q ⟨F, env, Rg, st, o⟩ => ?_⟩
  · refine den_bnd st o fun ra v F1 H1 e1' st1 r1 o1 => ⟨ra.rd, v, rfl, r1.is st1.exF, ?_⟩
    split at o1
    · rename_i z
      refine ⟨z, ?_⟩
      refine den_bnd st1 o1 fun rb u F2 H2 e2 st2 r2 o2 => ⟨rb.rd, u, rfl, r2.is st2.exF, ?_⟩
      split at o2
      · rename_i z2
        refine ⟨z2, rfl, ?_⟩
        rw [e1]
        exact o2.bool st2.exF
      · exact o2.elim
    · exact o1.elim
  · refine den_bndT st o fun ra v F1 H1 e1' st1 r1 o1 => ⟨ra.rd, v, rfl, r1.is st1.exF, ?_⟩
    split at o1
    · rename_i z
      refine ⟨z, ?_⟩
      refine den_bndT st1 o1 fun rb u F2 H2 e2 st2 r2 o2 => ⟨rb.rd, u, rfl, r2.is st2.exF, ?_⟩
      split at o2
      · rename_i z2
        refine ⟨z2, rfl, _, rfl, ?_⟩
        obtain ⟨k, hk, o3⟩ := o2
        cases hk
        rw [e1]
        exact o3 F2 H2 (Ext.refl st2.exF)
      · exact o2.elim
    · exact o1.elim
end
end PV

set_option Elab.async false
set_option linter.all false
set_option maxRecDepth 100000
set_option maxHeartbeats 800000
namespace PV
open PySem PySem.Spec PyProof.Rows L2
/-! ### the law's def, called from without: nothing is under way -/
def FnAt (P : Program) (w : World) (K : PySem.W.Frag) (mg : Str → Option Value) (base : Heap) (A : Around) (f : Addr) (fd : FuncData) (ps : List Str) (sp : Sp) : Prop :=
  ∀ (outer : List Env) (s : Shared) (H : Hp) (args : Args) (us : List Value) (vs : List V) (Q : VK) (E : XK), Env0 P w K mg base A outer s H → BindsTo s fd args (ps.zip us) → Vals vs us → vs.length = ps.length → sp vs H Q E →
    codeAny (model P w) A (.call (.ref f) args) (CR (L2.CX P w) outer P w H s Q E) s
theorem fnAt_of {P : Program} {w : World} {K : PySem.W.Frag} {mg : Str → Option Value} {base : Heap} {k : Nat} {x qual : Str} {params : Arguments} {body : List Stmt} {scope : Scope} {dvs : List V} {kws : List (Str × V)} {f : Addr} {fd : FuncData} {N ps : List Str} {sp : Sp} {A : Around}
    (F : FunD K x qual params body scope dvs kws f fd) (S : FnScope N ps scope) (hr : Room (k + 1) A)
    (hbody : ∀ (cdv : Value) (outer : List Env) (s : Shared) (H : Hp) (vs : List V) (Q : VK) (E : XK), Room k (A.deeper (envOfC qual scope s.heap.objs.size f cdv)) → sp vs H Q E →
      ∃ t, PSs (cxOf (L2.CX P w) P w K mg base N qual scope f cdv A outer s H E) body t ∧ t { nx := fun _ H' => Q .non H', rt := Q } (L2.start N vs) H) : FnAt P w K mg base A f fd ps sp := by
  obtain ⟨oc, od, dV, kV, doc, pm, an, cdv, ct, osl, rfl, lk, hcd, _, _⟩ := F.ex
  intro outer s H args us vs Q E e0 hb r hl hsp
  have up : ∀ b o, base.get? b = some o → s.heap.get? b = some o := fun b o e => (e0.bs b o e).1
  have kin := e0.mod.kin.keeps up
  have lim := e0.mod.nolimit.keeps up
  have kinds : ∀ y ∈ ps.zip us, scope.names.lookup y.1 = some .local ∨ (scope.names.lookup y.1 = some .cell ∧ ((cellsFrom (s.heap.objs.size + 1) scope.names []).lookup y.1).isSome = true) := by
    rintro ⟨n, v⟩ hy
    exact (S.par n (List.of_mem_zip hy).1).imp id fun q => ⟨q, PySem.W.cellsFrom_some _ _ _ (.inl q)⟩
  refine codeAny_call_function hr.depth (kin _ _ lk) rfl S.co S.gen rfl (PySem.W.codeRec_of kin hcd) (hb _ _ _ _ ?_)
  refine wpAny_newFunctionEnv_cells S.kind kinds ?_
  rintro env rfl s1 ic
  refine ⟨lim.keeps ic.toInCall.keep, codeAny_func ?_⟩
  obtain ⟨t, ht, hq⟩ := hbody cdv outer s H vs Q E (hr.deeper _) hsp
  refine wpAny_mono (ht.run [] s1 (L2.start N vs) H _ (inv_start S hr.hd e0 hl r ic) hq) ?_ fun e s' hs => hs
  intro fl s' hs
  cases fl with
  | ret u => obtain ⟨v, σ', H', J, rv, q⟩ := hs; exact ⟨v, H', J.os, J.bare, J.base, J.hok, rv, q⟩
  | next => obtain ⟨σ', H', J, q⟩ := hs; exact ⟨.non, H', J.os, J.bare, J.base, J.hok, rfl, q⟩
  | brk => obtain ⟨_, _, _, q⟩ := hs; exact False.elim q
  | cont => obtain ⟨_, _, _, q⟩ := hs; exact False.elim q
section
variable {P : Program} {w : World} {K : PySem.W.Frag} {mg mb : Str → Option Value} {fa a : Addr} {fd : FuncData} {x : Str} {sp : Sp} {s : Shared} {vs : List Value} {ns : List Int}
/-- from an abstract heap that tracks the script at most -/
theorem topA (kin : K.In s.heap) (hns : s.heap.Ns mainGlobals mg) (hb : s.heap.Ns builtinsNs mb) (hbb : ∀ x : Str, x ≠ "__name__" → mb x = bootBuiltins x) (hlim : s.heap.NoLimit) (hg : s.gens = #[])
    (ha : s.heap.get? a = some { cls := .type "list", data := .seq vs.toArray }) (F : ∀ base : Heap, K.In base → base.Ns mainGlobals mg → FnAt P w K mg base callerA fa fd [x] sp) (hbind : ∀ (s : Shared) (u : Value), BindsTo s fd ⟨[u], []⟩ [(x, u)])
    {H : Hp} (hO : Only H) (ok : HOk P w H s.heap) (hA : ∀ b, H b ≠ none → b = a) (hK : H a ≠ none → K.lookup a = none) (hsp : sp [.ref a] H (fun v _ => v = .bl true) fun _ _ _ => False) :
    codeAny (model P w) callerA (.call (.ref fa) ⟨[.ref a], []⟩) (fun r s' => r = .ok (.ret (.bool true)) ∧ OldK s.heap s'.heap ∧ s'.os = s.os ∧ AllBare s'.gens) s := by
  have free : ∀ {b : Addr} {o : Obj}, s.heap.get? b = some o → (∀ n, o.data ≠ .seq vs.toArray n) → H b = none := by
    intro b o e d
    apply Classical.byContradiction
    intro z
    rw [hA b z, ha] at e
    cases e
    exact d _ rfl
  have bk : ∀ {b : Addr} {m : Str → Option Value}, s.heap.Ns b m → (hidT s.heap H).Ns b m := by
    rintro b m ⟨o, es, ep, e, d, r⟩
    exact ⟨o, es, ep, hidT_get e (free e fun n z => by rw [d] at z; cases z), d, r⟩
  have kb : K.In (hidT s.heap H) := by
    intro b o e
    refine hidT_get (kin b o e) (Classical.byContradiction fun z => ?_)
    have hba := hA b z
    subst hba
    rw [hK z] at e
    cases e
  obtain ⟨mc, l1, l2⟩ := hlim
  have e0 : Env0 P w K mg (hidT s.heap H) callerA [] s H :=
    { frames := rfl, mod := ⟨kb, bk hns, ⟨mb, bk hb, hbb⟩, ⟨mc, bk l1, l2⟩⟩, bs := fun b o e => of_hidT e, bsz := Nat.le_of_eq (hidT_size _ _), funs := trivial, frf := fun b hb => (List.not_mem_nil hb).elim, hok := ok, bare := .of_eq hg }
  refine codeAny_mono (F _ kb (bk hns) [] s H ⟨[.ref a], []⟩ [.ref a] [.ref a] _ _ e0 (hbind s (.ref a)) (.cons rfl .nil) rfl hsp) ?_
  intro r s' h
  match r, h with
  | .ok .next, h => exact False.elim h
  | .ok .brk, h => exact False.elim h
  | .ok .cont, h => exact False.elim h
  | .error e, h =>
    obtain ⟨_, _, _, _, _, _, _, _, _, _, _, _, z⟩ := h
    exact z.elim
  | .ok (.ret u), h =>
    obtain ⟨v, H', os, bare, un, ok', r', q⟩ := h
    cases (show v = V.bl true from q)
    cases (show u = Value.bool true from r')
    refine ⟨rfl, OldK.of_keep fun b o e => ?_, os, bare⟩
    cases hb : H b with
    | none => exact un.keep b o e hb (fun z => (List.not_mem_nil z).elim) (by simp)
    | some t =>
      rcases hO b with z | ⟨ob, xs, z⟩
      · rw [hb] at z; cases z
      · have e1 := (ok b _ z).1
        rw [e] at e1
        cases e1
        exact (ok' b _ (un.frzs b _ _ z)).1
theorem law_callA (kin : K.In s.heap) (hns : s.heap.Ns mainGlobals mg) (hb : s.heap.Ns builtinsNs mb) (hbb : ∀ x : Str, x ≠ "__name__" → mb x = bootBuiltins x) (hlim : s.heap.NoLimit) (hg : s.gens = #[])
    (ha : s.heap.get? a = some { cls := .type "list", data := .seq vs.toArray }) (hi : IntsAre vs ns) (hl : ns.length ≤ sizeLine) (F : ∀ base : Heap, K.In base → base.Ns mainGlobals mg → FnAt P w K mg base callerA fa fd [x] sp)
    (hbind : ∀ (s : Shared) (u : Value), BindsTo s fd ⟨[u], []⟩ [(x, u)]) (hsp : ∀ H : Hp, Only H → SqL K H a (ns.map V.int) → sp [.ref a] H (fun v _ => v = .bl true) fun _ _ _ => False) :
    codeAny (model P w) callerA (.call (.ref fa) ⟨[.ref a], []⟩) (fun r s' => r = .ok (.ret (.bool true)) ∧ OldK s.heap s'.heap ∧ s'.os = s.os ∧ AllBare s'.gens) s := by
  have rv := vals_ints hi
  have lv := hi.length
  cases hk : K.lookup a with
  | some o =>
    have e := kin a o hk
    rw [ha] at e
    cases e
    have hO : Only fun _ => none := fun _ => .inl rfl
    refine topA kin hns hb hbb hlim hg ha F hbind hO (fun b u z => nomatch z) (fun b z => absurd rfl z) (fun z => absurd rfl z) (hsp _ hO (.inr ⟨_, vs.toArray, _, hk, rfl, rfl, rfl, ?_, by simpa using rv⟩))
    rw [List.size_toArray, lv]
    exact hl
  | none =>
    have key : ∀ b u, (if b = a then some (HO.frz { cls := .type "list", data := .seq vs.toArray } (.lst (ns.map V.int))) else none) = some u → b = a ∧ u = .frz { cls := .type "list", data := .seq vs.toArray } (.lst (ns.map V.int)) := by
      intro b u z
      split at z
      · rename_i e
        exact ⟨e, (Option.some.inj z).symm⟩
      · cases z
    have hO : Only fun b => if b = a then some (HO.frz { cls := .type "list", data := .seq vs.toArray } (.lst (ns.map V.int))) else none := by
      intro b
      by_cases e : b = a
      · exact .inr ⟨_, _, if_pos e⟩
      · exact .inl (if_neg e)
    refine topA kin hns hb hbb hlim hg ha F hbind hO (fun b u z => ?_) (fun b z => ?_) (fun _ => hk) (hsp _ hO (.inl (.inr ⟨_, if_pos rfl⟩)))
    · obtain ⟨rfl, rfl⟩ := key b u z
      exact ⟨ha, by rw [List.length_map]; exact hl, vs, _, rv, ha⟩
    · by_cases e : b = a
      · exact e
      · exact absurd (if_neg e) z
end
/-- the goal that the head leaves -/
theorem walk_A {l : PySem.W.OpenLaw} {n : Nat} {q : Program} {loose : List Str} {XP : (Str → Option Value) → Heap → Prop} {YP : World → Heap → Prop} {d : DefRec} {x : Str}
    (hn : l.most = some n) (hn2 : n ≤ sizeLine) (hdf : d.params.defaults = [])
    (F : ∀ (w : World) (mg : Str → Option Value) (fa : Addr) (h : Heap), YP w h → h.Ns mainGlobals mg → mg d.name = some (.ref fa) →
      ∃ (K : PySem.W.Frag) (fd : FuncData) (sp : Sp), K.In h ∧ (∀ (s : Shared) (u : Value), BindsTo s fd ⟨[u], []⟩ [(x, u)]) ∧
        (∀ (H : Hp) (a : Addr) (ns : List Int), ns.length ≤ n → Only H → SqL K H a (ns.map V.int) → sp [.ref a] H (fun v _ => v = .bl true) fun _ _ _ => False) ∧
        ∀ base : Heap, K.In base → base.Ns mainGlobals mg → FnAt l.prog w K mg base callerA fa fd [x] sp) :
    PySem.W.WalkO q loose XP YP l.row.toRowW d [] (fun f vs => PySem.call f vs) := by
  refine Att.attach_call hn hdf fun w s₀ s₁ mg mb fa o pm cd doc a vs ns G Y ho hd hcd hmg hobj hints hlen hg => ?_
  obtain ⟨K, fd, sp, kin, hb, hsp, hF⟩ := F w mg fa _ Y G.T.g hmg
  exact law_callA kin G.T.g G.T.b G.T.builtins G.T.nolimit hg hobj hints (Nat.le_trans hlen hn2) hF hb fun H hO hS => hsp H a ns hlen hO hS
/-- the promise of a law's def: it answers True at every script -/
def spLaw (K : PySem.W.Frag) (n : Nat) : Sp := fun vs H Q _ => ∃ (a : Addr) (ns : List Int), vs = [.ref a] ∧ ns.length ≤ n ∧ Only H ∧ SqL K H a (ns.map V.int) ∧ ∀ H', Q (.bl true) H'
/-- a law's def, by its body: what it computes of every script is True -/
theorem law_ok {P : Program} {w : World} {K : PySem.W.Frag} {mg : Str → Option Value} {base : Heap} {k n : Nat} {x qual : Str} {params : Arguments} {body : List Stmt} {scope : Scope} {f : Addr} {fd : FuncData} {N : List Str} {p : Str} {ms : DenS}
    (F : FunD K x qual params body scope [] [] f fd) (S : FnScope N [p] scope) (hr : Room (k + 1) callerA)
    (hb : ∀ (cdv : Value) (outer : List Env) (s : Shared) (H F0 : Hp) (E : XK), Room k (callerA.deeper (envOfC qual scope s.heap.objs.size f cdv)) →
      DSs (cxOf (L2.CX P w) P w K mg base N qual scope f cdv callerA outer s H E) (Cn.body F0 H E) body ms)
    (law : ∀ ns : List Int, ns.length ≤ n → fnOf N.length ms [.scr ns] = .ok (.fz (.bl true))) : FnAt P w K mg base callerA f fd [p] (spLaw K n) := by
  refine fnAt_of F S hr fun cdv outer s H vs Q E hr2 hsp => ?_
  obtain ⟨a, ns, rfl, hl, hO, hs, q⟩ := hsp
  refine ⟨_, (hb cdv outer s H H E hr2).pss, fn_start (ds := [.scr ns]) (Ex.refl H) ⟨⟨a, rfl, hs⟩, trivial⟩ ?_⟩
  rw [law ns hl]
  intro v F' H' Rn e nw
  have : v = .bl true := nw.own.2
  subst this
  exact q H'
end PV

set_option Elab.async false
set_option linter.all false
set_option maxRecDepth 100000
set_option maxHeartbeats 400000
namespace PV
open PySem PySem.Spec PyProof.Rows L2
/-! ### short names -/
section
variable {X : Cx} {C : Cn} {e a b c : Expr} {m ma mb mc : Den} {ms m1 m2 : DenS} {pos p p2 : Pos} {x : Str} {es rest : List Expr} {sts : List Stmt}
theorem dv (i : Nat) (hN : X.N[i]? = some x := by rfl) (hv : Vis X.env.scope x := by first | exact Or.inl rfl | exact Or.inr (Or.inl rfl) | exact Or.inr (Or.inr rfl)) (hd : (x == ("__debug__" : Str)) = false := by decide)
    (hcd : (x == ("__classdict__" : Str)) = false := by decide) : DE X C (.Name x pos) (Den.var i) := de_var hN hv hd hcd
theorem ds (s : List Nat) {z : Str} {j : Nat} (hx : z = S s := by first | rfl | kernel_rfl) (ok : OkS s := by refine ⟨?_, ?_⟩ <;> decide) : DE X C (.Constant (.str z) j pos) (Den.c (.str s)) := de_str hx ok
/-- a constant of the module -/
theorem dgI (i : Int) (hm : ∃ t, X.mg x = some (.int i t)) (hg : Gl X x := by rfl) (hx : (x == ("__debug__" : Str)) = false := by decide) : DE X C (.Name x pos) (Den.c (.int i)) := by
  obtain ⟨t, hm⟩ := hm
  exact de_glob (v := .int i) hg hm ⟨t, rfl⟩ (fun _ => rfl) hx
theorem dgS (s : List Nat) {z : Str} (hm : ∃ t, X.mg x = some (.str z t)) (hz : z = S s := by first | rfl | kernel_rfl) (ok : OkS s := by refine ⟨?_, ?_⟩ <;> decide) (hg : Gl X x := by rfl) (hx : (x == ("__debug__" : Str)) = false := by decide) : DE X C (.Name x pos) (Den.c (.str s)) := by
  obtain ⟨t, hm⟩ := hm
  exact de_glob (v := .str z) hg hm ⟨t, rfl⟩ (fun _ => ⟨by rw [hz], ok⟩) hx
theorem bl_eq : ∀ d e t, eqD d e = some t → ∃ b, t = .fz (.bl b) := by
  intro d e t h
  unfold eqD at h
  split at h
  · cases h; exact ⟨_, rfl⟩
  · cases h
theorem bl_ne : ∀ d e t, neD d e = some t → ∃ b, t = .fz (.bl b) := by
  intro d e t h
  unfold neD at h
  split at h
  · cases h; exact ⟨_, rfl⟩
  · cases h
theorem bl_lt : ∀ d e t, ltD d e = some t → ∃ b, t = .fz (.bl b) := by
  intro d e t h
  unfold ltD at h
  split at h <;> first | (cases h; exact ⟨_, rfl⟩) | cases h
theorem bl_le : ∀ d e t, leD d e = some t → ∃ b, t = .fz (.bl b) := by
  intro d e t h
  unfold leD at h
  split at h <;> first | (cases h; exact ⟨_, rfl⟩) | cases h
theorem bl_gt : ∀ d e t, gtD d e = some t → ∃ b, t = .fz (.bl b) := by
  intro d e t h
  unfold gtD at h
  split at h <;> first | (cases h; exact ⟨_, rfl⟩) | cases h
theorem bl_ge : ∀ d e t, geD d e = some t → ∃ b, t = .fz (.bl b) := by
  intro d e t h
  unfold geD at h
  split at h <;> first | (cases h; exact ⟨_, rfl⟩) | cases h
theorem bl_is : ∀ d e t, isD d e = some t → ∃ b, t = .fz (.bl b) := by
  intro d e t h
  unfold isD at h
  split at h <;> first | (cases h; exact ⟨_, rfl⟩) | cases h
theorem bl_isnt : ∀ d e t, isntD d e = some t → ∃ b, t = .fz (.bl b) := by
  intro d e t h
  unfold isntD at h
  split at h <;> first | (cases h; exact ⟨_, rfl⟩) | cases h
theorem bl_in : ∀ d e t, inD d e = some t → ∃ b, t = .fz (.bl b) := by
  intro d e t h
  simp only [inD, Option.map_eq_some_iff] at h
  obtain ⟨b, _, rfl⟩ := h
  exact ⟨b, rfl⟩
theorem bl_ni : ∀ d e t, niD d e = some t → ∃ b, t = .fz (.bl b) := by
  intro d e t h
  simp only [niD, Option.map_eq_some_iff] at h
  obtain ⟨b, _, rfl⟩ := h
  exact ⟨_, rfl⟩
theorem room65 {k : Nat} {A : Around} (hr : Room k A) : A.units + 65 < cLine := by have := hr.un; omega
theorem room1 {k : Nat} {A : Around} (hr : Room k A) : A.units + 1 < cLine := by have := hr.un; omega
variable {k : Nat}
theorem cEq (hr : Room k X.A) (ha : DE X C a ma) (hb : DE X C b mb) : DE X C (.Compare a [.Eq] [b] pos) (Den.op2 eqD ma mb) := de_cmp (o_eq hr.units) bl_eq ha hb (nomark _)
theorem cNe (hr : Room k X.A) (ha : DE X C a ma) (hb : DE X C b mb) : DE X C (.Compare a [.NotEq] [b] pos) (Den.op2 neD ma mb) := de_cmp (o_ne hr.units) bl_ne ha hb (nomark _)
theorem cLt (ha : DE X C a ma) (hb : DE X C b mb) : DE X C (.Compare a [.Lt] [b] pos) (Den.op2 ltD ma mb) := de_cmp o_lt bl_lt ha hb (nomark _)
theorem cLe (ha : DE X C a ma) (hb : DE X C b mb) : DE X C (.Compare a [.LtE] [b] pos) (Den.op2 leD ma mb) := de_cmp o_le bl_le ha hb (nomark _)
theorem cGt (ha : DE X C a ma) (hb : DE X C b mb) : DE X C (.Compare a [.Gt] [b] pos) (Den.op2 gtD ma mb) := de_cmp o_gt bl_gt ha hb (nomark _)
theorem cGe (ha : DE X C a ma) (hb : DE X C b mb) : DE X C (.Compare a [.GtE] [b] pos) (Den.op2 geD ma mb) := de_cmp o_ge bl_ge ha hb (nomark _)
theorem cIs (ha : DE X C a ma) (hb : DE X C b mb) : DE X C (.Compare a [.Is] [b] pos) (Den.op2 isD ma mb) := de_cmp o_is bl_is ha hb (nomark _)
theorem cIsnt (ha : DE X C a ma) (hb : DE X C b mb) : DE X C (.Compare a [.IsNot] [b] pos) (Den.op2 isntD ma mb) := de_cmp o_isnt bl_isnt ha hb (nomark _)
theorem cIn (hr : Room k X.A) (ha : DE X C a ma) (hb : DE X C b mb) (hm : behindInMarks .In b = false := by rfl) : DE X C (.Compare a [.In] [b] pos) (Den.op2 inD ma mb) := de_cmp (o_in (room65 hr)) bl_in ha hb hm
theorem cNi (hr : Room k X.A) (ha : DE X C a ma) (hb : DE X C b mb) (hm : behindInMarks .NotIn b = false := by rfl) : DE X C (.Compare a [.NotIn] [b] pos) (Den.op2 niD ma mb) := de_cmp (o_ni (room65 hr)) bl_ni ha hb hm
theorem dix (hr : Room k X.A) (ha : DE X C a ma) (hi : DE X C b mb) (hs : PlainIx b := by intro _ _; rfl) : DE X C (.Subscript a b pos) (Den.ix ma mb) := de_ix (room1 hr) ha hi hs
end
theorem blk (N : List Str) (sc : Scope) {scope : Scope} {own : List (Str × Nat)} (h1 : scope.kind = .function := by rfl) (h2 : ∀ y ∈ scope.names, scope.names.lookup y.1 = some y.2 := by decide +kernel) (h3 : ∀ p ∈ own, N[p.2]? = some p.1 := by decide +kernel)
    (h4 : ∀ y ∈ scope.names, y.2 = .free → sc.names.lookup y.1 = some .cell ∨ sc.names.lookup y.1 = some .free := by decide +kernel) (h5 : ∀ y ∈ scope.names, y.2 = .local ∨ y.2 = .cell → y.1 ∈ own.map (·.1) ∨ y.1 ∉ N := by decide +kernel) : BlkOk N sc scope own := ⟨h1, h2, h3, h4, h5⟩
theorem bt_len : bootBuiltins "len" = some (.builtin "len") := by decide +kernel
theorem bt_abs : bootBuiltins "abs" = some (.builtin "abs") := by decide +kernel
theorem bt_all : bootBuiltins "all" = some (.builtin "all") := by decide +kernel
theorem bt_any : bootBuiltins "any" = some (.builtin "any") := by decide +kernel
theorem bt_sum : bootBuiltins "sum" = some (.builtin "sum") := by decide +kernel
theorem bt_max : bootBuiltins "max" = some (.builtin "max") := by decide +kernel
theorem bt_min : bootBuiltins "min" = some (.builtin "min") := by decide +kernel
theorem bt_isinstance : bootBuiltins "isinstance" = some (.builtin "isinstance") := by decide +kernel
theorem bt_int : bootBuiltins "int" = some (.type "int") := by decide +kernel
theorem bt_str : bootBuiltins "str" = some (.type "str") := by decide +kernel
theorem bt_bool : bootBuiltins "bool" = some (.type "bool") := by decide +kernel
theorem bt_list : bootBuiltins "list" = some (.type "list") := by decide +kernel
theorem bt_tuple : bootBuiltins "tuple" = some (.type "tuple") := by decide +kernel
theorem bt_dict : bootBuiltins "dict" = some (.type "dict") := by decide +kernel
theorem bt_set : bootBuiltins "set" = some (.type "set") := by decide +kernel
/-! ### name = e -/
section
variable {X : Cx} {C : Cn} {e : Expr} {m : Den} {ms : DenS} {pos p : Pos} {x : Str}
theorem dasg (k : Bool) (i : Nat) (h : DE X C e m) (hN : X.N.Nodup) (hi : X.N[i]? = some x := by rfl) (hx : Loc X.env.scope x := by first | exact Or.inl rfl | exact Or.inr rfl) (hs : swapsWith e (some (.Name x p)) pos.line X.env = pure false := by rfl)
    (hf : X.fn x = true ∨ X.env.scope.names.lookup x = some .local := by first | exact .inl rfl | exact .inr rfl) : DS X C (.Assign [.Name x p] e pos) (DenS.asgK k i m) :=
  ⟨(ps_set hN hi hx h.pe hs hf).imp fun D σ H ⟨F, env, Rg, st, o⟩ => asgK_t st o⟩
theorem dgn (i : Nat) (hN : X.N.Nodup) (hi : X.N[i]? = some x := by rfl) (hx : Loc X.env.scope x := by first | exact Or.inl rfl | exact Or.inr rfl) (hf : X.fn x = true ∨ X.env.scope.names.lookup x = some .local := by first | exact .inl rfl | exact .inr rfl) :
    DG X C (.Name x p) (Bnd.name i) [i] := dg_name hN hi hx hf
end
end PV

set_option Elab.async false
set_option linter.all false
set_option maxRecDepth 100000
set_option maxHeartbeats 0
namespace PV
open PySem PySem.Spec PyProof.Rows L2
/-! ### data of the top -/
mutual
def relD (K : PySem.W.Frag) : D → Value → Bool
  | .non, .none => true
  | .bl b, .bool c => b == c
  | .int i, .int j _ => i == j
  | .str s, .str y _ => decide (y = S s) && (s.all (fun c => decide (c < 1114112)) && decide (s.length ≤ 16777216))
  | .tup ds, .ref a => (match K.lookup a with
    | some ⟨.type "tuple", none, .seq its _, _⟩ => decide (its.size ≤ sizeLine) && relDL K ds its.toList
    | _ => false)
  | _, _ => false
def relDL (K : PySem.W.Frag) : List D → List Value → Bool
  | [], [] => true
  | d :: ds, u :: us => relD K d u && relDL K ds us
  | _, _ => false
end
mutual
theorem relD_ok {K : PySem.W.Frag} : ∀ {d : D} {u : Value}, relD K d u = true → ∃ v, RelV v u ∧ ∀ F, Is K F d v := by
  intro d u h
  cases d <;> cases u <;> simp only [relD] at h <;> try (cases h; done)
  · exact ⟨.non, rfl, fun _ => rfl⟩
  · rename_i b c; have : b = c := by simpa using h
    exact ⟨.bl c, rfl, fun _ => by rw [this]; rfl⟩
  · rename_i i j t; have : i = j := by simpa using h
    exact ⟨.int j, ⟨t, rfl⟩, fun _ => by rw [this]; rfl⟩
  · rename_i s y t
    simp only [Bool.and_eq_true, decide_eq_true_eq, List.all_eq_true] at h
    exact ⟨.str y, ⟨t, rfl⟩, fun _ => ⟨by rw [h.1], h.2.1, h.2.2⟩⟩
  · rename_i ds a
    split at h
    · rename_i its n sl hk
      simp only [Bool.and_eq_true, decide_eq_true_eq] at h
      obtain ⟨vs, r, i⟩ := relDL_ok h.2
      exact ⟨.ref a, rfl, fun F => ⟨a, vs, rfl, .inr ⟨_, its, n, hk, rfl, rfl, rfl, h.1, r⟩, i F⟩⟩
    · cases h
theorem relDL_ok {K : PySem.W.Frag} : ∀ {ds : List D} {us : List Value}, relDL K ds us = true → ∃ vs, Vals vs us ∧ ∀ F, IsL K F ds vs
  | [], [], _ => ⟨[], .nil, fun _ => trivial⟩
  | [], _ :: _, h => by simp [relDL] at h
  | _ :: _, [], h => by simp [relDL] at h
  | d :: ds, u :: us, h => by
    simp only [relDL, Bool.and_eq_true] at h
    obtain ⟨v, r, i⟩ := relD_ok h.1
    obtain ⟨vs, rs, is⟩ := relDL_ok h.2
    exact ⟨v :: vs, .cons r rs, fun F => ⟨i F, is F⟩⟩
end

def tabB (K : PySem.W.Frag) (x : Str) (tab : List (List Nat × D)) : Bool := tab.all fun q => match PySem.W.nsIn K (He.ga K x) (S q.1) with
  | some (some u) => relD K q.2 u
  | _ => false
theorem tbl_of {K : PySem.W.Frag} {w : World} {mg : Str → Option Value} {x : Str} {tab : List (List Nat × D)} (hm : mg x = some (.ref (He.ga K x))) (hd : He.dicW K (He.ga K x) = some (He.keysIn w.params (tab.map fun q => S q.1))) (hb : tabB K x tab = true) : Tbl K w mg x tab := by
  obtain ⟨es, n, kd⟩ := He.dicW_ok hd
  refine ⟨_, es, n, hm, kd, fun z => ?_⟩
  cases hz : tab.lookup z with
  | some dd =>
    have hmem : (z, dd) ∈ tab := by
      clear hd hb
      induction tab with
      | nil => cases hz
      | cons q r ih =>
        obtain ⟨k, d⟩ := q
        simp only [List.lookup] at hz
        split at hz
        · rename_i e
          cases hz
          have : z = k := by simpa using e
          subst this
          exact List.mem_cons_self
        · exact List.mem_cons_of_mem _ (ih hz)
    have h := List.all_eq_true.mp hb _ hmem
    simp only at h
    split at h
    · rename_i u hu
      obtain ⟨v, r, i⟩ := relD_ok h
      exact ⟨u, v, hu, r, i⟩
    · cases h
  | none =>
    have hno : ∀ q ∈ tab, q.1 ≠ z := by
      clear hd hb
      induction tab with
      | nil => intro q h; cases h
      | cons q r ih =>
        obtain ⟨k, d⟩ := q
        simp only [List.lookup] at hz
        split at hz
        · cases hz
        · rename_i e
          intro q' hq'
          rcases List.mem_cons.mp hq' with rfl | hq'
          · intro e2
            have e2 : k = z := e2
            subst e2
            simp at e
          · exact ih hz q' hq'
    have hk : es.toList.map He.keyOf = He.keysIn w.params (tab.map fun q => S q.1) := by
      unfold He.dicW at hd
      rw [kd.at_] at hd
      simp only at hd
      split at hd
      · exact Option.some.inj hd
      · cases hd
    have each : ∀ e ∈ es.toList, ∃ y t, e.key = .str y t ∧ y ≠ S z := by
      intro e he
      have h1 : He.keyOf e ∈ es.toList.map He.keyOf := List.mem_map.mpr ⟨e, he, rfl⟩
      rw [hk] at h1
      simp only [He.keysIn, List.map_map, List.mem_map, Function.comp] at h1
      obtain ⟨q, hq, h2⟩ := h1
      unfold He.keyOf at h2
      split at h2
      · rename_i y t hy
        refine ⟨y, t, hy, ?_⟩
        have h3 := Option.some.inj h2
        have h4 : S q.1 = y := congrArg (·.1) h3
        rw [← h4]
        exact fun h5 => hno q hq (S_inj h5)
      · cases h2
    show PySem.W.nsIn K (He.ga K x) (S z) = some none
    unfold PySem.W.nsIn
    rw [kd.at_]
    have f1 : es.toList.find? (fun e => e.key.isStr (S z)) = none := by
      rw [List.find?_eq_none]
      intro e he
      obtain ⟨y, t, hy, hne⟩ := each e he
      rw [hy]
      simpa [Value.isStr] using hne
    have f2 : es.toList.any (fun e => e.refKey) = false := by
      rw [List.any_eq_false]
      intro e he
      obtain ⟨y, t, hy, hne⟩ := each e he
      simp [DictEntry.refKey, hy]
    simp only [f1, f2]
    rfl
end PV

set_option Elab.async false
set_option linter.all false
set_option maxRecDepth 100000
set_option maxHeartbeats 400000
namespace PV
open PySem PySem.Spec PyProof.Rows L2
/-! ### reckoning -/
/-- (a law that is used by its proof, not by unfolding) -/
theorem hid {α : Sort _} {a b : α} (h : a = b) : a = b := h
def D.onB {α : Type} (d : D) (x y s : α) : α := match d with
  | .bl true => x
  | .bl false => y
  | _ => s
@[simp] theorem onB_bl {α : Type} {b : Bool} {x y s : α} : (D.bl b).onB x y s = if b = true then x else y := by cases b <;> rfl
def onT {α : Type} (o : Option Bool) (x y s : α) : α := match o with
  | some true => x
  | some false => y
  | none => s
@[simp] theorem onT_some {α : Type} {b : Bool} {x y s : α} : onT (some b) x y s = if b = true then x else y := by cases b <;> rfl
def Os.thn (o : Os) (k : Env' → Os) : Os := match o with
  | .nx env' => k env'
  | o => o
@[simp] theorem thn_nx {env : Env'} {k : Env' → Os} : (Os.nx env).thn k = k env := hid rfl
@[simp] theorem thn_ret {t : T} {k : Env' → Os} : (Os.ret t).thn k = .ret t := hid rfl
@[simp] theorem thn_exn {x : Exn} {env : Env'} {k : Env' → Os} : (Os.exn x env).thn k = .exn x env := hid rfl
@[simp] theorem thn_brk {env : Env'} {k : Env' → Os} : (Os.brk env).thn k = .brk env := hid rfl
@[simp] theorem thn_cnt {env : Env'} {k : Env' → Os} : (Os.cnt env).thn k = .cnt env := hid rfl
@[simp] theorem thn_stuck {k : Env' → Os} : Os.stuck.thn k = .stuck := hid rfl
@[simp] theorem thn_ite {c : Prop} [Decidable c] {a b : Os} {k : Env' → Os} : (if c then a else b).thn k = if c then a.thn k else b.thn k := by split <;> rfl
def Os.out (o : Os) : O T := match o with
  | .ret t => .ok t
  | .nx _ => .ok (.fz .non)
  | .exn x _ => .exn x
  | _ => .stuck
@[simp] theorem out_ret {t : T} : (Os.ret t).out = .ok t := hid rfl
@[simp] theorem out_nx {env : Env'} : (Os.nx env).out = .ok (.fz .non) := hid rfl
@[simp] theorem out_exn {x : Exn} {env : Env'} : (Os.exn x env).out = .exn x := hid rfl
@[simp] theorem out_ite {c : Prop} [Decidable c] {a b : Os} : (if c then a else b).out = if c then a.out else b.out := by split <;> rfl
theorem fnOf_eq {n : Nat} {ms : DenS} {ds : List D} : fnOf n ms ds = (ms (startE n ds)).out := rfl
@[simp] theorem bnd_ite {α β : Type} {c : Prop} [Decidable c] {a b : O α} {k : α → O β} : (if c then a else b).bnd k = if c then a.bnd k else b.bnd k := by split <;> rfl
@[simp] theorem sb_ite {α : Type} {c : Prop} [Decidable c] {a b : O α} {env : Env'} {k : α → Os} : sb (if c then a else b) env k = if c then sb a env k else sb b env k := by split <;> rfl
@[simp] theorem blT_eq {b : Bool} : blT b = .fz (.bl b) := hid rfl
@[simp] theorem gI_eq {i : Int} : gI i = some (.fz (.int i)) := hid rfl
@[simp] theorem gB_eq {i : Bool} : gB i = some (.fz (.bl i)) := hid rfl
def onC {α : Type} (o : Option T) (x y s : α) : α := match o with
  | some (.fz (.bl true)) => x
  | some (.fz (.bl false)) => y
  | _ => s
@[simp] theorem onC_bl {α : Type} {b : Bool} {x y s : α} : onC (some (.fz (.bl b))) x y s = if b = true then x else y := by cases b <;> rfl
section
variable {env : Env'} {d : D} {ma mb mc m : Den} {ms : Dens} {m1 m2 : DenS} {f g : D → D → Option T}
@[simp] theorem ev_c : Den.c d env = .ok (.val (.fz d)) := hid rfl
@[simp] theorem ev_var {i : Nat} : Den.var i env = (match env[i]? with
  | some (some (.fz d)) => .ok (.val (.fz d))
  | some (some t) => .ok (.bor t)
  | _ => .stuck) := hid rfl
@[simp] theorem ev_op2 : Den.op2 f ma mb env = (ma env).bnd fun ra => (mb env).bnd fun rb => fin [ra, rb] (f ra.rd rb.rd) := hid rfl
@[simp] theorem ev_nott : Den.nott ma env = (ma env).bnd fun r => onT r.rd.truth (.ok (.val (.fz (.bl false)))) (.ok (.val (.fz (.bl true)))) .stuck := by
  unfold Den.nott onT
  congr; funext r
  cases r.rd.truth with
  | none => rfl
  | some b => cases b <;> rfl
@[simp] theorem ev_andd : Den.andd ma mb env = (ma env).bnd fun r => r.rd.onB (mb env) (.ok (.val (.fz (.bl false)))) .stuck := hid rfl
@[simp] theorem ev_orr : Den.orr ma mb env = (ma env).bnd fun r => r.rd.onB (.ok (.val (.fz (.bl true)))) (mb env) .stuck := hid rfl
@[simp] theorem ev_ite : Den.ite mc ma mb env = (mc env).bnd fun r => onT r.rd.truth (ma env) (mb env) .stuck := hid rfl
@[simp] theorem ev_ix : Den.ix ma mb env = (ma env).bnd fun ra => (mb env).bnd fun ri => match ra with
  | .bor t => (match ixT t ri.rd with
    | some (.fz d) => .ok (.val (.fz d))
    | some t => .ok (.bor t)
    | none => .stuck)
  | .val t => (match ixD t.frz ri.rd with
    | some d => .ok (.val (.fz d))
    | none => .stuck) := hid rfl
@[simp] theorem ev_nil : Dens.nil env = .ok [] := hid rfl
@[simp] theorem ev_cons : Dens.cons m ms env = (m env).bnd fun r => (ms env).bnd fun rs => .ok (r :: rs) := hid rfl
@[simp] theorem ev_fn {f : List D → Option T} : Den.fn f ms env = (ms env).bnd fun rs => fin rs (f (rs.map Rv.rd)) := hid rfl
@[simp] theorem ev_call {f : Fn} : Den.call f ms env = (ms env).bnd fun rs => callO rs (f (rs.map Rv.rd)) := hid rfl
@[simp] theorem ev_list : Den.list ms env = (ms env).bnd fun rs => fin rs (some (T.of (rs.map Rv.rd))) := hid rfl
@[simp] theorem ev_tup : Den.tup ms env = (ms env).bnd fun rs => fin rs (some (.fz (.tup (rs.map Rv.rd)))) := hid rfl
@[simp] theorem ev_sl {lo hi : Option Den} : Den.sl ma lo hi env = (ma env).bnd fun ra => (pI lo env).bnd fun l => (pI hi env).bnd fun h => fin [ra] (slD ra.rd l.1 h.1) := hid rfl
@[simp] theorem ev_chain : Den.chain f g ma mb mc env = (ma env).bnd fun ra => (mb env).bnd fun rb => onC (f ra.rd rb.rd) ((mc env).bnd fun rc => fin [rb, rc] (g rb.rd rc.rd)) (.ok (.val (.fz (.bl false)))) .stuck := hid rfl
@[simp] theorem ev_mt {T' : String} {f : List D → Option T} : Den.mt T' f ma ms env = (ma env).bnd fun ro => if tyM T' ro.rd = true then (ms env).bnd fun rs => fin (ro :: rs) (f (ro.rd :: rs.map Rv.rd)) else .stuck := hid rfl
@[simp] theorem ev_inTab {tab : List (List Nat × D)} : Den.inTab tab m env = (m env).bnd fun r => match r.rd with
  | .str s => .ok (.val (.fz (.bl (tab.lookup s).isSome)))
  | _ => .stuck := hid rfl
@[simp] theorem ev_ixTab {tab : List (List Nat × D)} : Den.ixTab tab m env = (m env).bnd fun r => match r.rd with
  | .str s => (match tab.lookup s with
    | some d => .ok (.val (.fz d))
    | none => .stuck)
  | _ => .stuck := hid rfl
@[simp] theorem ev_rep {neg : Bool} : Den.reprCmp neg ma mb env = (ma env).bnd fun ra => if ra.rd.repOk = true then (mb env).bnd fun rb => if rb.rd.repOk = true then .ok (.val (.fz (.bl (neg ^^ decide (ra.rd.rep = rb.rd.rep))))) else .stuck else .stuck := hid rfl
@[simp] theorem ev_lc {vs : List Nat} {src : DenI} {b : Bnd} {t : DenT} : Den.lc vs src b t m env = (src env).bnd fun r => (lcL b t m (wipeE env vs) r.1).calm.bnd fun xs => .ok (.val (T.of xs)) := hid rfl
@[simp] theorem ev_seqI : DenI.seq m env = (m env).bnd fun r => match r.rd with
  | .str s => .ok (s.map fun c => .str [c], true)
  | _ => (match seqOf r with
    | some (_, ds, cl) => .ok (ds, cl)
    | none => .stuck) := hid rfl
@[simp] theorem ev_r1 : DenI.range1 m env = (m env).bnd fun r => oI (PV.range1 r.rd) := hid rfl
@[simp] theorem ev_r2 : DenI.range2 ma mb env = (ma env).bnd fun r => (mb env).bnd fun r2 => oI (PV.range2 r.rd r2.rd) := hid rfl
@[simp] theorem ev_zip : DenI.zip ma mb env = (ma env).bnd fun r => (mb env).bnd fun r2 => zipI r r2 := hid rfl
@[simp] theorem ev_one : DenT.one m env = (m env).bnd fun r => O.of r.rd.truth := hid rfl
@[simp] theorem ev_yes : DenT.yes env = .ok true := hid rfl
@[simp] theorem ev_sseq : DenS.seq m1 m2 env = (m1 env).thn m2 := hid rfl
@[simp] theorem ev_snil : DenS.nil env = .nx env := hid rfl
@[simp] theorem ev_pass : DenS.pass env = .nx env := hid rfl
@[simp] theorem ev_brk : DenS.brk env = .brk env := hid rfl
@[simp] theorem ev_cnt : DenS.cnt env = .cnt env := hid rfl
@[simp] theorem ev_expr : DenS.expr m env = sb (m env) env fun _ => .nx env := hid rfl
@[simp] theorem ev_ret : DenS.ret m env = sb (m env) env fun r => match r with
  | .val t => .ret t
  | .bor t => .ret t := hid rfl
@[simp] theorem ev_retN : DenS.retN env = .ret (.fz .non) := hid rfl
@[simp] theorem ev_asgK {k : Bool} {i : Nat} : DenS.asgK k i m env = sb (m env) env fun r => match r with
  | .val t => if i < env.length then .nx (env.set i (some (if k = true then .fz t.frz else t))) else .stuck
  | .bor _ => .stuck := hid rfl
@[simp] theorem ev_asgT {b : Bnd} : DenS.asgT b m env = sb (m env) env fun r => match r with
  | .val t => (match b t.frz env with
    | some env' => .nx env'
    | none => .stuck)
  | .bor _ => .stuck := hid rfl
@[simp] theorem ev_site : DenS.ite mc m1 m2 env = sb (mc env) env fun r => onT r.rd.truth (m1 env) (m2 env) .stuck := hid rfl
@[simp] theorem ev_frz {i : Nat} : DenS.frz i m1 env = m1 (frzAt env i) := hid rfl
@[simp] theorem ev_for {src : DenI} {b : Bnd} : DenS.for src b m1 env = sb (src env) env fun r => match r with
  | (ds, true) => forL b m1 ds env
  | _ => .stuck := hid rfl
@[simp] theorem ev_app {i : Nat} : DenS.app i m env = (match env[i]? with
  | some (some (.lst ts)) => sb (m env) env fun r => match r with
    | .val t => if ts.length < 16777216 then .nx (env.set i (some (.lst (ts ++ [t])))) else .stuck
    | .bor _ => .stuck
  | _ => .stuck) := hid rfl
@[simp] theorem ev_setI {i : Nat} : DenS.setI i ma m env = sb (m env) env fun r => match r with
  | .val t => (match env[i]? with
    | some (some (.lst ts)) => sb (ma env) env fun rk => (match rk.rd with
      | .int k => (match ixN ts.length k with
        | some j => .nx (env.set i (some (.lst (ts.set j t))))
        | none => .stuck)
      | _ => .stuck)
    | _ => .stuck)
  | .bor _ => .stuck := hid rfl
@[simp] theorem ev_bname {i : Nat} : Bnd.name i d env = if i < env.length then some (env.set i (some (.fz d))) else none := hid rfl
@[simp] theorem ev_bnil {ds : List D} : Bnds.nil ds env = (match ds with | [] => some env | _ => none) := hid rfl
@[simp] theorem ev_bcons {b : Bnd} {bs : Bnds} {ds : List D} : Bnds.cons b bs ds env = (match ds with
  | d :: ds => (b d env).bind fun env => bs ds env
  | _ => none) := hid rfl
@[simp] theorem ev_btup {bs : Bnds} : Bnd.tup bs d env = (match d with
  | .tup ds => bs ds env
  | .wtp ds => bs ds env
  | _ => none) := hid rfl
end
@[simp] theorem fin_none {rs : List Rv} : fin rs none = .stuck := hid rfl
@[simp] theorem fin_ite {rs : List Rv} {c : Prop} [Decidable c] {a b : Option T} : fin rs (if c then a else b) = if c then fin rs a else fin rs b := by split <;> rfl
@[simp] theorem fin_int {rs : List Rv} {d : Int} : fin rs (some (.fz (.int d))) = .ok (.val (.fz (.int d))) := by simp [fin, D.scal]
@[simp] theorem fin_bl {rs : List Rv} {d : Bool} : fin rs (some (.fz (.bl d))) = .ok (.val (.fz (.bl d))) := by simp [fin, D.scal]
@[simp] theorem fin_str {rs : List Rv} {d : List Nat} : fin rs (some (.fz (.str d))) = .ok (.val (.fz (.str d))) := by simp [fin, D.scal]
@[simp] theorem fin_non {rs : List Rv} : fin rs (some (.fz .non)) = .ok (.val (.fz .non)) := by simp [fin, D.scal]
theorem fin_clean {rs : List Rv} {t : T} (h : rs.all Rv.clean = true) : fin rs (some t) = .ok (.val t) := by simp [fin, h]
@[simp] theorem fin_0 {t : T} : fin [] (some t) = .ok (.val t) := hid rfl
@[simp] theorem fin_v {a : T} {rs : List Rv} {t : T} : fin (.val a :: rs) (some t) = fin rs (some t) := by simp [fin]
@[simp] theorem callO_ok {rs : List Rv} {t : T} : callO rs (.ok t) = fin rs (some t) := hid rfl
@[simp] theorem callO_ite {rs : List Rv} {c : Prop} [Decidable c] {a b : O T} : callO rs (if c then a else b) = if c then callO rs a else callO rs b := by split <;> rfl
@[simp] theorem truth_b {b : Bool} : (D.bl b).truth = some b := hid rfl
@[simp] theorem sc_bl {b : Bool} : (D.bl b).scal = true := hid rfl
@[simp] theorem sc_int {b : Int} : (D.int b).scal = true := hid rfl
@[simp] theorem sc_str {b : List Nat} : (D.str b).scal = true := hid rfl
@[simp] theorem sc_non : D.non.scal = true := hid rfl
@[simp] theorem f1_one {g : D → Option T} {d : D} : f1 g [d] = g d := hid rfl
@[simp] theorem f2_two {g : D → D → Option T} {d e : D} : f2 g [d, e] = g d e := hid rfl
@[simp] theorem calm_ok {α : Type} {a : α} : (O.ok a).calm = .ok a := hid rfl
/-- a sign among signs -/
def memB (c : Nat) (s : List Nat) : Bool := decide (c ∈ s)
@[simp] theorem inB_c {c : Nat} {s : List Nat} : inD (.str [c]) (.str s) = some (blT (memB c s)) := hid rfl
@[simp] theorem niB_c {c : Nat} {s : List Nat} : niD (.str [c]) (.str s) = some (blT (!memB c s)) := hid rfl
@[simp] theorem leD_i {i j : Int} : leD (.int i) (.int j) = some (blT (decide (i ≤ j))) := hid rfl
@[simp] theorem ltD_i {i j : Int} : ltD (.int i) (.int j) = some (blT (decide (i < j))) := hid rfl
@[simp] theorem gtD_i {i j : Int} : gtD (.int i) (.int j) = some (blT (decide (j < i))) := hid rfl
@[simp] theorem geD_i {i j : Int} : geD (.int i) (.int j) = some (blT (decide (j ≤ i))) := hid rfl
@[simp] theorem lenD_s {s : List Nat} : lenD (.str s) = gI s.length := hid rfl
@[simp] theorem lenD_l {s : List D} : lenD (.lst s) = gI s.length := hid rfl
@[simp] theorem lenD_t {s : List D} : lenD (.tup s) = gI s.length := hid rfl
@[simp] theorem eqD_s {a b : List Nat} : eqD (.str a) (.str b) = some (blT (a == b)) := by simp [eqD, D.shp, D.eqv]
@[simp] theorem neD_s {a b : List Nat} : neD (.str a) (.str b) = some (blT (!(a == b))) := by simp [neD, D.shp, D.eqv]
@[simp] theorem eqD_i {a b : Int} : eqD (.int a) (.int b) = some (blT (a == b)) := by simp [eqD, D.shp, D.eqv]
@[simp] theorem neD_i {a b : Int} : neD (.int a) (.int b) = some (blT (!(a == b))) := by simp [neD, D.shp, D.eqv]
theorem atI_nat {α : Type} {xs : List α} {i : Nat} : L2.atI xs (i : Int) = xs[i]? := by
  unfold L2.atI ixN
  rw [if_pos (by omega)]
  by_cases h : i < xs.length
  · rw [if_pos (by omega)]; simp
  · rw [if_neg (by omega)]; simp; omega
@[simp] theorem ix_s0 {c : Nat} {r : List Nat} : ixD (.str (c :: r)) (.int 0) = some (.str [c]) := by
  show (L2.atI (c :: r) ((0 : Nat) : Int)).map _ = _
  rw [atI_nat]; rfl
theorem ixD_l {xs : List D} {i : Nat} : ixD (.lst xs) (.int (i : Int)) = xs[i]? := atI_nat
theorem ixD_t {xs : List D} {i : Nat} : ixD (.tup xs) (.int (i : Int)) = xs[i]? := atI_nat
@[simp] theorem ix_l0 {d : D} {xs : List D} : ixD (.lst (d :: xs)) (.int 0) = some d := ixD_l (i := 0)
@[simp] theorem ix_l1 {d e : D} {xs : List D} : ixD (.lst (d :: e :: xs)) (.int 1) = some e := ixD_l (i := 1)
@[simp] theorem ix_l2 {d e f : D} {xs : List D} : ixD (.lst (d :: e :: f :: xs)) (.int 2) = some f := ixD_l (i := 2)
@[simp] theorem allD_map {α : Type} {f : α → Bool} {xs : List α} : allD (.lst (xs.map fun x => .bl (f x))) = some (.fz (.bl (xs.all f))) := by
  show (blsD (xs.map fun x => .bl (f x))).bind (fun bs => gB (bs.all id)) = _
  rw [blsD_map]
  simp [List.all_map, Function.comp_def]
theorem cut_1 {α : Type} {x : α} {xs : List α} : cut (x :: xs) (some 1) none = xs := by
  unfold cut
  have e1 : HT.sIx (x :: xs).length 0 (some 1) = 1 := by
    rw [show (1 : Int) = ((1 : Nat) : Int) from rfl, HT.sIx_nat]
    simp
  rw [e1, HT.sIx_none]
  simp
@[simp] theorem sl_1 {x : D} {xs : List D} : slD (.lst (x :: xs)) (some 1) none = some (T.of xs) := by
  show some (T.of (cut (x :: xs) (some 1) none)) = _
  rw [cut_1]
theorem eqvL_strs : ∀ {xs ys : List (List Nat)}, D.eqvL (xs.map .str) (ys.map .str) = decide (xs = ys)
  | [], [] => by simp [D.eqvL]
  | [], _ :: _ => by simp [D.eqvL]
  | _ :: _, [] => by simp [D.eqvL]
  | x :: xs, y :: ys => by
    simp only [List.map_cons, D.eqvL, D.eqv, eqvL_strs]
    by_cases h : x = y <;> simp [h]
theorem shpL_strs : ∀ {xs : List (List Nat)} {n : Nat}, D.shpL (n + 1) (xs.map .str) = true
  | [], _ => by simp [D.shpL]
  | x :: xs, n => by simp only [List.map_cons, D.shpL, D.shp, Bool.true_and]; exact shpL_strs
@[simp] theorem eqD_ls {xs ys : List (List Nat)} : eqD (.lst (xs.map .str)) (.lst (ys.map .str)) = some (.fz (.bl (decide (xs = ys)))) := by
  simp [eqD, D.shp, D.eqv, shpL_strs, eqvL_strs]
@[simp] theorem neD_ls {xs ys : List (List Nat)} : neD (.lst (xs.map .str)) (.lst (ys.map .str)) = some (.fz (.bl (!decide (xs = ys)))) := by
  simp [neD, D.shp, D.eqv, shpL_strs, eqvL_strs]
/-! ### turns -/
theorem lcL_all {b : Bnd} {t : DenT} {m : Den} {env : Env'} {p : D → Bool} {g : D → D} : ∀ {ds : List D}, (∀ d ∈ ds, ∃ env1, b d env = some env1 ∧ t env1 = .ok (p d) ∧ (p d = true → m env1 = .ok (.val (.fz (g d))))) → lcL b t m env ds = .ok ((ds.filter p).map g)
  | [], _ => rfl
  | d :: ds, h => by
    obtain ⟨env1, h1, h2, h3⟩ := h d List.mem_cons_self
    have ih := lcL_all (ds := ds) fun x hx => h x (List.mem_cons_of_mem _ hx)
    unfold lcL
    rw [h1]
    simp only [h2, O.bnd_ok]
    cases hp : p d with
    | false => rw [if_neg (by simp), ih, List.filter_cons_of_neg (by simp [hp])]
    | true =>
      rw [if_pos rfl, h3 hp]
      simp only [O.bnd_ok, Rv.clean_val, true_or, if_true, ih]
      rw [List.filter_cons_of_pos hp]
      simp
theorem lcL_map {b : Bnd} {t : DenT} {m : Den} {env : Env'} {g : D → D} {ds : List D} (h : ∀ d ∈ ds, ∃ env1, b d env = some env1 ∧ t env1 = .ok true ∧ m env1 = .ok (.val (.fz (g d)))) : lcL b t m env ds = .ok (ds.map g) := by
  have := lcL_all (p := fun _ => true) (g := g) (b := b) (t := t) (m := m) (env := env) (ds := ds) fun d hd => by
    obtain ⟨e1, h1, h2, h3⟩ := h d hd
    exact ⟨e1, h1, h2, fun _ => h3⟩
  rw [this, List.filter_eq_self.mpr fun _ _ => rfl]
theorem forL_fold {b : Bnd} {body : DenS} {I : Env' → Prop} {f : Env' → D → Env'} : ∀ {ds : List D} {env : Env'}, I env → (∀ d ∈ ds, ∀ env, I env → ∃ e1, b d env = some e1 ∧ body e1 = .nx (f env d) ∧ I (f env d)) → forL b body ds env = .nx (ds.foldl f env)
  | [], _, _, _ => rfl
  | d :: ds, env, hi, h => by
    obtain ⟨e1, h1, h2, h3⟩ := h d List.mem_cons_self env hi
    unfold forL
    rw [h1]
    simp only [h2]
    exact forL_fold h3 fun x hx => h x (List.mem_cons_of_mem _ hx)
theorem forL_inv {b : Bnd} {body : DenS} {I : Nat → Env' → Prop} : ∀ {ds : List D} {env : Env'} {k : Nat}, I k env → (∀ i d env, ds[i]? = some d → I (k + i) env → ∃ e1 e2, b d env = some e1 ∧ body e1 = .nx e2 ∧ I (k + i + 1) e2) → ∃ e', forL b body ds env = .nx e' ∧ I (k + ds.length) e'
  | [], env, k, h, _ => ⟨env, rfl, h⟩
  | d :: ds, env, k, h, st => by
    obtain ⟨e1, e2, h1, h2, h3⟩ := st 0 d env rfl h
    obtain ⟨e', h4, h5⟩ := forL_inv (ds := ds) (env := e2) (k := k + 1) h3 fun i d env hd hi => by
      have := st (i + 1) d env (by simpa using hd) (by rw [show k + (i + 1) = k + 1 + i by omega]; exact hi)
      rw [show k + 1 + i + 1 = k + (i + 1) + 1 by omega]
      exact this
    refine ⟨e', ?_, by rw [List.length_cons, show k + (ds.length + 1) = k + 1 + ds.length by omega]; exact h5⟩
    unfold forL
    rw [h1]
    simp only [h2]
    exact h4
theorem range1_nat {n : Nat} (h : n ≤ 1000000) : PV.range1 (.int (n : Int)) = some ((List.range n).map fun (i : Nat) => .int i) := by
  unfold PV.range1
  simp only
  rw [if_pos (by omega)]
  simp
theorem range_get {n i : Nat} {d : D} (h : ((List.range n).map fun (i : Nat) => D.int i)[i]? = some d) : i < n ∧ d = .int i := by
  rw [List.getElem?_map] at h
  simp only [Option.map_eq_some_iff] at h
  obtain ⟨j, h1, h2⟩ := h
  obtain ⟨h3, h4⟩ := List.getElem?_eq_some_iff.mp h1
  simp at h3 h4
  subst h4
  exact ⟨h3, h2.symm⟩
def T.ints (xs : List Int) : T := .lst (xs.map fun x => .fz (.int x))
@[simp] theorem ints_frz {xs : List Int} : (T.ints xs).frz = .lst (xs.map .int) := by simp [T.ints, T.frzL_map']
theorem ints_of {xs : List Int} : T.of (xs.map .int) = T.ints xs := by simp [T.of, T.ints, Function.comp_def]
end PV

set_option Elab.async false
set_option linter.all false
set_option maxRecDepth 100000
set_option maxHeartbeats 2000000
namespace PV
namespace K53
open PySem PySem.Spec PyProof.Rows L2
abbrev Pr : Program := PySem.Challenge.pw_everyfire_k53_words_of_a_session
def top (i : Nat) : Stmt := Pr.main.body.getD i (.Pass ⟨0, 0, 0, 0⟩)
def tab_FORMS : List (List Nat × D) := [([108, 97, 110, 100], (.tup [(.str [110, 97, 109, 101])])), ([99, 97, 115, 101], (.tup [(.str [110, 97, 109, 101]), (.str [110, 97, 109, 101])])), ([115, 116, 97, 114, 116], (.tup [(.str [110, 97, 109, 101]), (.str [110, 97, 109, 101]), (.str [110, 117, 109, 98, 101, 114])])), ([98, 114, 101, 97, 107], (.tup [(.str [110, 97, 109, 101]), (.str [110, 97, 109, 101]), (.str [110, 117, 109, 98, 101, 114])])), ([102, 114, 101, 101], (.tup [(.str [110, 97, 109, 101]), (.str [110, 97, 109, 101])])), ([97, 115, 107], (.tup [(.str [110, 97, 109, 101]), (.str [110, 97, 109, 101])])), ([115, 116, 97, 116, 101, 115], (.tup [(.str [110, 97, 109, 101])])), ([115, 104, 111, 119], (.tup [(.str [110, 97, 109, 101])])), ([112, 114, 105, 110, 116], (.tup [(.str [110, 97, 109, 101])])), ([117, 110, 100, 111], (.tup [])), ([114, 101, 100, 111], (.tup [])), ([108, 97, 110, 100, 115], (.tup [])), ([99, 97, 115, 101, 115], (.tup []))]
abbrev st_is_name : Stmt := top 3
abbrev N_is_name : List Str := ["text", "char"]
abbrev st_is_number : Stmt := top 7
abbrev N_is_number : List Str := ["word", "char"]
abbrev st_split_words : Stmt := top 10
abbrev N_split_words : List Str := ["line", "word"]
abbrev st_has_form : Stmt := top 11
abbrev N_has_form : List Str := ["words", "form", "word", "sort"]
abbrev st_is_command : Stmt := top 12
abbrev N_is_command : List Str := ["words"]
abbrev st_row_of : Stmt := top 13
abbrev N_row_of : List Str := ["words"]
abbrev st__law_row : Stmt := top 15
abbrev N__law_row : List Str := ["_law_cell", "_law_many", "_law_row_here", "_law_rest", "_law_mixed", "_law_k"]
abbrev st__law_numbers : Stmt := top 16
abbrev N__law_numbers : List Str := ["_law_script", "_law_many", "_law_cells", "_law_each", "_law_numbers_here", "_law_cell", "_law_number"]
abbrev st__law_word : Stmt := top 17
abbrev N__law_word : List Str := ["_law_number", "_law_more", "_law_words", "_law_letters", "_law_size", "_law_word_here", "_law_k"]
abbrev st__law_is_name : Stmt := top 18
abbrev N__law_is_name : List Str := ["_law_word_here", "_law_char"]
abbrev st__law_is_number : Stmt := top 19
abbrev N__law_is_number : List Str := ["_law_word_here", "_law_char"]
abbrev st__law_form : Stmt := top 20
abbrev N__law_form : List Str := ["_law_word_here", "_law_names", "_law_forms"]
abbrev st__law_has_form : Stmt := top 21
abbrev N__law_has_form : List Str := ["_law_words", "_law_form_here", "_law_k"]
abbrev st__law_command : Stmt := top 22
abbrev N__law_command : List Str := ["_law_words"]
abbrev st__law_row_due : Stmt := top 23
abbrev N__law_row_due : List Str := ["_law_words"]
abbrev st__law_formed : Stmt := top 24
abbrev N__law_formed : List Str := ["_law_numbers_here", "_law_words", "_law_names", "_law_figures", "_law_heads", "_law_place", "_law_line", "_law_sort", "_law_word_here"]
abbrev st_law : Stmt := top 25
abbrev N_law : List Str := ["_law_script", "_law_numbers_here", "_law_words", "_law_text", "_law_k", "_law_told", "_law_passed", "_law_actual", "_law_line", "_law_place"]
/-- what the module holds -/
structure Fx (w : World) (K : PySem.W.Frag) (mg : Str → Option Value) : Prop where
  d_is_name : ∃ f fd, FunD K "is_name" "is_name" (defArgs st_is_name) (defBody st_is_name) (defScope st_is_name) [] [] f fd ∧ mg "is_name" = some (.ref f)
  d_is_number : ∃ f fd, FunD K "is_number" "is_number" (defArgs st_is_number) (defBody st_is_number) (defScope st_is_number) [] [] f fd ∧ mg "is_number" = some (.ref f)
  d_split_words : ∃ f fd, FunD K "split_words" "split_words" (defArgs st_split_words) (defBody st_split_words) (defScope st_split_words) [] [] f fd ∧ mg "split_words" = some (.ref f)
  d_has_form : ∃ f fd, FunD K "has_form" "has_form" (defArgs st_has_form) (defBody st_has_form) (defScope st_has_form) [] [] f fd ∧ mg "has_form" = some (.ref f)
  d_is_command : ∃ f fd, FunD K "is_command" "is_command" (defArgs st_is_command) (defBody st_is_command) (defScope st_is_command) [] [] f fd ∧ mg "is_command" = some (.ref f)
  d_row_of : ∃ f fd, FunD K "row_of" "row_of" (defArgs st_row_of) (defBody st_row_of) (defScope st_row_of) [] [] f fd ∧ mg "row_of" = some (.ref f)
  d__law_row : ∃ f fd, FunD K "_law_row" "_law_row" (defArgs st__law_row) (defBody st__law_row) (defScope st__law_row) [] [] f fd ∧ mg "_law_row" = some (.ref f)
  d__law_numbers : ∃ f fd, FunD K "_law_numbers" "_law_numbers" (defArgs st__law_numbers) (defBody st__law_numbers) (defScope st__law_numbers) [] [] f fd ∧ mg "_law_numbers" = some (.ref f)
  d__law_word : ∃ f fd, FunD K "_law_word" "_law_word" (defArgs st__law_word) (defBody st__law_word) (defScope st__law_word) [] [] f fd ∧ mg "_law_word" = some (.ref f)
  d__law_is_name : ∃ f fd, FunD K "_law_is_name" "_law_is_name" (defArgs st__law_is_name) (defBody st__law_is_name) (defScope st__law_is_name) [] [] f fd ∧ mg "_law_is_name" = some (.ref f)
  d__law_is_number : ∃ f fd, FunD K "_law_is_number" "_law_is_number" (defArgs st__law_is_number) (defBody st__law_is_number) (defScope st__law_is_number) [] [] f fd ∧ mg "_law_is_number" = some (.ref f)
  d__law_form : ∃ f fd, FunD K "_law_form" "_law_form" (defArgs st__law_form) (defBody st__law_form) (defScope st__law_form) [] [] f fd ∧ mg "_law_form" = some (.ref f)
  d__law_has_form : ∃ f fd, FunD K "_law_has_form" "_law_has_form" (defArgs st__law_has_form) (defBody st__law_has_form) (defScope st__law_has_form) [] [] f fd ∧ mg "_law_has_form" = some (.ref f)
  d__law_command : ∃ f fd, FunD K "_law_command" "_law_command" (defArgs st__law_command) (defBody st__law_command) (defScope st__law_command) [] [] f fd ∧ mg "_law_command" = some (.ref f)
  d__law_row_due : ∃ f fd, FunD K "_law_row_due" "_law_row_due" (defArgs st__law_row_due) (defBody st__law_row_due) (defScope st__law_row_due) [] [] f fd ∧ mg "_law_row_due" = some (.ref f)
  d__law_formed : ∃ f fd, FunD K "_law_formed" "_law_formed" (defArgs st__law_formed) (defBody st__law_formed) (defScope st__law_formed) [] [] f fd ∧ mg "_law_formed" = some (.ref f)
  d_law : ∃ f fd, FunD K "law" "law" (defArgs st_law) (defBody st_law) (defScope st_law) [] [] f fd ∧ mg "law" = some (.ref f)
  n_abs : mg "abs" = none
  n_all : mg "all" = none
  n_bool : mg "bool" = none
  n_int : mg "int" = none
  n_isinstance : mg "isinstance" = none
  n_len : mg "len" = none
  n_list : mg "list" = none
  n_max : mg "max" = none
  n_range : mg "range" = none
  n_repr : mg "repr" = none
  n_zip : mg "zip" = none
  g_NAME_CHARS : ∃ t, mg "NAME_CHARS" = some (.str "abcdefghijklmnopqrstuvwxyz0123456789" t)
  g_MOST_NAME_CHARS : ∃ t, mg "MOST_NAME_CHARS" = some (.int 12 t)
  g_DIGITS : ∃ t, mg "DIGITS" = some (.str "0123456789" t)
  g_MOST_DIGITS : ∃ t, mg "MOST_DIGITS" = some (.int 6 t)
  t_FORMS : Tbl K w mg "FORMS" tab_FORMS
section
variable {w : World} {K : PySem.W.Frag} {mg : Str → Option Value} {base : Heap}
def m_is_name : DenS := (DenS.seq (DenS.ite (Den.orr (Den.nott (Den.chain leD leD (Den.c (.int 1)) (Den.fn (f1 lenD) (Dens.cons (Den.var 0) Dens.nil)) (Den.c (.int 12)))) (Den.op2 inD (Den.ix (Den.var 0) (Den.c (.int 0))) (Den.c (.str [48, 49, 50, 51, 52, 53, 54, 55, 56, 57])))) (DenS.ret (Den.c (.bl false))) (DenS.nil)) (DenS.ret (Den.fn (f1 allD) (Dens.cons (Den.lc [1] (DenI.seq (Den.var 0)) (Bnd.name 1) DenT.yes (Den.op2 inD (Den.var 1) (Den.c (.str [97, 98, 99, 100, 101, 102, 103, 104, 105, 106, 107, 108, 109, 110, 111, 112, 113, 114, 115, 116, 117, 118, 119, 120, 121, 122, 48, 49, 50, 51, 52, 53, 54, 55, 56, 57])))) Dens.nil))))
def f_is_name : Fn := fnOf N_is_name.length m_is_name
theorem sc_is_name : FnScope N_is_name ["text"] (defScope st_is_name) := ⟨rfl, rfl, rfl, by decide +kernel, rfl, by decide +kernel, by decide +kernel⟩
theorem d_is_name (fx : Fx w K mg) {f : Addr} {cdv : Value} {A : Around} {outer : List Env} {s : Shared} {H F0 : Hp} {E : XK} (hr : Room 1 (A.deeper (envOfC "is_name" (defScope st_is_name) s.heap.objs.size f cdv))) :
    DSs (cxOf (L2.CX Pr w) Pr w K mg base N_is_name "is_name" (defScope st_is_name) f cdv A outer s H E) (Cn.body F0 H E) (defBody st_is_name) m_is_name := by
  have nd := sc_is_name.nd
  exact (dss_cons (ds_if (de_bool (db_or (de_not (de_chain (o_le) (o_le) bl_le (de_int) (de_callB (b_len) rfl fx.n_len bt_len (da_cons (dv 0) da_nil)) (dgI 12 fx.g_MOST_NAME_CHARS))) (db_or1 (cIn hr (dix hr (dv 0) (de_int)) (ds [48, 49, 50, 51, 52, 53, 54, 55, 56, 57]))))) (dss_one (ds_ret (de_bl))) (dss_nil)) (dss_one (ds_ret (de_callB (b_all rfl) rfl fx.n_all bt_all (da_cons (de_lc (own := [("char", 1)]) rfl nd (di_seq (dv 0)) (blk N_is_name (defScope st_is_name)) (fun _ _ _ _ _ => (dgn 1 nd)) (fun _ _ _ _ _ => dt_yes) (fun _ _ _ _ _ => (cIn hr (dv 1) (dgS [97, 98, 99, 100, 101, 102, 103, 104, 105, 106, 107, 108, 109, 110, 111, 112, 113, 114, 115, 116, 117, 118, 119, 120, 121, 122, 48, 49, 50, 51, 52, 53, 54, 55, 56, 57] fx.g_NAME_CHARS)))) da_nil)))))
theorem ok_is_name (fx : Fx w K mg) : Defd Pr w K mg base 2 "is_name" 1 f_is_name := by
  obtain ⟨f, fd, F, hm⟩ := fx.d_is_name
  exact def_ok F hm sc_is_name (fun _ _ _ _ _ _ us hl => match us, hl with | [_], _ => rfl) rfl fun cdv A outer s H F0 E hr => d_is_name fx hr
def m_is_number : DenS := (DenS.seq (DenS.ite (Den.orr (Den.nott (Den.chain leD leD (Den.c (.int 1)) (Den.fn (f1 lenD) (Dens.cons (Den.var 0) Dens.nil)) (Den.c (.int 6)))) (Den.nott (Den.fn (f1 allD) (Dens.cons (Den.lc [1] (DenI.seq (Den.var 0)) (Bnd.name 1) DenT.yes (Den.op2 inD (Den.var 1) (Den.c (.str [48, 49, 50, 51, 52, 53, 54, 55, 56, 57])))) Dens.nil)))) (DenS.ret (Den.c (.bl false))) (DenS.nil)) (DenS.ret (Den.orr (Den.op2 eqD (Den.var 0) (Den.c (.str [48]))) (Den.op2 neD (Den.ix (Den.var 0) (Den.c (.int 0))) (Den.c (.str [48]))))))
def f_is_number : Fn := fnOf N_is_number.length m_is_number
theorem sc_is_number : FnScope N_is_number ["word"] (defScope st_is_number) := ⟨rfl, rfl, rfl, by decide +kernel, rfl, by decide +kernel, by decide +kernel⟩
theorem d_is_number (fx : Fx w K mg) {f : Addr} {cdv : Value} {A : Around} {outer : List Env} {s : Shared} {H F0 : Hp} {E : XK} (hr : Room 1 (A.deeper (envOfC "is_number" (defScope st_is_number) s.heap.objs.size f cdv))) :
    DSs (cxOf (L2.CX Pr w) Pr w K mg base N_is_number "is_number" (defScope st_is_number) f cdv A outer s H E) (Cn.body F0 H E) (defBody st_is_number) m_is_number := by
  have nd := sc_is_number.nd
  exact (dss_cons (ds_if (de_bool (db_or (de_not (de_chain (o_le) (o_le) bl_le (de_int) (de_callB (b_len) rfl fx.n_len bt_len (da_cons (dv 0) da_nil)) (dgI 6 fx.g_MOST_DIGITS))) (db_or1 (de_not (de_callB (b_all rfl) rfl fx.n_all bt_all (da_cons (de_lc (own := [("char", 1)]) rfl nd (di_seq (dv 0)) (blk N_is_number (defScope st_is_number)) (fun _ _ _ _ _ => (dgn 1 nd)) (fun _ _ _ _ _ => dt_yes) (fun _ _ _ _ _ => (cIn hr (dv 1) (dgS [48, 49, 50, 51, 52, 53, 54, 55, 56, 57] fx.g_DIGITS)))) da_nil)))))) (dss_one (ds_ret (de_bl))) (dss_nil)) (dss_one (ds_ret (de_bool (db_or (cEq hr (dv 0) (ds [48])) (db_or1 (cNe hr (dix hr (dv 0) (de_int)) (ds [48]))))))))
theorem ok_is_number (fx : Fx w K mg) : Defd Pr w K mg base 2 "is_number" 1 f_is_number := by
  obtain ⟨f, fd, F, hm⟩ := fx.d_is_number
  exact def_ok F hm sc_is_number (fun _ _ _ _ _ _ us hl => match us, hl with | [_], _ => rfl) rfl fun cdv A outer s H F0 E hr => d_is_number fx hr
def m_split_words : DenS := (DenS.ret (Den.lc [1] (DenI.seq (Den.mt "str" splitD (Den.var 0) (Dens.cons (Den.c (.str [32])) Dens.nil))) (Bnd.name 1) (DenT.one (Den.op2 neD (Den.var 1) (Den.c (.str [])))) (Den.var 1)))
def f_split_words : Fn := fnOf N_split_words.length m_split_words
theorem sc_split_words : FnScope N_split_words ["line"] (defScope st_split_words) := ⟨rfl, rfl, rfl, by decide +kernel, rfl, by decide +kernel, by decide +kernel⟩
theorem d_split_words (fx : Fx w K mg) {f : Addr} {cdv : Value} {A : Around} {outer : List Env} {s : Shared} {H F0 : Hp} {E : XK} (hr : Room 1 (A.deeper (envOfC "split_words" (defScope st_split_words) s.heap.objs.size f cdv))) :
    DSs (cxOf (L2.CX Pr w) Pr w K mg base N_split_words "split_words" (defScope st_split_words) f cdv A outer s H E) (Cn.body F0 H E) (defBody st_split_words) m_split_words := by
  have nd := sc_split_words.nd
  exact (dss_one (ds_ret (de_lc (own := [("word", 1)]) rfl nd (di_seq (de_mt PySem.F.plainAttrs_str PySem.F.slot_str_split PySem.F.type_str_split m_split (dv 0) (da_cons (ds [32]) da_nil))) (blk N_split_words (defScope st_split_words)) (fun _ _ _ _ _ => (dgn 1 nd)) (fun _ _ _ _ _ => (dt_one (cNe hr (dv 1) (ds [])))) (fun _ _ _ _ _ => (dv 1)))))
theorem ok_split_words (fx : Fx w K mg) : Defd Pr w K mg base 2 "split_words" 1 f_split_words := by
  obtain ⟨f, fd, F, hm⟩ := fx.d_split_words
  exact def_ok F hm sc_split_words (fun _ _ _ _ _ _ us hl => match us, hl with | [_], _ => rfl) rfl fun cdv A outer s H F0 E hr => d_split_words fx hr
def m__law_row : DenS := (DenS.seq (DenS.asgK false 2 (Den.list Dens.nil)) (DenS.seq (DenS.asgK true 3 (Den.fn (f1 absD) (Dens.cons (Den.var 0) Dens.nil))) (DenS.seq (DenS.asgK true 4 (Den.op2 modD (Den.fn (f1 intD) (Dens.cons (Den.op2 addD (Den.op2 mulD (Den.var 3) (Den.c (.int 48271))) (Den.c (.int 69621))) Dens.nil)) (Den.c (.int 2147483647)))) (DenS.seq (DenS.for (DenI.range1 (Den.var 1)) (Bnd.name 5) (DenS.seq (DenS.asgK true 4 (Den.op2 modD (Den.fn (f1 intD) (Dens.cons (Den.op2 addD (Den.op2 mulD (Den.var 4) (Den.c (.int 16807))) (Den.op2 mulD (Den.c (.int 271)) (Den.op2 addD (Den.var 5) (Den.c (.int 3))))) Dens.nil)) (Den.c (.int 2147483629)))) (DenS.ite (Den.op2 geD (Den.fn (f1 absD) (Dens.cons (Den.var 0) Dens.nil)) (Den.op2 powD (Den.c (.int 10)) (Den.c (.int 18)))) (DenS.seq (DenS.app 2 (Den.op2 modD (Den.fn (f1 intD) (Dens.cons (Den.var 3) Dens.nil)) (Den.c (.int 1009)))) (DenS.asgK true 3 (Den.op2 fdivD (Den.var 3) (Den.c (.int 1009))))) (DenS.app 2 (Den.op2 modD (Den.fn (f1 intD) (Dens.cons (Den.op2 fdivD (Den.var 4) (Den.c (.int 7))) Dens.nil)) (Den.c (.int 1009))))))) (DenS.ret (Den.var 2))))))
def f__law_row : Fn := fnOf N__law_row.length m__law_row
theorem sc__law_row : FnScope N__law_row ["_law_cell", "_law_many"] (defScope st__law_row) := ⟨rfl, rfl, rfl, by decide +kernel, rfl, by decide +kernel, by decide +kernel⟩
theorem d__law_row (fx : Fx w K mg) {f : Addr} {cdv : Value} {A : Around} {outer : List Env} {s : Shared} {H F0 : Hp} {E : XK} (hr : Room 1 (A.deeper (envOfC "_law_row" (defScope st__law_row) s.heap.objs.size f cdv))) :
    DSs (cxOf (L2.CX Pr w) Pr w K mg base N__law_row "_law_row" (defScope st__law_row) f cdv A outer s H E) (Cn.body F0 H E) (defBody st__law_row) m__law_row := by
  have nd := sc__law_row.nd
  exact (dss_cons (dasg false 2 (de_list da_nil) nd) (dss_cons (dasg true 3 (de_callB (b_abs) rfl fx.n_abs bt_abs (da_cons (dv 0) da_nil)) nd) (dss_cons (dasg true 4 (de_bin o_mod (de_callT b_int rfl fx.n_int bt_int (da_cons (de_bin o_add (de_bin o_mul (dv 3) (de_int)) (de_int)) da_nil)) (de_int)) nd) (dss_cons (ds_for (passes_of rfl) rfl (di_range1 (dv 1) rfl fx.n_range) (dgn 5 nd) (dss_cons (dasg true 4 (de_bin o_mod (de_callT b_int rfl fx.n_int bt_int (da_cons (de_bin o_add (de_bin o_mul (dv 4) (de_int)) (de_bin o_mul (de_int) (de_bin o_add (dv 5) (de_int)))) da_nil)) (de_int)) nd) (dss_one (ds_if (cGe (de_callB (b_abs) rfl fx.n_abs bt_abs (da_cons (dv 0) da_nil)) (de_bin o_pow (de_int) (de_int))) (dss_cons (ds_app (i := 2) rfl (by first | exact Or.inl rfl | exact Or.inr (Or.inl rfl) | exact Or.inr (Or.inr rfl)) (de_bin o_mod (de_callT b_int rfl fx.n_int bt_int (da_cons (dv 3) da_nil)) (de_int))) (dss_one (dasg true 3 (de_bin o_fdiv (dv 3) (de_int)) nd))) (dss_one (ds_app (i := 2) rfl (by first | exact Or.inl rfl | exact Or.inr (Or.inl rfl) | exact Or.inr (Or.inr rfl)) (de_bin o_mod (de_callT b_int rfl fx.n_int bt_int (da_cons (de_bin o_fdiv (dv 4) (de_int)) da_nil)) (de_int)))))))) (dss_one (ds_ret (dv 2)))))))
theorem ok__law_row (fx : Fx w K mg) : Defd Pr w K mg base 2 "_law_row" 2 f__law_row := by
  obtain ⟨f, fd, F, hm⟩ := fx.d__law_row
  exact def_ok F hm sc__law_row (fun _ _ _ _ _ _ us hl => match us, hl with | [_, _], _ => rfl) rfl fun cdv A outer s H F0 E hr => d__law_row fx hr
def m__law_word : DenS := (DenS.seq (DenS.asgK true 2 (Den.tup (Dens.cons (Den.c (.str [108, 97, 110, 100])) (Dens.cons (Den.c (.str [99, 97, 115, 101])) (Dens.cons (Den.c (.str [115, 116, 97, 114, 116])) (Dens.cons (Den.c (.str [98, 114, 101, 97, 107])) (Dens.cons (Den.c (.str [102, 114, 101, 101])) (Dens.cons (Den.c (.str [97, 115, 107])) (Dens.cons (Den.c (.str [115, 116, 97, 116, 101, 115])) (Dens.cons (Den.c (.str [115, 104, 111, 119])) (Dens.cons (Den.c (.str [112, 114, 105, 110, 116])) (Dens.cons (Den.c (.str [117, 110, 100, 111])) (Dens.cons (Den.c (.str [114, 101, 100, 111])) (Dens.cons (Den.c (.str [108, 97, 110, 100, 115])) (Dens.cons (Den.c (.str [99, 97, 115, 101, 115])) (Dens.cons (Den.c (.str [114, 101, 109, 111, 118, 101])) Dens.nil)))))))))))))))) (DenS.seq (DenS.asgK true 2 (Den.op2 addD (Den.var 2) (Den.tup (Dens.cons (Den.c (.str [119, 105, 110, 100])) (Dens.cons (Den.c (.str [101, 110, 100])) (Dens.cons (Den.c (.str [48, 49])) (Dens.cons (Den.c (.str [43, 49])) (Dens.cons (Den.c (.str [49, 95, 48])) (Dens.cons (Den.c (.str [48])) Dens.nil))))))))) (DenS.seq (DenS.asgK true 3 (Den.c (.str [97, 98, 99, 100, 101, 102, 103, 104, 105, 106, 107, 108, 109, 110, 111, 112, 113, 114, 115, 116, 117, 118, 119, 120, 121, 122, 48, 49, 50, 51, 52, 53, 54, 55, 56, 57]))) (DenS.seq (DenS.ite (Den.op2 eqD (Den.op2 modD (Den.fn (f1 intD) (Dens.cons (Den.var 0) Dens.nil)) (Den.c (.int 4))) (Den.c (.int 0))) (DenS.ret (Den.ix (Den.var 2) (Den.op2 modD (Den.fn (f1 intD) (Dens.cons (Den.op2 fdivD (Den.var 0) (Den.c (.int 4))) Dens.nil)) (Den.c (.int 20))))) (DenS.nil)) (DenS.seq (DenS.asgK true 4 (Den.op2 modD (Den.fn (f1 intD) (Dens.cons (Den.op2 fdivD (Den.var 0) (Den.c (.int 4))) Dens.nil)) (Den.c (.int 7)))) (DenS.seq (DenS.ite (Den.op2 eqD (Den.op2 modD (Den.fn (f1 intD) (Dens.cons (Den.var 0) Dens.nil)) (Den.c (.int 4))) (Den.c (.int 1))) (DenS.ret (Den.mt "str" joinD (Den.c (.str [])) (Dens.cons (Den.lc [6] (DenI.range1 (Den.op2 addD (Den.c (.int 1)) (Den.var 4))) (Bnd.name 6) DenT.yes (Den.ix (Den.var 3) (Den.op2 addD (Den.c (.int 26)) (Den.op2 modD (Den.fn (f1 intD) (Dens.cons (Den.op2 addD (Den.op2 addD (Den.var 1) (Den.op2 mulD (Den.op2 mulD (Den.var 6) (Den.var 6)) (Den.c (.int 3)))) (Den.op2 fdivD (Den.var 0) (Den.c (.int 28)))) Dens.nil)) (Den.c (.int 10)))))) Dens.nil))) (DenS.nil)) (DenS.seq (DenS.asgK true 5 (Den.op2 addD (Den.ix (Den.var 3) (Den.op2 modD (Den.fn (f1 intD) (Dens.cons (Den.var 1) Dens.nil)) (Den.c (.int 36)))) (Den.mt "str" joinD (Den.c (.str [])) (Dens.cons (Den.lc [6] (DenI.range1 (Den.op2 mulD (Den.var 4) (Den.c (.int 2)))) (Bnd.name 6) DenT.yes (Den.ix (Den.var 3) (Den.op2 modD (Den.fn (f1 intD) (Dens.cons (Den.op2 addD (Den.op2 addD (Den.var 1) (Den.op2 mulD (Den.op2 mulD (Den.c (.int 11)) (Den.var 6)) (Den.var 0))) (Den.var 6)) Dens.nil)) (Den.c (.int 36))))) Dens.nil)))) (DenS.seq (DenS.ite (Den.op2 eqD (Den.op2 modD (Den.fn (f1 intD) (Dens.cons (Den.var 1) Dens.nil)) (Den.c (.int 9))) (Den.c (.int 0))) (DenS.ret (Den.op2 addD (Den.op2 addD (Den.sl (Den.var 5) none (some (Den.c (.int 2)))) (Den.c (.str [95]))) (Den.sl (Den.var 5) (some (Den.c (.int 2))) none))) (DenS.nil)) (DenS.ret (Den.var 5))))))))))
def f__law_word : Fn := fnOf N__law_word.length m__law_word
theorem sc__law_word : FnScope N__law_word ["_law_number", "_law_more"] (defScope st__law_word) := ⟨rfl, rfl, rfl, by decide +kernel, rfl, by decide +kernel, by decide +kernel⟩
theorem d__law_word (fx : Fx w K mg) {f : Addr} {cdv : Value} {A : Around} {outer : List Env} {s : Shared} {H F0 : Hp} {E : XK} (hr : Room 1 (A.deeper (envOfC "_law_word" (defScope st__law_word) s.heap.objs.size f cdv))) :
    DSs (cxOf (L2.CX Pr w) Pr w K mg base N__law_word "_law_word" (defScope st__law_word) f cdv A outer s H E) (Cn.body F0 H E) (defBody st__law_word) m__law_word := by
  have nd := sc__law_word.nd
  exact (dss_cons (dasg true 2 (de_tup (da_cons (ds [108, 97, 110, 100]) (da_cons (ds [99, 97, 115, 101]) (da_cons (ds [115, 116, 97, 114, 116]) (da_cons (ds [98, 114, 101, 97, 107]) (da_cons (ds [102, 114, 101, 101]) (da_cons (ds [97, 115, 107]) (da_cons (ds [115, 116, 97, 116, 101, 115]) (da_cons (ds [115, 104, 111, 119]) (da_cons (ds [112, 114, 105, 110, 116]) (da_cons (ds [117, 110, 100, 111]) (da_cons (ds [114, 101, 100, 111]) (da_cons (ds [108, 97, 110, 100, 115]) (da_cons (ds [99, 97, 115, 101, 115]) (da_cons (ds [114, 101, 109, 111, 118, 101]) da_nil))))))))))))))) nd) (dss_cons (dasg true 2 (de_bin o_add (dv 2) (de_tup (da_cons (ds [119, 105, 110, 100]) (da_cons (ds [101, 110, 100]) (da_cons (ds [48, 49]) (da_cons (ds [43, 49]) (da_cons (ds [49, 95, 48]) (da_cons (ds [48]) da_nil)))))))) nd) (dss_cons (dasg true 3 (ds [97, 98, 99, 100, 101, 102, 103, 104, 105, 106, 107, 108, 109, 110, 111, 112, 113, 114, 115, 116, 117, 118, 119, 120, 121, 122, 48, 49, 50, 51, 52, 53, 54, 55, 56, 57]) nd) (dss_cons (ds_if (cEq hr (de_bin o_mod (de_callT b_int rfl fx.n_int bt_int (da_cons (dv 0) da_nil)) (de_int)) (de_int)) (dss_one (ds_ret (dix hr (dv 2) (de_bin o_mod (de_callT b_int rfl fx.n_int bt_int (da_cons (de_bin o_fdiv (dv 0) (de_int)) da_nil)) (de_int))))) (dss_nil)) (dss_cons (dasg true 4 (de_bin o_mod (de_callT b_int rfl fx.n_int bt_int (da_cons (de_bin o_fdiv (dv 0) (de_int)) da_nil)) (de_int)) nd) (dss_cons (ds_if (cEq hr (de_bin o_mod (de_callT b_int rfl fx.n_int bt_int (da_cons (dv 0) da_nil)) (de_int)) (de_int)) (dss_one (ds_ret (de_mt PySem.F.plainAttrs_str PySem.F.slot_str_join PySem.F.type_str_join m_join (ds []) (da_cons (de_lc (own := [("_law_k", 6)]) rfl nd (di_range1 (de_bin o_add (de_int) (dv 4)) rfl fx.n_range) (blk N__law_word (defScope st__law_word)) (fun _ _ _ _ _ => (dgn 6 nd)) (fun _ _ _ _ _ => dt_yes) (fun _ _ _ _ _ => (dix hr (dv 3) (de_bin o_add (de_int) (de_bin o_mod (de_callT b_int rfl fx.n_int bt_int (da_cons (de_bin o_add (de_bin o_add (dv 1) (de_bin o_mul (de_bin o_mul (dv 6) (dv 6)) (de_int))) (de_bin o_fdiv (dv 0) (de_int))) da_nil)) (de_int)))))) da_nil)))) (dss_nil)) (dss_cons (dasg true 5 (de_bin o_add (dix hr (dv 3) (de_bin o_mod (de_callT b_int rfl fx.n_int bt_int (da_cons (dv 1) da_nil)) (de_int))) (de_mt PySem.F.plainAttrs_str PySem.F.slot_str_join PySem.F.type_str_join m_join (ds []) (da_cons (de_lc (own := [("_law_k", 6)]) rfl nd (di_range1 (de_bin o_mul (dv 4) (de_int)) rfl fx.n_range) (blk N__law_word (defScope st__law_word)) (fun _ _ _ _ _ => (dgn 6 nd)) (fun _ _ _ _ _ => dt_yes) (fun _ _ _ _ _ => (dix hr (dv 3) (de_bin o_mod (de_callT b_int rfl fx.n_int bt_int (da_cons (de_bin o_add (de_bin o_add (dv 1) (de_bin o_mul (de_bin o_mul (de_int) (dv 6)) (dv 0))) (dv 6)) da_nil)) (de_int))))) da_nil))) nd) (dss_cons (ds_if (cEq hr (de_bin o_mod (de_callT b_int rfl fx.n_int bt_int (da_cons (dv 1) da_nil)) (de_int)) (de_int)) (dss_one (ds_ret (de_bin o_add (de_bin o_add (de_sl (dv 5) dp_none (dp_some (de_int))) (ds [95])) (de_sl (dv 5) (dp_some (de_int)) dp_none)))) (dss_nil)) (dss_one (ds_ret (dv 5)))))))))))
theorem ok__law_word (fx : Fx w K mg) : Defd Pr w K mg base 2 "_law_word" 2 f__law_word := by
  obtain ⟨f, fd, F, hm⟩ := fx.d__law_word
  exact def_ok F hm sc__law_word (fun _ _ _ _ _ _ us hl => match us, hl with | [_, _], _ => rfl) rfl fun cdv A outer s H F0 E hr => d__law_word fx hr
def m__law_is_name : DenS := (DenS.seq (DenS.ite (Den.orr (Den.op2 ltD (Den.fn (f1 lenD) (Dens.cons (Den.var 0) Dens.nil)) (Den.c (.int 1))) (Den.orr (Den.op2 gtD (Den.fn (f1 lenD) (Dens.cons (Den.var 0) Dens.nil)) (Den.c (.int 12))) (Den.op2 niD (Den.ix (Den.var 0) (Den.c (.int 0))) (Den.c (.str [97, 98, 99, 100, 101, 102, 103, 104, 105, 106, 107, 108, 109, 110, 111, 112, 113, 114, 115, 116, 117, 118, 119, 120, 121, 122]))))) (DenS.ret (Den.c (.bl false))) (DenS.nil)) (DenS.ret (Den.fn (f1 allD) (Dens.cons (Den.lc [1] (DenI.seq (Den.var 0)) (Bnd.name 1) DenT.yes (Den.op2 inD (Den.var 1) (Den.c (.str [97, 98, 99, 100, 101, 102, 103, 104, 105, 106, 107, 108, 109, 110, 111, 112, 113, 114, 115, 116, 117, 118, 119, 120, 121, 122, 48, 49, 50, 51, 52, 53, 54, 55, 56, 57])))) Dens.nil))))
def f__law_is_name : Fn := fnOf N__law_is_name.length m__law_is_name
theorem sc__law_is_name : FnScope N__law_is_name ["_law_word_here"] (defScope st__law_is_name) := ⟨rfl, rfl, rfl, by decide +kernel, rfl, by decide +kernel, by decide +kernel⟩
theorem d__law_is_name (fx : Fx w K mg) {f : Addr} {cdv : Value} {A : Around} {outer : List Env} {s : Shared} {H F0 : Hp} {E : XK} (hr : Room 1 (A.deeper (envOfC "_law_is_name" (defScope st__law_is_name) s.heap.objs.size f cdv))) :
    DSs (cxOf (L2.CX Pr w) Pr w K mg base N__law_is_name "_law_is_name" (defScope st__law_is_name) f cdv A outer s H E) (Cn.body F0 H E) (defBody st__law_is_name) m__law_is_name := by
  have nd := sc__law_is_name.nd
  exact (dss_cons (ds_if (de_bool (db_or (cLt (de_callB (b_len) rfl fx.n_len bt_len (da_cons (dv 0) da_nil)) (de_int)) (db_or (cGt (de_callB (b_len) rfl fx.n_len bt_len (da_cons (dv 0) da_nil)) (de_int)) (db_or1 (cNi hr (dix hr (dv 0) (de_int)) (ds [97, 98, 99, 100, 101, 102, 103, 104, 105, 106, 107, 108, 109, 110, 111, 112, 113, 114, 115, 116, 117, 118, 119, 120, 121, 122])))))) (dss_one (ds_ret (de_bl))) (dss_nil)) (dss_one (ds_ret (de_callB (b_all rfl) rfl fx.n_all bt_all (da_cons (de_lc (own := [("_law_char", 1)]) rfl nd (di_seq (dv 0)) (blk N__law_is_name (defScope st__law_is_name)) (fun _ _ _ _ _ => (dgn 1 nd)) (fun _ _ _ _ _ => dt_yes) (fun _ _ _ _ _ => (cIn hr (dv 1) (ds [97, 98, 99, 100, 101, 102, 103, 104, 105, 106, 107, 108, 109, 110, 111, 112, 113, 114, 115, 116, 117, 118, 119, 120, 121, 122, 48, 49, 50, 51, 52, 53, 54, 55, 56, 57])))) da_nil)))))
theorem ok__law_is_name (fx : Fx w K mg) : Defd Pr w K mg base 2 "_law_is_name" 1 f__law_is_name := by
  obtain ⟨f, fd, F, hm⟩ := fx.d__law_is_name
  exact def_ok F hm sc__law_is_name (fun _ _ _ _ _ _ us hl => match us, hl with | [_], _ => rfl) rfl fun cdv A outer s H F0 E hr => d__law_is_name fx hr
def m__law_is_number : DenS := (DenS.seq (DenS.ite (Den.orr (Den.op2 ltD (Den.fn (f1 lenD) (Dens.cons (Den.var 0) Dens.nil)) (Den.c (.int 1))) (Den.orr (Den.op2 gtD (Den.fn (f1 lenD) (Dens.cons (Den.var 0) Dens.nil)) (Den.c (.int 6))) (Den.andd (Den.op2 gtD (Den.fn (f1 lenD) (Dens.cons (Den.var 0) Dens.nil)) (Den.c (.int 1))) (Den.op2 eqD (Den.ix (Den.var 0) (Den.c (.int 0))) (Den.c (.str [48])))))) (DenS.ret (Den.c (.bl false))) (DenS.nil)) (DenS.ret (Den.fn (f1 allD) (Dens.cons (Den.lc [1] (DenI.seq (Den.var 0)) (Bnd.name 1) DenT.yes (Den.op2 inD (Den.var 1) (Den.c (.str [48, 49, 50, 51, 52, 53, 54, 55, 56, 57])))) Dens.nil))))
def f__law_is_number : Fn := fnOf N__law_is_number.length m__law_is_number
theorem sc__law_is_number : FnScope N__law_is_number ["_law_word_here"] (defScope st__law_is_number) := ⟨rfl, rfl, rfl, by decide +kernel, rfl, by decide +kernel, by decide +kernel⟩
theorem d__law_is_number (fx : Fx w K mg) {f : Addr} {cdv : Value} {A : Around} {outer : List Env} {s : Shared} {H F0 : Hp} {E : XK} (hr : Room 1 (A.deeper (envOfC "_law_is_number" (defScope st__law_is_number) s.heap.objs.size f cdv))) :
    DSs (cxOf (L2.CX Pr w) Pr w K mg base N__law_is_number "_law_is_number" (defScope st__law_is_number) f cdv A outer s H E) (Cn.body F0 H E) (defBody st__law_is_number) m__law_is_number := by
  have nd := sc__law_is_number.nd
  exact (dss_cons (ds_if (de_bool (db_or (cLt (de_callB (b_len) rfl fx.n_len bt_len (da_cons (dv 0) da_nil)) (de_int)) (db_or (cGt (de_callB (b_len) rfl fx.n_len bt_len (da_cons (dv 0) da_nil)) (de_int)) (db_or1 (de_bool (db_and (cGt (de_callB (b_len) rfl fx.n_len bt_len (da_cons (dv 0) da_nil)) (de_int)) (db_and1 (cEq hr (dix hr (dv 0) (de_int)) (ds [48]))))))))) (dss_one (ds_ret (de_bl))) (dss_nil)) (dss_one (ds_ret (de_callB (b_all rfl) rfl fx.n_all bt_all (da_cons (de_lc (own := [("_law_char", 1)]) rfl nd (di_seq (dv 0)) (blk N__law_is_number (defScope st__law_is_number)) (fun _ _ _ _ _ => (dgn 1 nd)) (fun _ _ _ _ _ => dt_yes) (fun _ _ _ _ _ => (cIn hr (dv 1) (ds [48, 49, 50, 51, 52, 53, 54, 55, 56, 57])))) da_nil)))))
theorem ok__law_is_number (fx : Fx w K mg) : Defd Pr w K mg base 2 "_law_is_number" 1 f__law_is_number := by
  obtain ⟨f, fd, F, hm⟩ := fx.d__law_is_number
  exact def_ok F hm sc__law_is_number (fun _ _ _ _ _ _ us hl => match us, hl with | [_], _ => rfl) rfl fun cdv A outer s H F0 E hr => d__law_is_number fx hr
def m__law_form : DenS := (DenS.seq (DenS.asgK true 1 (Den.tup (Dens.cons (Den.c (.str [108, 97, 110, 100])) (Dens.cons (Den.c (.str [99, 97, 115, 101])) (Dens.cons (Den.c (.str [115, 116, 97, 114, 116])) (Dens.cons (Den.c (.str [98, 114, 101, 97, 107])) (Dens.cons (Den.c (.str [102, 114, 101, 101])) (Dens.cons (Den.c (.str [97, 115, 107])) (Dens.cons (Den.c (.str [115, 116, 97, 116, 101, 115])) (Dens.cons (Den.c (.str [115, 104, 111, 119])) (Dens.cons (Den.c (.str [112, 114, 105, 110, 116])) (Dens.cons (Den.c (.str [117, 110, 100, 111])) (Dens.cons (Den.c (.str [114, 101, 100, 111])) (Dens.cons (Den.c (.str [108, 97, 110, 100, 115])) (Dens.cons (Den.c (.str [99, 97, 115, 101, 115])) Dens.nil))))))))))))))) (DenS.seq (DenS.asgK true 2 (Den.tup (Dens.cons (Den.c (.str [110])) (Dens.cons (Den.c (.str [110, 110])) (Dens.cons (Den.c (.str [110, 110, 100])) (Dens.cons (Den.c (.str [110, 110, 100])) (Dens.cons (Den.c (.str [110, 110])) (Dens.cons (Den.c (.str [110, 110])) (Dens.cons (Den.c (.str [110])) (Dens.cons (Den.c (.str [110])) (Dens.cons (Den.c (.str [110])) (Dens.cons (Den.c (.str [])) (Dens.cons (Den.c (.str [])) (Dens.cons (Den.c (.str [])) (Dens.cons (Den.c (.str [])) Dens.nil))))))))))))))) (DenS.seq (DenS.ite (Den.op2 inD (Den.var 0) (Den.var 1)) (DenS.ret (Den.ix (Den.var 2) (Den.mt "tuple" idxD (Den.var 1) (Dens.cons (Den.var 0) Dens.nil)))) (DenS.nil)) (DenS.ret (Den.c .non)))))
def f__law_form : Fn := fnOf N__law_form.length m__law_form
theorem sc__law_form : FnScope N__law_form ["_law_word_here"] (defScope st__law_form) := ⟨rfl, rfl, rfl, by decide +kernel, rfl, by decide +kernel, by decide +kernel⟩
theorem d__law_form (fx : Fx w K mg) {f : Addr} {cdv : Value} {A : Around} {outer : List Env} {s : Shared} {H F0 : Hp} {E : XK} (hr : Room 1 (A.deeper (envOfC "_law_form" (defScope st__law_form) s.heap.objs.size f cdv))) :
    DSs (cxOf (L2.CX Pr w) Pr w K mg base N__law_form "_law_form" (defScope st__law_form) f cdv A outer s H E) (Cn.body F0 H E) (defBody st__law_form) m__law_form := by
  have nd := sc__law_form.nd
  exact (dss_cons (dasg true 1 (de_tup (da_cons (ds [108, 97, 110, 100]) (da_cons (ds [99, 97, 115, 101]) (da_cons (ds [115, 116, 97, 114, 116]) (da_cons (ds [98, 114, 101, 97, 107]) (da_cons (ds [102, 114, 101, 101]) (da_cons (ds [97, 115, 107]) (da_cons (ds [115, 116, 97, 116, 101, 115]) (da_cons (ds [115, 104, 111, 119]) (da_cons (ds [112, 114, 105, 110, 116]) (da_cons (ds [117, 110, 100, 111]) (da_cons (ds [114, 101, 100, 111]) (da_cons (ds [108, 97, 110, 100, 115]) (da_cons (ds [99, 97, 115, 101, 115]) da_nil)))))))))))))) nd) (dss_cons (dasg true 2 (de_tup (da_cons (ds [110]) (da_cons (ds [110, 110]) (da_cons (ds [110, 110, 100]) (da_cons (ds [110, 110, 100]) (da_cons (ds [110, 110]) (da_cons (ds [110, 110]) (da_cons (ds [110]) (da_cons (ds [110]) (da_cons (ds [110]) (da_cons (ds []) (da_cons (ds []) (da_cons (ds []) (da_cons (ds []) da_nil)))))))))))))) nd) (dss_cons (ds_if (cIn hr (dv 0) (dv 1)) (dss_one (ds_ret (dix hr (dv 2) (de_mt PySem.F.plainAttrs_tuple PySem.F.slot_tuple_index PySem.F.type_tuple_index m_index (dv 1) (da_cons (dv 0) da_nil))))) (dss_nil)) (dss_one (ds_ret (de_non))))))
theorem ok__law_form (fx : Fx w K mg) : Defd Pr w K mg base 2 "_law_form" 1 f__law_form := by
  obtain ⟨f, fd, F, hm⟩ := fx.d__law_form
  exact def_ok F hm sc__law_form (fun _ _ _ _ _ _ us hl => match us, hl with | [_], _ => rfl) rfl fun cdv A outer s H F0 E hr => d__law_form fx hr
def m_has_form : DenS := (DenS.seq (DenS.ite (Den.op2 neD (Den.fn (f1 lenD) (Dens.cons (Den.var 0) Dens.nil)) (Den.fn (f1 lenD) (Dens.cons (Den.var 1) Dens.nil))) (DenS.ret (Den.c (.bl false))) (DenS.nil)) (DenS.seq (DenS.for (DenI.zip (Den.var 0) (Den.var 1)) (Bnd.tup (Bnds.cons (Bnd.name 2) (Bnds.cons (Bnd.name 3) Bnds.nil))) (DenS.ite (Den.nott (Den.ite (Den.op2 eqD (Den.var 3) (Den.c (.str [110, 97, 109, 101]))) (Den.call f_is_name (Dens.cons (Den.var 2) Dens.nil)) (Den.call f_is_number (Dens.cons (Den.var 2) Dens.nil)))) (DenS.ret (Den.c (.bl false))) (DenS.nil))) (DenS.ret (Den.c (.bl true)))))
def f_has_form : Fn := fnOf N_has_form.length m_has_form
theorem sc_has_form : FnScope N_has_form ["words", "form"] (defScope st_has_form) := ⟨rfl, rfl, rfl, by decide +kernel, rfl, by decide +kernel, by decide +kernel⟩
theorem d_has_form (fx : Fx w K mg) (c_is_name : Defd Pr w K mg base 2 "is_name" 1 f_is_name) (c_is_number : Defd Pr w K mg base 2 "is_number" 1 f_is_number) {f : Addr} {cdv : Value} {A : Around} {outer : List Env} {s : Shared} {H F0 : Hp} {E : XK} (hr : Room 2 (A.deeper (envOfC "has_form" (defScope st_has_form) s.heap.objs.size f cdv))) :
    DSs (cxOf (L2.CX Pr w) Pr w K mg base N_has_form "has_form" (defScope st_has_form) f cdv A outer s H E) (Cn.body F0 H E) (defBody st_has_form) m_has_form := by
  have nd := sc_has_form.nd
  exact (dss_cons (ds_if (cNe hr (de_callB (b_len) rfl fx.n_len bt_len (da_cons (dv 0) da_nil)) (de_callB (b_len) rfl fx.n_len bt_len (da_cons (dv 1) da_nil))) (dss_one (ds_ret (de_bl))) (dss_nil)) (dss_cons (ds_for (passes_of rfl) rfl (di_zip (dv 0) (dv 1) rfl fx.n_zip) (dg_tup rfl (dgs_cons (dgn 2 nd) (dgs_cons (dgn 3 nd) dgs_nil))) (dss_one (ds_if (de_not (de_ite (cEq hr (dv 3) (ds [110, 97, 109, 101])) (de_call c_is_name (hr.mono (by decide)) rfl (Thr.of (takes_of rfl rfl rfl rfl)) (da_cons (dv 2) da_nil)) (de_call c_is_number (hr.mono (by decide)) rfl (Thr.of (takes_of rfl rfl rfl rfl)) (da_cons (dv 2) da_nil)))) (dss_one (ds_ret (de_bl))) (dss_nil)))) (dss_one (ds_ret (de_bl)))))
theorem ok_has_form (fx : Fx w K mg) (c_is_name : Defd Pr w K mg base 2 "is_name" 1 f_is_name) (c_is_number : Defd Pr w K mg base 2 "is_number" 1 f_is_number) : Defd Pr w K mg base 3 "has_form" 2 f_has_form := by
  obtain ⟨f, fd, F, hm⟩ := fx.d_has_form
  exact def_ok F hm sc_has_form (fun _ _ _ _ _ _ us hl => match us, hl with | [_, _], _ => rfl) rfl fun cdv A outer s H F0 E hr => d_has_form fx c_is_name c_is_number hr
def m__law_numbers : DenS := (DenS.seq (DenS.asgK true 2 (Den.sl (Den.var 0) none (some (Den.c (.int 63))))) (DenS.seq (DenS.asgK true 3 (Den.op2 addD (Den.c (.int 1)) (Den.op2 fdivD (Den.var 1) (Den.fn (f2 maxD) (Dens.cons (Den.c (.int 1)) (Dens.cons (Den.fn (f1 lenD) (Dens.cons (Den.var 2) Dens.nil)) Dens.nil)))))) (DenS.seq (DenS.asgK false 4 (Den.list Dens.nil)) (DenS.seq (DenS.for (DenI.seq (Den.var 2)) (Bnd.name 5) (DenS.for (DenI.seq (Den.call f__law_row (Dens.cons (Den.var 5) (Dens.cons (Den.var 3) Dens.nil)))) (Bnd.name 6) (DenS.app 4 (Den.var 6)))) (DenS.seq (DenS.while 10000 (Den.op2 ltD (Den.fn (f1 lenD) (Dens.cons (Den.var 4) Dens.nil)) (Den.var 1)) (DenS.app 4 (Den.c (.int 0)))) (DenS.frz 4 (DenS.ret (Den.sl (Den.var 4) none (some (Den.var 1))))))))))
def f__law_numbers : Fn := fnOf N__law_numbers.length m__law_numbers
theorem sc__law_numbers : FnScope N__law_numbers ["_law_script", "_law_many"] (defScope st__law_numbers) := ⟨rfl, rfl, rfl, by decide +kernel, rfl, by decide +kernel, by decide +kernel⟩
theorem d__law_numbers (fx : Fx w K mg) (c__law_row : Defd Pr w K mg base 2 "_law_row" 2 f__law_row) {f : Addr} {cdv : Value} {A : Around} {outer : List Env} {s : Shared} {H F0 : Hp} {E : XK} (hr : Room 2 (A.deeper (envOfC "_law_numbers" (defScope st__law_numbers) s.heap.objs.size f cdv))) :
    DSs (cxOf (L2.CX Pr w) Pr w K mg base N__law_numbers "_law_numbers" (defScope st__law_numbers) f cdv A outer s H E) (Cn.body F0 H E) (defBody st__law_numbers) m__law_numbers := by
  have nd := sc__law_numbers.nd
  exact (dss_cons (dasg true 2 (de_sl (dv 0) dp_none (dp_some (de_int))) nd) (dss_cons (dasg true 3 (de_bin o_add (de_int) (de_bin o_fdiv (dv 1) (de_callB (b_max rfl) rfl fx.n_max bt_max (da_cons (de_int) (da_cons (de_callB (b_len) rfl fx.n_len bt_len (da_cons (dv 2) da_nil)) da_nil))))) nd) (dss_cons (dasg false 4 (de_list da_nil) nd) (dss_cons (ds_for (passes_of rfl) rfl (di_seq (dv 2)) (dgn 5 nd) (dss_one (ds_for (passes_of rfl) rfl (di_seq (de_call c__law_row (hr.mono (by decide)) rfl (Thr.of (takes_of rfl rfl rfl rfl)) (da_cons (dv 5) (da_cons (dv 3) da_nil)))) (dgn 6 nd) (dss_one (ds_app (i := 4) rfl (by first | exact Or.inl rfl | exact Or.inr (Or.inl rfl) | exact Or.inr (Or.inr rfl)) (dv 6)))))) (dss_cons (ds_while 10000 (passes_of rfl) (cLt (de_callB (b_len) rfl fx.n_len bt_len (da_cons (dv 4) da_nil)) (dv 1)) (dss_one (ds_app (i := 4) rfl (by first | exact Or.inl rfl | exact Or.inr (Or.inl rfl) | exact Or.inr (Or.inr rfl)) (de_int)))) (dss_frz 4 (dss_one (ds_ret (de_sl (dv 4) dp_none (dp_some (dv 1)))))))))))
theorem ok__law_numbers (fx : Fx w K mg) (c__law_row : Defd Pr w K mg base 2 "_law_row" 2 f__law_row) : Defd Pr w K mg base 3 "_law_numbers" 2 f__law_numbers := by
  obtain ⟨f, fd, F, hm⟩ := fx.d__law_numbers
  exact def_ok F hm sc__law_numbers (fun _ _ _ _ _ _ us hl => match us, hl with | [_, _], _ => rfl) rfl fun cdv A outer s H F0 E hr => d__law_numbers fx c__law_row hr
def m__law_has_form : DenS := (DenS.seq (DenS.ite (Den.orr (Den.op2 isD (Den.var 1) (Den.c .non)) (Den.op2 neD (Den.fn (f1 lenD) (Dens.cons (Den.var 1) Dens.nil)) (Den.fn (f1 lenD) (Dens.cons (Den.var 0) Dens.nil)))) (DenS.ret (Den.c (.bl false))) (DenS.nil)) (DenS.seq (DenS.for (DenI.range1 (Den.fn (f1 lenD) (Dens.cons (Den.var 1) Dens.nil))) (Bnd.name 2) (DenS.seq (DenS.ite (Den.andd (Den.op2 eqD (Den.ix (Den.var 1) (Den.var 2)) (Den.c (.str [110]))) (Den.nott (Den.call f__law_is_name (Dens.cons (Den.ix (Den.var 0) (Den.var 2)) Dens.nil)))) (DenS.ret (Den.c (.bl false))) (DenS.nil)) (DenS.ite (Den.andd (Den.op2 eqD (Den.ix (Den.var 1) (Den.var 2)) (Den.c (.str [100]))) (Den.nott (Den.call f__law_is_number (Dens.cons (Den.ix (Den.var 0) (Den.var 2)) Dens.nil)))) (DenS.ret (Den.c (.bl false))) (DenS.nil)))) (DenS.ret (Den.c (.bl true)))))
def f__law_has_form : Fn := fnOf N__law_has_form.length m__law_has_form
theorem sc__law_has_form : FnScope N__law_has_form ["_law_words", "_law_form_here"] (defScope st__law_has_form) := ⟨rfl, rfl, rfl, by decide +kernel, rfl, by decide +kernel, by decide +kernel⟩
theorem d__law_has_form (fx : Fx w K mg) (c__law_is_number : Defd Pr w K mg base 2 "_law_is_number" 1 f__law_is_number) (c__law_is_name : Defd Pr w K mg base 2 "_law_is_name" 1 f__law_is_name) {f : Addr} {cdv : Value} {A : Around} {outer : List Env} {s : Shared} {H F0 : Hp} {E : XK} (hr : Room 2 (A.deeper (envOfC "_law_has_form" (defScope st__law_has_form) s.heap.objs.size f cdv))) :
    DSs (cxOf (L2.CX Pr w) Pr w K mg base N__law_has_form "_law_has_form" (defScope st__law_has_form) f cdv A outer s H E) (Cn.body F0 H E) (defBody st__law_has_form) m__law_has_form := by
  have nd := sc__law_has_form.nd
  exact (dss_cons (ds_if (de_bool (db_or (cIs (dv 1) (de_non)) (db_or1 (cNe hr (de_callB (b_len) rfl fx.n_len bt_len (da_cons (dv 1) da_nil)) (de_callB (b_len) rfl fx.n_len bt_len (da_cons (dv 0) da_nil)))))) (dss_one (ds_ret (de_bl))) (dss_nil)) (dss_cons (ds_for (passes_of rfl) rfl (di_range1 (de_callB (b_len) rfl fx.n_len bt_len (da_cons (dv 1) da_nil)) rfl fx.n_range) (dgn 2 nd) (dss_cons (ds_if (de_bool (db_and (cEq hr (dix hr (dv 1) (dv 2)) (ds [110])) (db_and1 (de_not (de_call c__law_is_name (hr.mono (by decide)) rfl (Thr.of (takes_of rfl rfl rfl rfl)) (da_cons (dix hr (dv 0) (dv 2)) da_nil)))))) (dss_one (ds_ret (de_bl))) (dss_nil)) (dss_one (ds_if (de_bool (db_and (cEq hr (dix hr (dv 1) (dv 2)) (ds [100])) (db_and1 (de_not (de_call c__law_is_number (hr.mono (by decide)) rfl (Thr.of (takes_of rfl rfl rfl rfl)) (da_cons (dix hr (dv 0) (dv 2)) da_nil)))))) (dss_one (ds_ret (de_bl))) (dss_nil))))) (dss_one (ds_ret (de_bl)))))
theorem ok__law_has_form (fx : Fx w K mg) (c__law_is_number : Defd Pr w K mg base 2 "_law_is_number" 1 f__law_is_number) (c__law_is_name : Defd Pr w K mg base 2 "_law_is_name" 1 f__law_is_name) : Defd Pr w K mg base 3 "_law_has_form" 2 f__law_has_form := by
  obtain ⟨f, fd, F, hm⟩ := fx.d__law_has_form
  exact def_ok F hm sc__law_has_form (fun _ _ _ _ _ _ us hl => match us, hl with | [_, _], _ => rfl) rfl fun cdv A outer s H F0 E hr => d__law_has_form fx c__law_is_number c__law_is_name hr
def s__law_formed_1 : DenS := (DenS.ret (Den.var 6))
def b__law_formed_2 : DenS := (DenS.ite (Den.op2 eqD (Den.var 7) (Den.c (.str [110]))) (DenS.app 6 (Den.ix (Den.var 2) (Den.op2 modD (Den.fn (f1 lenD) (Dens.cons (Den.var 6) Dens.nil)) (Den.fn (f1 lenD) (Dens.cons (Den.var 2) Dens.nil))))) (DenS.app 6 (Den.ix (Den.var 3) (Den.op2 modD (Den.fn (f1 lenD) (Dens.cons (Den.var 6) Dens.nil)) (Den.fn (f1 lenD) (Dens.cons (Den.var 3) Dens.nil))))))
def s__law_formed_3 : DenS := (DenS.for (DenI.seq (Den.call f__law_form (Dens.cons (Den.ix (Den.var 4) (Den.var 5)) Dens.nil))) (Bnd.name 7) b__law_formed_2)
def s__law_formed_4 : DenS := (DenS.asgK false 6 (Den.list (Dens.cons (Den.ix (Den.var 4) (Den.var 5)) Dens.nil)))
def s__law_formed_5 : DenS := (DenS.ite (Den.op2 gtD (Den.var 5) (Den.c (.int 14))) (DenS.ret (Den.list (Dens.cons (Den.ix (Den.tup (Dens.cons (Den.c (.str [115, 116, 97, 114, 116])) (Dens.cons (Den.c (.str [98, 114, 101, 97, 107])) Dens.nil))) (Den.op2 subD (Den.var 5) (Den.c (.int 15)))) (Dens.cons (Den.ix (Den.var 2) (Den.c (.int 0))) (Dens.cons (Den.ix (Den.var 3) (Den.c (.int 0))) Dens.nil))))) (DenS.nil))
def s__law_formed_6 : DenS := (DenS.ite (Den.op2 eqD (Den.var 5) (Den.c (.int 14))) (DenS.ret (Den.list (Dens.cons (Den.c (.str [119, 105, 110, 100])) (Dens.cons (Den.ix (Den.var 3) (Den.c (.int 0))) (Dens.cons (Den.ix (Den.var 2) (Den.c (.int 0))) Dens.nil))))) (DenS.nil))
def s__law_formed_7 : DenS := (DenS.ite (Den.op2 eqD (Den.var 5) (Den.c (.int 13))) (DenS.ret (Den.list (Dens.cons (Den.c (.str [114, 101, 109, 111, 118, 101])) (Dens.cons (Den.ix (Den.tup (Dens.cons (Den.c (.str [108, 97, 110, 100])) (Dens.cons (Den.c (.str [99, 97, 115, 101])) Dens.nil))) (Den.op2 modD (Den.fn (f1 intD) (Dens.cons (Den.ix (Den.var 0) (Den.c (.int 43))) Dens.nil)) (Den.c (.int 2)))) (Dens.cons (Den.ix (Den.var 2) (Den.c (.int 0))) Dens.nil))))) (DenS.nil))
def s__law_formed_8 : DenS := (DenS.asgK true 5 (Den.op2 modD (Den.fn (f1 intD) (Dens.cons (Den.ix (Den.var 0) (Den.c (.int 42))) Dens.nil)) (Den.c (.int 17))))
def s__law_formed_9 : DenS := (DenS.asgK true 4 (Den.tup (Dens.cons (Den.c (.str [108, 97, 110, 100])) (Dens.cons (Den.c (.str [99, 97, 115, 101])) (Dens.cons (Den.c (.str [115, 116, 97, 114, 116])) (Dens.cons (Den.c (.str [98, 114, 101, 97, 107])) (Dens.cons (Den.c (.str [102, 114, 101, 101])) (Dens.cons (Den.c (.str [97, 115, 107])) (Dens.cons (Den.c (.str [115, 116, 97, 116, 101, 115])) (Dens.cons (Den.c (.str [115, 104, 111, 119])) (Dens.cons (Den.c (.str [112, 114, 105, 110, 116])) (Dens.cons (Den.c (.str [117, 110, 100, 111])) (Dens.cons (Den.c (.str [114, 101, 100, 111])) (Dens.cons (Den.c (.str [108, 97, 110, 100, 115])) (Dens.cons (Den.c (.str [99, 97, 115, 101, 115])) Dens.nil)))))))))))))))
def s__law_formed_10 : DenS := (DenS.asgK true 3 (Den.op2 addD (Den.lc [8] (DenI.seq (Den.var 1)) (Bnd.name 8) (DenT.one (Den.call f__law_is_number (Dens.cons (Den.var 8) Dens.nil))) (Den.var 8)) (Den.list (Dens.cons (Den.c (.str [48])) (Dens.cons (Den.c (.str [55])) (Dens.cons (Den.c (.str [49, 50])) Dens.nil))))))
def s__law_formed_11 : DenS := (DenS.asgK true 2 (Den.op2 addD (Den.lc [8] (DenI.seq (Den.var 1)) (Bnd.name 8) (DenT.one (Den.call f__law_is_name (Dens.cons (Den.var 8) Dens.nil))) (Den.var 8)) (Den.list (Dens.cons (Den.c (.str [97])) (Dens.cons (Den.c (.str [98])) (Dens.cons (Den.c (.str [99])) Dens.nil))))))
def m__law_formed : DenS := (DenS.seq s__law_formed_11 (DenS.seq s__law_formed_10 (DenS.seq s__law_formed_9 (DenS.seq s__law_formed_8 (DenS.seq s__law_formed_7 (DenS.seq s__law_formed_6 (DenS.seq s__law_formed_5 (DenS.seq s__law_formed_4 (DenS.seq s__law_formed_3 s__law_formed_1)))))))))
def f__law_formed : Fn := fnOf N__law_formed.length m__law_formed
theorem sc__law_formed : FnScope N__law_formed ["_law_numbers_here", "_law_words"] (defScope st__law_formed) := ⟨rfl, rfl, rfl, by decide +kernel, rfl, by decide +kernel, by decide +kernel⟩
theorem d__law_formed (fx : Fx w K mg) (c__law_form : Defd Pr w K mg base 2 "_law_form" 1 f__law_form) (c__law_is_number : Defd Pr w K mg base 2 "_law_is_number" 1 f__law_is_number) (c__law_is_name : Defd Pr w K mg base 2 "_law_is_name" 1 f__law_is_name) {f : Addr} {cdv : Value} {A : Around} {outer : List Env} {s : Shared} {H F0 : Hp} {E : XK} (hr : Room 2 (A.deeper (envOfC "_law_formed" (defScope st__law_formed) s.heap.objs.size f cdv))) :
    DSs (cxOf (L2.CX Pr w) Pr w K mg base N__law_formed "_law_formed" (defScope st__law_formed) f cdv A outer s H E) (Cn.body F0 H E) (defBody st__law_formed) m__law_formed := by
  have nd := sc__law_formed.nd
  exact (dss_cons (dasg true 2 (de_bin o_add (de_lc (own := [("_law_word_here", 8)]) rfl nd (di_seq (dv 1)) (blk N__law_formed (defScope st__law_formed)) (fun _ _ _ _ _ => (dgn 8 nd)) (fun _ _ _ _ _ => (dt_one (de_call c__law_is_name (hr.mono (by decide)) rfl Thr.nox (da_cons (dv 8) da_nil)))) (fun _ _ _ _ _ => (dv 8))) (de_list (da_cons (ds [97]) (da_cons (ds [98]) (da_cons (ds [99]) da_nil))))) nd) (dss_cons (dasg true 3 (de_bin o_add (de_lc (own := [("_law_word_here", 8)]) rfl nd (di_seq (dv 1)) (blk N__law_formed (defScope st__law_formed)) (fun _ _ _ _ _ => (dgn 8 nd)) (fun _ _ _ _ _ => (dt_one (de_call c__law_is_number (hr.mono (by decide)) rfl Thr.nox (da_cons (dv 8) da_nil)))) (fun _ _ _ _ _ => (dv 8))) (de_list (da_cons (ds [48]) (da_cons (ds [55]) (da_cons (ds [49, 50]) da_nil))))) nd) (dss_cons (dasg true 4 (de_tup (da_cons (ds [108, 97, 110, 100]) (da_cons (ds [99, 97, 115, 101]) (da_cons (ds [115, 116, 97, 114, 116]) (da_cons (ds [98, 114, 101, 97, 107]) (da_cons (ds [102, 114, 101, 101]) (da_cons (ds [97, 115, 107]) (da_cons (ds [115, 116, 97, 116, 101, 115]) (da_cons (ds [115, 104, 111, 119]) (da_cons (ds [112, 114, 105, 110, 116]) (da_cons (ds [117, 110, 100, 111]) (da_cons (ds [114, 101, 100, 111]) (da_cons (ds [108, 97, 110, 100, 115]) (da_cons (ds [99, 97, 115, 101, 115]) da_nil)))))))))))))) nd) (dss_cons (dasg true 5 (de_bin o_mod (de_callT b_int rfl fx.n_int bt_int (da_cons (dix hr (dv 0) (de_int)) da_nil)) (de_int)) nd) (dss_cons (ds_if (cEq hr (dv 5) (de_int)) (dss_one (ds_ret (de_list (da_cons (ds [114, 101, 109, 111, 118, 101]) (da_cons (dix hr (de_tup (da_cons (ds [108, 97, 110, 100]) (da_cons (ds [99, 97, 115, 101]) da_nil))) (de_bin o_mod (de_callT b_int rfl fx.n_int bt_int (da_cons (dix hr (dv 0) (de_int)) da_nil)) (de_int))) (da_cons (dix hr (dv 2) (de_int)) da_nil)))))) (dss_nil)) (dss_cons (ds_if (cEq hr (dv 5) (de_int)) (dss_one (ds_ret (de_list (da_cons (ds [119, 105, 110, 100]) (da_cons (dix hr (dv 3) (de_int)) (da_cons (dix hr (dv 2) (de_int)) da_nil)))))) (dss_nil)) (dss_cons (ds_if (cGt (dv 5) (de_int)) (dss_one (ds_ret (de_list (da_cons (dix hr (de_tup (da_cons (ds [115, 116, 97, 114, 116]) (da_cons (ds [98, 114, 101, 97, 107]) da_nil))) (de_bin o_sub (dv 5) (de_int))) (da_cons (dix hr (dv 2) (de_int)) (da_cons (dix hr (dv 3) (de_int)) da_nil)))))) (dss_nil)) (dss_cons (dasg false 6 (de_list (da_cons (dix hr (dv 4) (dv 5)) da_nil)) nd) (dss_cons (ds_for (passes_of rfl) rfl (di_seq (de_call c__law_form (hr.mono (by decide)) rfl (Thr.of (takes_of rfl rfl rfl rfl)) (da_cons (dix hr (dv 4) (dv 5)) da_nil))) (dgn 7 nd) (dss_one (ds_if (cEq hr (dv 7) (ds [110])) (dss_one (ds_app (i := 6) rfl (by first | exact Or.inl rfl | exact Or.inr (Or.inl rfl) | exact Or.inr (Or.inr rfl)) (dix hr (dv 2) (de_bin o_mod (de_callB (b_len) rfl fx.n_len bt_len (da_cons (dv 6) da_nil)) (de_callB (b_len) rfl fx.n_len bt_len (da_cons (dv 2) da_nil)))))) (dss_one (ds_app (i := 6) rfl (by first | exact Or.inl rfl | exact Or.inr (Or.inl rfl) | exact Or.inr (Or.inr rfl)) (dix hr (dv 3) (de_bin o_mod (de_callB (b_len) rfl fx.n_len bt_len (da_cons (dv 6) da_nil)) (de_callB (b_len) rfl fx.n_len bt_len (da_cons (dv 3) da_nil))))))))) (dss_one (ds_ret (dv 6))))))))))))
theorem ok__law_formed (fx : Fx w K mg) (c__law_form : Defd Pr w K mg base 2 "_law_form" 1 f__law_form) (c__law_is_number : Defd Pr w K mg base 2 "_law_is_number" 1 f__law_is_number) (c__law_is_name : Defd Pr w K mg base 2 "_law_is_name" 1 f__law_is_name) : Defd Pr w K mg base 3 "_law_formed" 2 f__law_formed := by
  obtain ⟨f, fd, F, hm⟩ := fx.d__law_formed
  exact def_ok F hm sc__law_formed (fun _ _ _ _ _ _ us hl => match us, hl with | [_, _], _ => rfl) rfl fun cdv A outer s H F0 E hr => d__law_formed fx c__law_form c__law_is_number c__law_is_name hr
def m_is_command : DenS := (DenS.seq (DenS.ite (Den.inTab tab_FORMS (Den.ix (Den.var 0) (Den.c (.int 0)))) (DenS.ret (Den.call f_has_form (Dens.cons (Den.sl (Den.var 0) (some (Den.c (.int 1))) none) (Dens.cons (Den.ixTab tab_FORMS (Den.ix (Den.var 0) (Den.c (.int 0)))) Dens.nil)))) (DenS.nil)) (DenS.ret (Den.andd (Den.op2 eqD (Den.ix (Den.var 0) (Den.c (.int 0))) (Den.c (.str [114, 101, 109, 111, 118, 101]))) (Den.andd (Den.op2 eqD (Den.fn (f1 lenD) (Dens.cons (Den.var 0) Dens.nil)) (Den.c (.int 3))) (Den.andd (Den.op2 inD (Den.ix (Den.var 0) (Den.c (.int 1))) (Den.tup (Dens.cons (Den.c (.str [108, 97, 110, 100])) (Dens.cons (Den.c (.str [99, 97, 115, 101])) Dens.nil)))) (Den.call f_is_name (Dens.cons (Den.ix (Den.var 0) (Den.c (.int 2))) Dens.nil)))))))
def f_is_command : Fn := fnOf N_is_command.length m_is_command
theorem sc_is_command : FnScope N_is_command ["words"] (defScope st_is_command) := ⟨rfl, rfl, rfl, by decide +kernel, rfl, by decide +kernel, by decide +kernel⟩
theorem d_is_command (fx : Fx w K mg) (c_is_name : Defd Pr w K mg base 2 "is_name" 1 f_is_name) (c_has_form : Defd Pr w K mg base 3 "has_form" 2 f_has_form) {f : Addr} {cdv : Value} {A : Around} {outer : List Env} {s : Shared} {H F0 : Hp} {E : XK} (hr : Room 3 (A.deeper (envOfC "is_command" (defScope st_is_command) s.heap.objs.size f cdv))) :
    DSs (cxOf (L2.CX Pr w) Pr w K mg base N_is_command "is_command" (defScope st_is_command) f cdv A outer s H E) (Cn.body F0 H E) (defBody st_is_command) m_is_command := by
  have nd := sc_is_command.nd
  exact (dss_cons (ds_if (de_inTab fx.t_FORMS rfl (dix hr (dv 0) (de_int))) (dss_one (ds_ret (de_call c_has_form (hr.mono (by decide)) rfl (Thr.of (takes_of rfl rfl rfl rfl)) (da_cons (de_sl (dv 0) (dp_some (de_int)) dp_none) (da_cons (de_ixTab fx.t_FORMS rfl (dix hr (dv 0) (de_int))) da_nil))))) (dss_nil)) (dss_one (ds_ret (de_bool (db_and (cEq hr (dix hr (dv 0) (de_int)) (ds [114, 101, 109, 111, 118, 101])) (db_and (cEq hr (de_callB (b_len) rfl fx.n_len bt_len (da_cons (dv 0) da_nil)) (de_int)) (db_and (cIn hr (dix hr (dv 0) (de_int)) (de_tup (da_cons (ds [108, 97, 110, 100]) (da_cons (ds [99, 97, 115, 101]) da_nil)))) (db_and1 (de_call c_is_name (hr.mono (by decide)) rfl (Thr.of (takes_of rfl rfl rfl rfl)) (da_cons (dix hr (dv 0) (de_int)) da_nil))))))))))
theorem ok_is_command (fx : Fx w K mg) (c_is_name : Defd Pr w K mg base 2 "is_name" 1 f_is_name) (c_has_form : Defd Pr w K mg base 3 "has_form" 2 f_has_form) : Defd Pr w K mg base 4 "is_command" 1 f_is_command := by
  obtain ⟨f, fd, F, hm⟩ := fx.d_is_command
  exact def_ok F hm sc_is_command (fun _ _ _ _ _ _ us hl => match us, hl with | [_], _ => rfl) rfl fun cdv A outer s H F0 E hr => d_is_command fx c_is_name c_has_form hr
def m_row_of : DenS := (DenS.seq (DenS.ite (Den.andd (Den.op2 eqD (Den.ix (Den.var 0) (Den.c (.int 0))) (Den.c (.str [119, 105, 110, 100]))) (Den.call f_has_form (Dens.cons (Den.sl (Den.var 0) (some (Den.c (.int 1))) none) (Dens.cons (Den.tup (Dens.cons (Den.c (.str [110, 117, 109, 98, 101, 114])) (Dens.cons (Den.c (.str [110, 97, 109, 101])) Dens.nil))) Dens.nil)))) (DenS.ret (Den.tup (Dens.cons (Den.c (.str [119, 105, 110, 100])) (Dens.cons (Den.fn (f1 intD) (Dens.cons (Den.ix (Den.var 0) (Den.c (.int 1))) Dens.nil)) (Dens.cons (Den.ix (Den.var 0) (Den.c (.int 2))) Dens.nil))))) (DenS.nil)) (DenS.seq (DenS.ite (Den.andd (Den.op2 inD (Den.ix (Den.var 0) (Den.c (.int 0))) (Den.tup (Dens.cons (Den.c (.str [115, 116, 97, 114, 116])) (Dens.cons (Den.c (.str [98, 114, 101, 97, 107])) Dens.nil)))) (Den.call f_has_form (Dens.cons (Den.sl (Den.var 0) (some (Den.c (.int 1))) none) (Dens.cons (Den.tup (Dens.cons (Den.c (.str [110, 97, 109, 101])) (Dens.cons (Den.c (.str [110, 117, 109, 98, 101, 114])) Dens.nil))) Dens.nil)))) (DenS.ret (Den.tup (Dens.cons (Den.ix (Den.var 0) (Den.c (.int 0))) (Dens.cons (Den.ix (Den.var 0) (Den.c (.int 1))) (Dens.cons (Den.fn (f1 intD) (Dens.cons (Den.ix (Den.var 0) (Den.c (.int 2))) Dens.nil)) Dens.nil))))) (DenS.nil)) (DenS.ret (Den.c .non))))
def f_row_of : Fn := fnOf N_row_of.length m_row_of
theorem sc_row_of : FnScope N_row_of ["words"] (defScope st_row_of) := ⟨rfl, rfl, rfl, by decide +kernel, rfl, by decide +kernel, by decide +kernel⟩
theorem d_row_of (fx : Fx w K mg) (c_has_form : Defd Pr w K mg base 3 "has_form" 2 f_has_form) {f : Addr} {cdv : Value} {A : Around} {outer : List Env} {s : Shared} {H F0 : Hp} {E : XK} (hr : Room 3 (A.deeper (envOfC "row_of" (defScope st_row_of) s.heap.objs.size f cdv))) :
    DSs (cxOf (L2.CX Pr w) Pr w K mg base N_row_of "row_of" (defScope st_row_of) f cdv A outer s H E) (Cn.body F0 H E) (defBody st_row_of) m_row_of := by
  have nd := sc_row_of.nd
  exact (dss_cons (ds_if (de_bool (db_and (cEq hr (dix hr (dv 0) (de_int)) (ds [119, 105, 110, 100])) (db_and1 (de_call c_has_form (hr.mono (by decide)) rfl (Thr.of (takes_of rfl rfl rfl rfl)) (da_cons (de_sl (dv 0) (dp_some (de_int)) dp_none) (da_cons (de_tup (da_cons (ds [110, 117, 109, 98, 101, 114]) (da_cons (ds [110, 97, 109, 101]) da_nil))) da_nil)))))) (dss_one (ds_ret (de_tup (da_cons (ds [119, 105, 110, 100]) (da_cons (de_callT b_int rfl fx.n_int bt_int (da_cons (dix hr (dv 0) (de_int)) da_nil)) (da_cons (dix hr (dv 0) (de_int)) da_nil)))))) (dss_nil)) (dss_cons (ds_if (de_bool (db_and (cIn hr (dix hr (dv 0) (de_int)) (de_tup (da_cons (ds [115, 116, 97, 114, 116]) (da_cons (ds [98, 114, 101, 97, 107]) da_nil)))) (db_and1 (de_call c_has_form (hr.mono (by decide)) rfl (Thr.of (takes_of rfl rfl rfl rfl)) (da_cons (de_sl (dv 0) (dp_some (de_int)) dp_none) (da_cons (de_tup (da_cons (ds [110, 97, 109, 101]) (da_cons (ds [110, 117, 109, 98, 101, 114]) da_nil))) da_nil)))))) (dss_one (ds_ret (de_tup (da_cons (dix hr (dv 0) (de_int)) (da_cons (dix hr (dv 0) (de_int)) (da_cons (de_callT b_int rfl fx.n_int bt_int (da_cons (dix hr (dv 0) (de_int)) da_nil)) da_nil)))))) (dss_nil)) (dss_one (ds_ret (de_non)))))
theorem ok_row_of (fx : Fx w K mg) (c_has_form : Defd Pr w K mg base 3 "has_form" 2 f_has_form) : Defd Pr w K mg base 4 "row_of" 1 f_row_of := by
  obtain ⟨f, fd, F, hm⟩ := fx.d_row_of
  exact def_ok F hm sc_row_of (fun _ _ _ _ _ _ us hl => match us, hl with | [_], _ => rfl) rfl fun cdv A outer s H F0 E hr => d_row_of fx c_has_form hr
def m__law_command : DenS := (DenS.seq (DenS.ite (Den.op2 eqD (Den.ix (Den.var 0) (Den.c (.int 0))) (Den.c (.str [114, 101, 109, 111, 118, 101]))) (DenS.ret (Den.andd (Den.op2 eqD (Den.fn (f1 lenD) (Dens.cons (Den.var 0) Dens.nil)) (Den.c (.int 3))) (Den.andd (Den.op2 inD (Den.ix (Den.var 0) (Den.c (.int 1))) (Den.tup (Dens.cons (Den.c (.str [108, 97, 110, 100])) (Dens.cons (Den.c (.str [99, 97, 115, 101])) Dens.nil)))) (Den.call f__law_is_name (Dens.cons (Den.ix (Den.var 0) (Den.c (.int 2))) Dens.nil))))) (DenS.nil)) (DenS.ret (Den.call f__law_has_form (Dens.cons (Den.sl (Den.var 0) (some (Den.c (.int 1))) none) (Dens.cons (Den.call f__law_form (Dens.cons (Den.ix (Den.var 0) (Den.c (.int 0))) Dens.nil)) Dens.nil)))))
def f__law_command : Fn := fnOf N__law_command.length m__law_command
theorem sc__law_command : FnScope N__law_command ["_law_words"] (defScope st__law_command) := ⟨rfl, rfl, rfl, by decide +kernel, rfl, by decide +kernel, by decide +kernel⟩
theorem d__law_command (fx : Fx w K mg) (c__law_form : Defd Pr w K mg base 2 "_law_form" 1 f__law_form) (c__law_has_form : Defd Pr w K mg base 3 "_law_has_form" 2 f__law_has_form) (c__law_is_name : Defd Pr w K mg base 2 "_law_is_name" 1 f__law_is_name) {f : Addr} {cdv : Value} {A : Around} {outer : List Env} {s : Shared} {H F0 : Hp} {E : XK} (hr : Room 3 (A.deeper (envOfC "_law_command" (defScope st__law_command) s.heap.objs.size f cdv))) :
    DSs (cxOf (L2.CX Pr w) Pr w K mg base N__law_command "_law_command" (defScope st__law_command) f cdv A outer s H E) (Cn.body F0 H E) (defBody st__law_command) m__law_command := by
  have nd := sc__law_command.nd
  exact (dss_cons (ds_if (cEq hr (dix hr (dv 0) (de_int)) (ds [114, 101, 109, 111, 118, 101])) (dss_one (ds_ret (de_bool (db_and (cEq hr (de_callB (b_len) rfl fx.n_len bt_len (da_cons (dv 0) da_nil)) (de_int)) (db_and (cIn hr (dix hr (dv 0) (de_int)) (de_tup (da_cons (ds [108, 97, 110, 100]) (da_cons (ds [99, 97, 115, 101]) da_nil)))) (db_and1 (de_call c__law_is_name (hr.mono (by decide)) rfl (Thr.of (takes_of rfl rfl rfl rfl)) (da_cons (dix hr (dv 0) (de_int)) da_nil)))))))) (dss_nil)) (dss_one (ds_ret (de_call c__law_has_form (hr.mono (by decide)) rfl (Thr.of (takes_of rfl rfl rfl rfl)) (da_cons (de_sl (dv 0) (dp_some (de_int)) dp_none) (da_cons (de_call c__law_form (hr.mono (by decide)) rfl (Thr.of (takes_of rfl rfl rfl rfl)) (da_cons (dix hr (dv 0) (de_int)) da_nil)) da_nil))))))
theorem ok__law_command (fx : Fx w K mg) (c__law_form : Defd Pr w K mg base 2 "_law_form" 1 f__law_form) (c__law_has_form : Defd Pr w K mg base 3 "_law_has_form" 2 f__law_has_form) (c__law_is_name : Defd Pr w K mg base 2 "_law_is_name" 1 f__law_is_name) : Defd Pr w K mg base 4 "_law_command" 1 f__law_command := by
  obtain ⟨f, fd, F, hm⟩ := fx.d__law_command
  exact def_ok F hm sc__law_command (fun _ _ _ _ _ _ us hl => match us, hl with | [_], _ => rfl) rfl fun cdv A outer s H F0 E hr => d__law_command fx c__law_form c__law_has_form c__law_is_name hr
def m__law_row_due : DenS := (DenS.seq (DenS.ite (Den.andd (Den.op2 eqD (Den.ix (Den.var 0) (Den.c (.int 0))) (Den.c (.str [119, 105, 110, 100]))) (Den.call f__law_has_form (Dens.cons (Den.sl (Den.var 0) (some (Den.c (.int 1))) none) (Dens.cons (Den.c (.str [100, 110])) Dens.nil)))) (DenS.ret (Den.tup (Dens.cons (Den.c (.str [119, 105, 110, 100])) (Dens.cons (Den.fn (f1 intD) (Dens.cons (Den.ix (Den.var 0) (Den.c (.int 1))) Dens.nil)) (Dens.cons (Den.ix (Den.var 0) (Den.c (.int 2))) Dens.nil))))) (DenS.nil)) (DenS.seq (DenS.ite (Den.andd (Den.orr (Den.op2 eqD (Den.ix (Den.var 0) (Den.c (.int 0))) (Den.c (.str [115, 116, 97, 114, 116]))) (Den.op2 eqD (Den.ix (Den.var 0) (Den.c (.int 0))) (Den.c (.str [98, 114, 101, 97, 107])))) (Den.call f__law_has_form (Dens.cons (Den.sl (Den.var 0) (some (Den.c (.int 1))) none) (Dens.cons (Den.c (.str [110, 100])) Dens.nil)))) (DenS.ret (Den.tup (Dens.cons (Den.ix (Den.var 0) (Den.c (.int 0))) (Dens.cons (Den.ix (Den.var 0) (Den.c (.int 1))) (Dens.cons (Den.fn (f1 intD) (Dens.cons (Den.ix (Den.var 0) (Den.c (.int 2))) Dens.nil)) Dens.nil))))) (DenS.nil)) (DenS.ret (Den.c .non))))
def f__law_row_due : Fn := fnOf N__law_row_due.length m__law_row_due
theorem sc__law_row_due : FnScope N__law_row_due ["_law_words"] (defScope st__law_row_due) := ⟨rfl, rfl, rfl, by decide +kernel, rfl, by decide +kernel, by decide +kernel⟩
theorem d__law_row_due (fx : Fx w K mg) (c__law_has_form : Defd Pr w K mg base 3 "_law_has_form" 2 f__law_has_form) {f : Addr} {cdv : Value} {A : Around} {outer : List Env} {s : Shared} {H F0 : Hp} {E : XK} (hr : Room 3 (A.deeper (envOfC "_law_row_due" (defScope st__law_row_due) s.heap.objs.size f cdv))) :
    DSs (cxOf (L2.CX Pr w) Pr w K mg base N__law_row_due "_law_row_due" (defScope st__law_row_due) f cdv A outer s H E) (Cn.body F0 H E) (defBody st__law_row_due) m__law_row_due := by
  have nd := sc__law_row_due.nd
  exact (dss_cons (ds_if (de_bool (db_and (cEq hr (dix hr (dv 0) (de_int)) (ds [119, 105, 110, 100])) (db_and1 (de_call c__law_has_form (hr.mono (by decide)) rfl (Thr.of (takes_of rfl rfl rfl rfl)) (da_cons (de_sl (dv 0) (dp_some (de_int)) dp_none) (da_cons (ds [100, 110]) da_nil)))))) (dss_one (ds_ret (de_tup (da_cons (ds [119, 105, 110, 100]) (da_cons (de_callT b_int rfl fx.n_int bt_int (da_cons (dix hr (dv 0) (de_int)) da_nil)) (da_cons (dix hr (dv 0) (de_int)) da_nil)))))) (dss_nil)) (dss_cons (ds_if (de_bool (db_and (de_bool (db_or (cEq hr (dix hr (dv 0) (de_int)) (ds [115, 116, 97, 114, 116])) (db_or1 (cEq hr (dix hr (dv 0) (de_int)) (ds [98, 114, 101, 97, 107]))))) (db_and1 (de_call c__law_has_form (hr.mono (by decide)) rfl (Thr.of (takes_of rfl rfl rfl rfl)) (da_cons (de_sl (dv 0) (dp_some (de_int)) dp_none) (da_cons (ds [110, 100]) da_nil)))))) (dss_one (ds_ret (de_tup (da_cons (dix hr (dv 0) (de_int)) (da_cons (dix hr (dv 0) (de_int)) (da_cons (de_callT b_int rfl fx.n_int bt_int (da_cons (dix hr (dv 0) (de_int)) da_nil)) da_nil)))))) (dss_nil)) (dss_one (ds_ret (de_non)))))
theorem ok__law_row_due (fx : Fx w K mg) (c__law_has_form : Defd Pr w K mg base 3 "_law_has_form" 2 f__law_has_form) : Defd Pr w K mg base 4 "_law_row_due" 1 f__law_row_due := by
  obtain ⟨f, fd, F, hm⟩ := fx.d__law_row_due
  exact def_ok F hm sc__law_row_due (fun _ _ _ _ _ _ us hl => match us, hl with | [_], _ => rfl) rfl fun cdv A outer s H F0 E hr => d__law_row_due fx c__law_has_form hr
def s_law_1 : DenS := (DenS.ret (Den.andd (Den.fn (f2 isiD) (Dens.cons (Den.var 7) (Dens.cons (Den.c (.ty "bool")) Dens.nil))) (Den.andd (Den.op2 eqD (Den.var 7) (Den.call f__law_command (Dens.cons (Den.var 2) Dens.nil))) (Den.op2 eqD (Den.var 6) (Den.var 2)))))
def s_law_2 : DenS := (DenS.asgK true 7 (Den.call f_is_command (Dens.cons (Den.var 6) Dens.nil)))
def s_law_3 : DenS := (DenS.ite (Den.reprCmp true (Den.call f_row_of (Dens.cons (Den.var 6) Dens.nil)) (Den.call f__law_row_due (Dens.cons (Den.var 2) Dens.nil))) (DenS.ret (Den.c (.bl false))) (DenS.nil))
def s_law_4 : DenS := (DenS.asgK true 6 (Den.fn (f1 listD) (Dens.cons (Den.var 2) Dens.nil)))
def s_law_5 : DenS := (DenS.ite (Den.op2 neD (Den.call f_split_words (Dens.cons (Den.c (.str [97, 9, 98, 32, 9])) Dens.nil)) (Den.list (Dens.cons (Den.c (.str [97, 9, 98])) (Dens.cons (Den.c (.str [9])) Dens.nil)))) (DenS.ret (Den.c (.bl false))) (DenS.nil))
def s_law_6 : DenS := (DenS.ite (Den.orr (Den.nott (Den.fn (f2 isiD) (Dens.cons (Den.var 5) (Dens.cons (Den.c (.ty "list")) Dens.nil)))) (Den.orr (Den.op2 neD (Den.var 5) (Den.var 2)) (Den.op2 neD (Den.call f_split_words (Dens.cons (Den.op2 mulD (Den.c (.str [32])) (Den.op2 modD (Den.fn (f1 intD) (Dens.cons (Den.ix (Den.var 1) (Den.c (.int 50))) Dens.nil)) (Den.c (.int 4)))) Dens.nil)) (Den.list Dens.nil)))) (DenS.ret (Den.c (.bl false))) (DenS.nil))
def s_law_7 : DenS := (DenS.asgK true 5 (Den.call f_split_words (Dens.cons (Den.var 3) Dens.nil)))
def s_law_8 : DenS := (DenS.asgK true 3 (Den.op2 addD (Den.var 3) (Den.op2 mulD (Den.c (.str [32])) (Den.op2 modD (Den.fn (f1 intD) (Dens.cons (Den.ix (Den.var 1) (Den.c (.int 49))) Dens.nil)) (Den.c (.int 3))))))
def b_law_9 : DenS := (DenS.seq (DenS.asgK true 3 (Den.op2 addD (Den.var 3) (Den.ix (Den.var 2) (Den.var 4)))) (DenS.ite (Den.op2 ltD (Den.op2 addD (Den.var 4) (Den.c (.int 1))) (Den.fn (f1 lenD) (Dens.cons (Den.var 2) Dens.nil))) (DenS.asgK true 3 (Den.op2 addD (Den.var 3) (Den.op2 mulD (Den.c (.str [32])) (Den.op2 addD (Den.c (.int 1)) (Den.op2 modD (Den.fn (f1 intD) (Dens.cons (Den.op2 addD (Den.ix (Den.var 1) (Den.c (.int 47))) (Den.op2 mulD (Den.var 4) (Den.ix (Den.var 1) (Den.c (.int 48))))) Dens.nil)) (Den.c (.int 3))))))) (DenS.nil)))
def s_law_10 : DenS := (DenS.for (DenI.range1 (Den.fn (f1 lenD) (Dens.cons (Den.var 2) Dens.nil))) (Bnd.name 4) b_law_9)
def s_law_11 : DenS := (DenS.asgK true 3 (Den.op2 mulD (Den.c (.str [32])) (Den.op2 modD (Den.fn (f1 intD) (Dens.cons (Den.ix (Den.var 1) (Den.c (.int 46))) Dens.nil)) (Den.c (.int 3)))))
def s_law_12 : DenS := (DenS.ite (Den.op2 gtD (Den.op2 modD (Den.fn (f1 intD) (Dens.cons (Den.ix (Den.var 1) (Den.c (.int 41))) Dens.nil)) (Den.c (.int 3))) (Den.c (.int 0))) (DenS.seq (DenS.asgK false 8 (Den.call f__law_formed (Dens.cons (Den.var 1) (Dens.cons (Den.var 2) Dens.nil)))) (DenS.seq (DenS.asgK true 9 (Den.op2 modD (Den.fn (f1 intD) (Dens.cons (Den.ix (Den.var 1) (Den.c (.int 44))) Dens.nil)) (Den.fn (f1 lenD) (Dens.cons (Den.var 8) Dens.nil)))) (DenS.seq (DenS.ite (Den.op2 eqD (Den.op2 modD (Den.fn (f1 intD) (Dens.cons (Den.ix (Den.var 1) (Den.c (.int 45))) Dens.nil)) (Den.c (.int 6))) (Den.c (.int 0))) (DenS.setI 8 (Den.var 9) (Den.ix (Den.var 2) (Den.c (.int 0)))) (DenS.nil)) (DenS.seq (DenS.ite (Den.andd (Den.op2 eqD (Den.op2 modD (Den.fn (f1 intD) (Dens.cons (Den.ix (Den.var 1) (Den.c (.int 45))) Dens.nil)) (Den.c (.int 6))) (Den.c (.int 1))) (Den.op2 gtD (Den.fn (f1 lenD) (Dens.cons (Den.var 8) Dens.nil)) (Den.c (.int 1)))) (DenS.frz 8 (DenS.asgK false 8 (Den.op2 addD (Den.sl (Den.var 8) none (some (Den.var 9))) (Den.sl (Den.var 8) (some (Den.op2 addD (Den.var 9) (Den.c (.int 1)))) none)))) (DenS.nil)) (DenS.seq (DenS.ite (Den.op2 eqD (Den.op2 modD (Den.fn (f1 intD) (Dens.cons (Den.ix (Den.var 1) (Den.c (.int 45))) Dens.nil)) (Den.c (.int 6))) (Den.c (.int 2))) (DenS.app 8 (Den.ix (Den.var 2) (Den.c (.int 0)))) (DenS.nil)) (DenS.frz 8 (DenS.asgK true 2 (Den.var 8)))))))) (DenS.nil))
def s_law_13 : DenS := (DenS.asgK true 2 (Den.lc [4] (DenI.range1 (Den.op2 addD (Den.c (.int 1)) (Den.op2 modD (Den.fn (f1 intD) (Dens.cons (Den.ix (Den.var 1) (Den.c (.int 40))) Dens.nil)) (Den.c (.int 7))))) (Bnd.name 4) DenT.yes (Den.call f__law_word (Dens.cons (Den.ix (Den.var 1) (Den.op2 mulD (Den.c (.int 2)) (Den.var 4))) (Dens.cons (Den.ix (Den.var 1) (Den.op2 addD (Den.op2 mulD (Den.c (.int 2)) (Den.var 4)) (Den.c (.int 1)))) Dens.nil)))))
def s_law_14 : DenS := (DenS.asgK true 1 (Den.call f__law_numbers (Dens.cons (Den.var 0) (Dens.cons (Den.c (.int 60)) Dens.nil))))
def m_law : DenS := (DenS.seq s_law_14 (DenS.seq s_law_13 (DenS.seq s_law_12 (DenS.seq s_law_11 (DenS.seq s_law_10 (DenS.seq s_law_8 (DenS.seq s_law_7 (DenS.seq s_law_6 (DenS.seq s_law_5 (DenS.seq s_law_4 (DenS.seq s_law_3 (DenS.seq s_law_2 s_law_1))))))))))))
def f_law : Fn := fnOf N_law.length m_law
theorem sc_law : FnScope N_law ["_law_script"] (defScope st_law) := ⟨rfl, rfl, rfl, by decide +kernel, rfl, by decide +kernel, by decide +kernel⟩
theorem d_law (fx : Fx w K mg) (c__law_command : Defd Pr w K mg base 4 "_law_command" 1 f__law_command) (c_is_command : Defd Pr w K mg base 4 "is_command" 1 f_is_command) (c_row_of : Defd Pr w K mg base 4 "row_of" 1 f_row_of) (c__law_row_due : Defd Pr w K mg base 4 "_law_row_due" 1 f__law_row_due) (c_split_words : Defd Pr w K mg base 2 "split_words" 1 f_split_words) (c__law_formed : Defd Pr w K mg base 3 "_law_formed" 2 f__law_formed) (c__law_word : Defd Pr w K mg base 2 "_law_word" 2 f__law_word) (c__law_numbers : Defd Pr w K mg base 3 "_law_numbers" 2 f__law_numbers) {f : Addr} {cdv : Value} {outer : List Env} {s : Shared} {H F0 : Hp} {E : XK} (hr : Room 4 (callerA.deeper (envOfC "law" (defScope st_law) s.heap.objs.size f cdv))) :
    DSs (cxOf (L2.CX Pr w) Pr w K mg base N_law "law" (defScope st_law) f cdv callerA outer s H E) (Cn.body F0 H E) (defBody st_law) m_law := by
  have nd := sc_law.nd
  exact (dss_cons (dasg true 1 (de_call c__law_numbers (hr.mono (by decide)) rfl (Thr.of (takes_of rfl rfl rfl rfl)) (da_cons (dv 0) (da_cons (de_int) da_nil))) nd) (dss_cons (ds_asgLc true 2 (own := [("_law_k", 4)]) rfl nd (di_range1 (de_bin o_add (de_int) (de_bin o_mod (de_callT b_int rfl fx.n_int bt_int (da_cons (dix hr (dv 1) (de_int)) da_nil)) (de_int))) rfl fx.n_range) (blk N_law (defScope st_law)) (fun _ _ _ _ _ => (dgn 4 nd)) (fun _ _ _ _ _ => dt_yes) (fun _ _ _ _ _ => (de_call c__law_word (hr.mono (by decide)) rfl Thr.nox (da_cons (dix hr (dv 1) (de_bin o_mul (de_int) (dv 4))) (da_cons (dix hr (dv 1) (de_bin o_add (de_bin o_mul (de_int) (dv 4)) (de_int))) da_nil))))) (dss_cons (ds_if (cGt (de_bin o_mod (de_callT b_int rfl fx.n_int bt_int (da_cons (dix hr (dv 1) (de_int)) da_nil)) (de_int)) (de_int)) (dss_cons (dasg false 8 (de_call c__law_formed (hr.mono (by decide)) rfl (Thr.of (takes_of rfl rfl rfl rfl)) (da_cons (dv 1) (da_cons (dv 2) da_nil))) nd) (dss_cons (dasg true 9 (de_bin o_mod (de_callT b_int rfl fx.n_int bt_int (da_cons (dix hr (dv 1) (de_int)) da_nil)) (de_callB (b_len) rfl fx.n_len bt_len (da_cons (dv 8) da_nil))) nd) (dss_cons (ds_if (cEq hr (de_bin o_mod (de_callT b_int rfl fx.n_int bt_int (da_cons (dix hr (dv 1) (de_int)) da_nil)) (de_int)) (de_int)) (dss_one (ds_setI (i := 8) rfl (by first | exact Or.inl rfl | exact Or.inr (Or.inl rfl) | exact Or.inr (Or.inr rfl)) (dix hr (dv 2) (de_int)) (dv 9))) (dss_nil)) (dss_cons (ds_if (de_bool (db_and (cEq hr (de_bin o_mod (de_callT b_int rfl fx.n_int bt_int (da_cons (dix hr (dv 1) (de_int)) da_nil)) (de_int)) (de_int)) (db_and1 (cGt (de_callB (b_len) rfl fx.n_len bt_len (da_cons (dv 8) da_nil)) (de_int))))) (dss_frz 8 (dss_one (dasg false 8 (de_bin o_add (de_sl (dv 8) dp_none (dp_some (dv 9))) (de_sl (dv 8) (dp_some (de_bin o_add (dv 9) (de_int))) dp_none)) nd))) (dss_nil)) (dss_cons (ds_if (cEq hr (de_bin o_mod (de_callT b_int rfl fx.n_int bt_int (da_cons (dix hr (dv 1) (de_int)) da_nil)) (de_int)) (de_int)) (dss_one (ds_app (i := 8) rfl (by first | exact Or.inl rfl | exact Or.inr (Or.inl rfl) | exact Or.inr (Or.inr rfl)) (dix hr (dv 2) (de_int)))) (dss_nil)) (dss_frz 8 (dss_one (dasg true 2 (dv 8) nd)))))))) (dss_nil)) (dss_cons (dasg true 3 (de_bin o_mul (ds [32]) (de_bin o_mod (de_callT b_int rfl fx.n_int bt_int (da_cons (dix hr (dv 1) (de_int)) da_nil)) (de_int))) nd) (dss_cons (ds_for (passes_of rfl) rfl (di_range1 (de_callB (b_len) rfl fx.n_len bt_len (da_cons (dv 2) da_nil)) rfl fx.n_range) (dgn 4 nd) (dss_cons (dasg true 3 (de_bin o_add (dv 3) (dix hr (dv 2) (dv 4))) nd) (dss_one (ds_if (cLt (de_bin o_add (dv 4) (de_int)) (de_callB (b_len) rfl fx.n_len bt_len (da_cons (dv 2) da_nil))) (dss_one (dasg true 3 (de_bin o_add (dv 3) (de_bin o_mul (ds [32]) (de_bin o_add (de_int) (de_bin o_mod (de_callT b_int rfl fx.n_int bt_int (da_cons (de_bin o_add (dix hr (dv 1) (de_int)) (de_bin o_mul (dv 4) (dix hr (dv 1) (de_int)))) da_nil)) (de_int))))) nd)) (dss_nil))))) (dss_cons (dasg true 3 (de_bin o_add (dv 3) (de_bin o_mul (ds [32]) (de_bin o_mod (de_callT b_int rfl fx.n_int bt_int (da_cons (dix hr (dv 1) (de_int)) da_nil)) (de_int)))) nd) (dss_cons (dasg true 5 (de_call c_split_words (hr.mono (by decide)) rfl (Thr.of (takes_of rfl rfl rfl rfl)) (da_cons (dv 3) da_nil)) nd) (dss_cons (ds_if (de_bool (db_or (de_not (de_callB (b_isi) rfl fx.n_isinstance bt_isinstance (da_cons (dv 5) (da_cons (de_ty (T := "list") rfl fx.n_list bt_list) da_nil)))) (db_or (cNe hr (dv 5) (dv 2)) (db_or1 (cNe hr (de_call c_split_words (hr.mono (by decide)) rfl (Thr.of (takes_of rfl rfl rfl rfl)) (da_cons (de_bin o_mul (ds [32]) (de_bin o_mod (de_callT b_int rfl fx.n_int bt_int (da_cons (dix hr (dv 1) (de_int)) da_nil)) (de_int))) da_nil)) (de_list da_nil)))))) (dss_one (ds_ret (de_bl))) (dss_nil)) (dss_cons (ds_if (cNe hr (de_call c_split_words (hr.mono (by decide)) rfl (Thr.of (takes_of rfl rfl rfl rfl)) (da_cons (ds [97, 9, 98, 32, 9]) da_nil)) (de_list (da_cons (ds [97, 9, 98]) (da_cons (ds [9]) da_nil)))) (dss_one (ds_ret (de_bl))) (dss_nil)) (dss_cons (dasg true 6 (de_callT b_list rfl fx.n_list bt_list (da_cons (dv 2) da_nil)) nd) (dss_cons (ds_if (de_reprNe rfl hr.units rfl fx.n_repr (de_call c_row_of (hr.mono (by decide)) rfl (Thr.of (takes_of rfl rfl rfl rfl)) (da_cons (dv 6) da_nil)) (de_call c__law_row_due (hr.mono (by decide)) rfl (Thr.of (takes_of rfl rfl rfl rfl)) (da_cons (dv 2) da_nil))) (dss_one (ds_ret (de_bl))) (dss_nil)) (dss_cons (dasg true 7 (de_call c_is_command (hr.mono (by decide)) rfl (Thr.of (takes_of rfl rfl rfl rfl)) (da_cons (dv 6) da_nil)) nd) (dss_one (ds_ret (de_bool (db_and (de_callB (b_isi) rfl fx.n_isinstance bt_isinstance (da_cons (dv 7) (da_cons (de_ty (T := "bool") rfl fx.n_bool bt_bool) da_nil))) (db_and (cEq hr (dv 7) (de_call c__law_command (hr.mono (by decide)) rfl (Thr.of (takes_of rfl rfl rfl rfl)) (da_cons (dv 2) da_nil))) (db_and1 (cEq hr (dv 6) (dv 2))))))))))))))))))))
end
end K53
end PV

set_option Elab.async false
set_option linter.all false
set_option maxRecDepth 100000
set_option maxHeartbeats 400000
namespace PV
namespace K53
open PySem PySem.Spec PyProof.Rows L2
abbrev dig : List Nat := [48, 49, 50, 51, 52, 53, 54, 55, 56, 57]
abbrev nch : List Nat := [97, 98, 99, 100, 101, 102, 103, 104, 105, 106, 107, 108, 109, 110, 111, 112, 113, 114, 115, 116, 117, 118, 119, 120, 121, 122, 48, 49, 50, 51, 52, 53, 54, 55, 56, 57]
def isName (s : List Nat) : Bool := decide (1 ≤ s.length ∧ s.length ≤ 12) && (!memB (s.headD 0) dig && s.all fun c => memB c nch)
theorem all_lc (s : List Nat) (set : List Nat) (i : Nat) (env : Env') (hi : i < env.length) : lcL (Bnd.name i) DenT.yes (Den.op2 inD (Den.var i) (Den.c (.str set))) env (s.map fun c => .str [c]) = .ok (s.map fun c => .bl (memB c set)) := by
  rw [lcL_map (g := fun d => match d with | .str [c] => .bl (memB c set) | _ => .non)]
  · simp
  · intro d hd
    obtain ⟨c, _, rfl⟩ := List.mem_map.mp hd
    refine ⟨env.set i (some (.fz (.str [c]))), by simp [hi], rfl, ?_⟩
    simp [hi]
@[simp] theorem allD_set {c : Nat} {r set : List Nat} : allD (.lst (.bl (memB c set) :: r.map fun x => .bl (memB x set))) = some (.fz (.bl (memB c set && r.all fun x => memB x set))) := by
  have := allD_map (f := fun x => memB x set) (xs := c :: r)
  simpa using this
theorem ob {a b : Bool} (h : a = b) : (O.ok (T.fz (D.bl a)) : O T) = .ok (.fz (.bl b)) := by rw [h]
theorem e_is_name (s : List Nat) : f_is_name [.str s] = .ok (.fz (.bl (isName s))) := by
  cases s with
  | nil => simp [f_is_name, fnOf_eq, startE, m_is_name, isName]
  | cons c r =>
    have h := all_lc (c :: r) nch 1 [some (.fz (.str (c :: r))), none] (by simp)
    simp only [List.map_cons] at h
    simp [f_is_name, fnOf_eq, startE, m_is_name, isName, wipeE, h]
    by_cases h1 : r.length ≤ 11
    · rw [if_pos (by omega), if_pos (by omega)]
      cases hm : memB c dig <;> simp [h1]
    · rw [if_pos (by omega), if_neg (by omega)]
      simp [h1]
def isNum (s : List Nat) : Bool := decide (1 ≤ s.length ∧ s.length ≤ 6) && ((s.all fun c => memB c dig) && (s == [48] || !(s.headD 0 == 48)))
theorem e_is_number (s : List Nat) : f_is_number [.str s] = .ok (.fz (.bl (isNum s))) := by
  cases s with
  | nil => simp [f_is_number, fnOf_eq, startE, m_is_number, isNum]
  | cons c r =>
    have h := all_lc (c :: r) dig 1 [some (.fz (.str (c :: r))), none] (by simp)
    simp only [List.map_cons] at h
    simp [f_is_number, fnOf_eq, startE, m_is_number, isNum, wipeE, h]
    by_cases h1 : r.length ≤ 5
    · rw [if_pos (by omega), if_pos (by omega)]
      cases hm : memB c dig with
      | false => simp
      | true =>
        simp [h1]
        by_cases hr : ∀ x ∈ r, memB x dig = true
        · have e : (r.all fun x => memB x dig) = true := by simpa using hr
          rw [if_pos hr, e]
          by_cases h48 : c = 48 <;> cases r <;> simp [h48]
        · have e : (r.all fun x => memB x dig) = false := by simpa using hr
          rw [if_neg hr, e]
          simp
    · rw [if_pos (by omega), if_neg (by omega)]
      simp [h1]
def lawName (s : List Nat) : Bool := decide (1 ≤ s.length ∧ s.length ≤ 12) && (memB (s.headD 0) (nch.take 26) && s.all fun c => memB c nch)
theorem e_law_name (s : List Nat) : f__law_is_name [.str s] = .ok (.fz (.bl (lawName s))) := by
  cases s with
  | nil => simp [f__law_is_name, fnOf_eq, startE, m__law_is_name, lawName]
  | cons c r =>
    have h := all_lc (c :: r) nch 1 [some (.fz (.str (c :: r))), none] (by simp)
    simp only [List.map_cons] at h
    simp [f__law_is_name, fnOf_eq, startE, m__law_is_name, lawName, wipeE, h]
    by_cases h1 : r.length ≤ 11
    · rw [if_neg (by omega), if_neg (by omega)]
      split
      · rename_i hm; simp [h1, hm]
      · rename_i hm; simp at hm; simp [h1, hm]
    · rw [if_neg (by omega), if_pos (by omega)]
      simp [h1]
def lawNum (s : List Nat) : Bool := decide (1 ≤ s.length ∧ s.length ≤ 6) && (!(decide (1 < s.length) && s.headD 0 == 48) && s.all fun c => memB c dig)
theorem e_law_number (s : List Nat) : f__law_is_number [.str s] = .ok (.fz (.bl (lawNum s))) := by
  cases s with
  | nil => simp [f__law_is_number, fnOf_eq, startE, m__law_is_number, lawNum]
  | cons c r =>
    have h := all_lc (c :: r) dig 1 [some (.fz (.str (c :: r))), none] (by simp)
    simp only [List.map_cons] at h
    simp [f__law_is_number, fnOf_eq, startE, m__law_is_number, lawNum, wipeE, h]
    by_cases h1 : r.length ≤ 5
    · rw [if_neg (by omega), if_neg (by omega)]
      by_cases h0 : 0 < r.length
      · rw [if_pos (by omega)]
        by_cases h48 : c = 48 <;> simp [h1, h0, h48]
      · rw [if_neg (by omega)]
        simp [h1, h0]
    · rw [if_neg (by omega), if_pos (by omega)]
      simp [h1]
theorem name_eq (s : List Nat) : isName s = lawName s := by
  cases s with
  | nil => rfl
  | cons c r =>
    simp only [isName, lawName, List.headD_cons, List.all_cons]
    congr 1
    by_cases h : c ∈ nch
    · have : memB c nch = true := decide_eq_true h
      rw [this]
      have h2 : (!memB c dig) = memB c (nch.take 26) := by
        simp only [List.mem_cons, List.not_mem_nil, or_false] at h
        rcases h with h | h | h | h | h | h | h | h | h | h | h | h | h | h | h | h | h | h | h | h | h | h | h | h | h | h | h | h | h | h | h | h | h | h | h | h <;> subst h <;> decide
      rw [h2]
    · have : memB c nch = false := decide_eq_false h
      rw [this]
      simp
theorem num_eq (s : List Nat) : isNum s = lawNum s := by
  cases s with
  | nil => rfl
  | cons c r =>
    simp only [isNum, lawNum, List.headD_cons, List.all_cons]
    congr 1
    by_cases h48 : c = 48
    · cases r <;> simp [h48]
    · have : (c == 48) = false := by simpa using h48
      simp [this]
end K53
end PV

set_option Elab.async false
set_option linter.all false
set_option maxRecDepth 100000
set_option maxHeartbeats 1000000
namespace PV
namespace K53
open PySem PySem.Spec PyProof.Rows L2
/-! ### split_words -/
theorem e_split_words (s : List Nat) (h : s.length ≤ 16777214) : f_split_words [.str s] = .ok (T.of (((TL.spl [32] 0 [] s).filter fun p => !(p == [])).map .str)) := by
  have hl : lcL (Bnd.name 1) (DenT.one (Den.op2 neD (Den.var 1) (Den.c (.str [])))) (Den.var 1) [some (.fz (.str s)), none] ((TL.spl [32] 0 [] s).map .str) = .ok (((TL.spl [32] 0 [] s).filter fun p => !(p == [])).map .str) := by
    rw [lcL_all (p := fun d => match d with | .str p => !(p == []) | _ => false) (g := id)]
    · congr 1
      rw [List.map_id, List.filter_map]
      rfl
    · intro d hd
      obtain ⟨p, _, rfl⟩ := List.mem_map.mp hd
      exact ⟨[some (.fz (.str s)), some (.fz (.str p))], by simp, by simp, fun _ => by simp⟩
  simp [f_split_words, fnOf_eq, startE, m_split_words, splitD, tyM, h, fin, wipeE, hl, seqOf]
/-! ### the forms -/
abbrev NAME : List Nat := [110, 97, 109, 101]
abbrev NUMBER : List Nat := [110, 117, 109, 98, 101, 114]
def okF (w f : List Nat) : Bool := if f = NAME then isName w else isNum w
def formOk : List (List Nat) → List (List Nat) → Bool
  | w :: ws, f :: fs => okF w f && formOk ws fs
  | _, _ => true
theorem form_loop (a b : Option T) : ∀ (ws fs : List (List Nat)) (x y : Option T), ∃ x' y', forL (Bnd.tup (Bnds.cons (Bnd.name 2) (Bnds.cons (Bnd.name 3) Bnds.nil))) (DenS.ite (Den.nott (Den.ite (Den.op2 eqD (Den.var 3) (Den.c (.str [110, 97, 109, 101]))) (Den.call f_is_name (Dens.cons (Den.var 2) Dens.nil)) (Den.call f_is_number (Dens.cons (Den.var 2) Dens.nil)))) (DenS.ret (Den.c (.bl false))) (DenS.nil))
      (zipD (ws.map .str) (fs.map .str)) [a, b, x, y] = if formOk ws fs = true then .nx [a, b, x', y'] else .ret (.fz (.bl false))
  | [], fs, x, y => ⟨x, y, by simp [zipD, forL, formOk]⟩
  | w :: ws, [], x, y => ⟨x, y, by simp [zipD, forL, formOk]⟩
  | w :: ws, f :: fs, x, y => by
    obtain ⟨x', y', ih⟩ := form_loop a b ws fs (some (.fz (.str w))) (some (.fz (.str f)))
    refine ⟨x', y', ?_⟩
    simp only [List.map_cons, zipD]
    unfold forL
    simp [e_is_name, e_is_number, formOk, okF]
    by_cases hf : f = NAME
    · subst hf
      simp
      cases hn : isName w
      · simp
      · simp [ih]
    · simp [hf]
      cases hn : isNum w
      · simp
      · simp [ih]
theorem e_has_form (ws fs : List (List Nat)) : f_has_form [.lst (ws.map .str), .tup (fs.map .str)] = .ok (.fz (.bl (decide (ws.length = fs.length) && formOk ws fs))) := by
  obtain ⟨x', y', h⟩ := form_loop (some (.fz (.lst (ws.map .str)))) (some (.fz (.tup (fs.map .str)))) ws fs none none
  simp [f_has_form, fnOf_eq, startE, m_has_form, zipI, seqOf, h]
  by_cases hl : ws.length = fs.length
  · simp [hl]
    cases formOk ws fs <;> simp
  · have : ¬ ((ws.length : Int) = fs.length) := by omega
    simp [hl, this]
end K53
end PV

set_option Elab.async false
set_option linter.all false
set_option maxRecDepth 100000
set_option maxHeartbeats 1000000
namespace PV
namespace K53
open PySem PySem.Spec PyProof.Rows L2
/-- the forms of commands -/
def FT : List (List Nat × List Nat) := [([108, 97, 110, 100], [110]), ([99, 97, 115, 101], [110, 110]), ([115, 116, 97, 114, 116], [110, 110, 100]), ([98, 114, 101, 97, 107], [110, 110, 100]), ([102, 114, 101, 101], [110, 110]), ([97, 115, 107], [110, 110]),
  ([115, 116, 97, 116, 101, 115], [110]), ([115, 104, 111, 119], [110]), ([112, 114, 105, 110, 116], [110]), ([117, 110, 100, 111], []), ([114, 101, 100, 111], []), ([108, 97, 110, 100, 115], []), ([99, 97, 115, 101, 115], [])]
def sort (c : Nat) : List Nat := if c = 110 then NAME else NUMBER
theorem tab_eq : tab_FORMS = FT.map fun q => (q.1, .tup ((q.2.map sort).map .str)) := rfl
theorem lookup_map {α β : Type} (f : α → β) (w : List Nat) : ∀ l : List (List Nat × α), (l.map fun q => (q.1, f q.2)).lookup w = (l.lookup w).map f
  | [] => rfl
  | q :: l => by
    obtain ⟨k, a⟩ := q
    have ih := lookup_map f w l
    simp only [List.map_cons, List.lookup]
    cases w == k
    · exact ih
    · rfl
theorem tab_look (w : List Nat) : tab_FORMS.lookup w = (FT.lookup w).map fun cs => .tup ((cs.map sort).map .str) := by
  rw [tab_eq, lookup_map (fun cs : List Nat => D.tup ((cs.map sort).map .str))]
/-- by a form of signs -/
def okC (w : List Nat) (c : Nat) : Bool := if c = 110 then isName w else isNum w
def formC : List (List Nat) → List Nat → Bool
  | w :: ws, c :: cs => okC w c && formC ws cs
  | _, _ => true
theorem form_sort : ∀ (ws : List (List Nat)) (cs : List Nat), formOk ws (cs.map sort) = formC ws cs
  | [], cs => by cases cs <;> rfl
  | w :: ws, [] => rfl
  | w :: ws, c :: cs => by
    simp only [List.map_cons, formOk, formC, form_sort ws cs]
    congr 1
    unfold okF okC sort
    by_cases h : c = 110 <;> simp [h]
def REMOVE : List Nat := [114, 101, 109, 111, 118, 101]
/-- what is a command -/
def isCmd : List (List Nat) → Bool
  | w :: ws => (match FT.lookup w with
    | some cs => decide (ws.length = cs.length) && formC ws cs
    | none => w == REMOVE && (match ws with
      | [a, b] => (a == [108, 97, 110, 100] || a == [99, 97, 115, 101]) && isName b
      | _ => false))
  | [] => false
theorem in2 (a x y : List Nat) : inD (.str a) (.tup [.str x, .str y]) = some (.fz (.bl (x == a || y == a))) := by
  simp [inD, inB, D.flt, D.eqv]
theorem e_is_command (w : List Nat) (ws : List (List Nat)) : f_is_command [.lst (.str w :: ws.map .str)] = .ok (.fz (.bl (isCmd (w :: ws)))) := by
  cases hl : FT.lookup w with
  | some cs =>
    simp [f_is_command, fnOf_eq, startE, m_is_command, tab_look, hl, isCmd]
    have := e_has_form ws (cs.map sort)
    simp at this
    simp [this, form_sort]
  | none =>
    match ws with
    | [] => simp [f_is_command, fnOf_eq, startE, m_is_command, tab_look, hl, isCmd, REMOVE]
    | [a] => simp [f_is_command, fnOf_eq, startE, m_is_command, tab_look, hl, isCmd, REMOVE]
    | [a, b] =>
      simp [f_is_command, fnOf_eq, startE, m_is_command, tab_look, hl, isCmd, REMOVE, in2, e_is_name]
      by_cases h : w = [114, 101, 109, 111, 118, 101]
      · simp [h]
        by_cases h1 : a = [108, 97, 110, 100]
        · simp [h1]
        · by_cases h2 : a = [99, 97, 115, 101]
          · simp [h2]
          · have e1 : (a == [108, 97, 110, 100]) = false := by simpa using h1
            have e2 : (a == [99, 97, 115, 101]) = false := by simpa using h2
            rw [if_neg (fun z => z.elim (fun z => h1 z.symm) (fun z => h2 z.symm)), e1, e2]
            rfl
      · have : (w == [114, 101, 109, 111, 118, 101]) = false := by simpa using h
        simp [h, this]
    | a :: b :: c :: r =>
      simp [f_is_command, fnOf_eq, startE, m_is_command, tab_look, hl, isCmd, REMOVE]
      intro _ h; omega
/-! ### the law's own -/
def LNM : List (List Nat) := FT.map (·.1)
theorem e_law_form (w : List Nat) : f__law_form [.str w] = .ok (.fz (match FT.lookup w with | some cs => .str cs | none => .non)) := by
  by_cases h : w ∈ LNM
  · simp only [LNM, FT, List.map_cons, List.map_nil, List.mem_cons, List.not_mem_nil, or_false] at h
    rcases h with h | h | h | h | h | h | h | h | h | h | h | h | h <;> subst h <;> rfl
  · have hl : FT.lookup w = none := by
      simp only [LNM, FT, List.map_cons, List.map_nil, List.mem_cons, List.not_mem_nil, or_false, not_or] at h
      obtain ⟨h1, h2, h3, h4, h5, h6, h7, h8, h9, h10, h11, h12, h13⟩ := h
      simp [FT, List.lookup, beq_eq_false_iff_ne.mpr h1, beq_eq_false_iff_ne.mpr h2, beq_eq_false_iff_ne.mpr h3, beq_eq_false_iff_ne.mpr h4, beq_eq_false_iff_ne.mpr h5, beq_eq_false_iff_ne.mpr h6, beq_eq_false_iff_ne.mpr h7, beq_eq_false_iff_ne.mpr h8, beq_eq_false_iff_ne.mpr h9, beq_eq_false_iff_ne.mpr h10, beq_eq_false_iff_ne.mpr h11, beq_eq_false_iff_ne.mpr h12, beq_eq_false_iff_ne.mpr h13]
    rw [hl]
    have hin : inD (.str w) (.tup (LNM.map .str)) = some (.fz (.bl false)) := by
      simp only [inD, inB]
      rw [if_pos ⟨rfl, by rfl⟩]
      simp only [Option.map_some, blT_eq, List.any_map]
      congr 3
      rw [List.any_eq_false]
      intro x hx
      simp only [Function.comp, D.eqv, beq_iff_eq]
      exact fun e => h (e ▸ hx)
    simp only [LNM, FT, List.map_cons, List.map_nil] at hin
    simp [f__law_form, fnOf_eq, startE, m__law_form, hin]
def okL (w : List Nat) (c : Nat) : Bool := if c = 110 then lawName w else if c = 100 then lawNum w else true
def formL : List (List Nat) → List Nat → Bool
  | w :: ws, c :: cs => okL w c && formL ws cs
  | _, _ => true
theorem ix_str {cs : List Nat} {k : Nat} {c : Nat} (h : cs[k]? = some c) : ixD (.str cs) (.int (k : Int)) = some (.str [c]) := by
  show (L2.atI cs (k : Int)).map _ = _
  rw [atI_nat, h]; rfl
theorem ix_strs {ws : List (List Nat)} {k : Nat} {w : List Nat} (h : ws[k]? = some w) : ixD (.lst (ws.map .str)) (.int (k : Int)) = some (.str w) := by
  rw [ixD_l, List.getElem?_map, h]; rfl
theorem law_loop (ws : List (List Nat)) (cs : List Nat) (hl : ws.length = cs.length) : ∀ (m k : Nat) (x : Option T), k + m = cs.length → ∃ x', forL (Bnd.name 2) (DenS.seq (DenS.ite (Den.andd (Den.op2 eqD (Den.ix (Den.var 1) (Den.var 2)) (Den.c (.str [110]))) (Den.nott (Den.call f__law_is_name (Dens.cons (Den.ix (Den.var 0) (Den.var 2)) Dens.nil)))) (DenS.ret (Den.c (.bl false))) (DenS.nil)) (DenS.ite (Den.andd (Den.op2 eqD (Den.ix (Den.var 1) (Den.var 2)) (Den.c (.str [100]))) (Den.nott (Den.call f__law_is_number (Dens.cons (Den.ix (Den.var 0) (Den.var 2)) Dens.nil)))) (DenS.ret (Den.c (.bl false))) (DenS.nil)))
      ((List.range' k m).map fun (i : Nat) => .int i) [some (.fz (.lst (ws.map .str))), some (.fz (.str cs)), x] = if formL (ws.drop k) (cs.drop k) = true then .nx [some (.fz (.lst (ws.map .str))), some (.fz (.str cs)), x'] else .ret (.fz (.bl false))
  | 0, k, x, h => by
    refine ⟨x, ?_⟩
    have e1 : cs.drop k = [] := List.drop_eq_nil_of_le (by omega)
    have e2 : ws.drop k = [] := List.drop_eq_nil_of_le (by omega)
    simp [e1, e2, forL, formL, List.range']
  | m + 1, k, x, h => by
    obtain ⟨x', ih⟩ := law_loop ws cs hl m (k + 1) (some (.fz (.int (k : Nat)))) (by omega)
    refine ⟨x', ?_⟩
    have hk : k < cs.length := by omega
    have hk2 : k < ws.length := by omega
    have e1 : cs.drop k = cs[k] :: cs.drop (k + 1) := List.drop_eq_getElem_cons hk
    have e2 : ws.drop k = ws[k] :: ws.drop (k + 1) := List.drop_eq_getElem_cons hk2
    have i1 := ix_str (List.getElem?_eq_getElem hk)
    have i2 := ix_strs (List.getElem?_eq_getElem hk2)
    rw [e1, e2, List.range'_succ]
    simp only [List.map_cons]
    unfold forL
    simp [i1, i2, e_law_name, e_law_number, formL, okL]
    by_cases h1 : cs[k] = 110
    · simp [h1]
      cases hn : lawName ws[k]
      · simp
      · simpa using ih
    · by_cases h2 : cs[k] = 100
      · simp [h2]
        cases hn : lawNum ws[k]
        · simp
        · simpa using ih
      · simpa [h1, h2] using ih
theorem e_law_has_form (ws : List (List Nat)) (cs : List Nat) (hb : cs.length ≤ 1000) : f__law_has_form [.lst (ws.map .str), .str cs] = .ok (.fz (.bl (decide (ws.length = cs.length) && formL ws cs))) := by
  by_cases hl : ws.length = cs.length
  · obtain ⟨x', h⟩ := law_loop ws cs hl cs.length 0 none (by omega)
    rw [← List.range_eq_range'] at h
    have hr : PV.range1 (.int (cs.length : Int)) = some ((List.range cs.length).map fun (i : Nat) => .int i) := by
      unfold PV.range1
      simp only
      rw [if_pos (by omega)]
      simp
    simp [f__law_has_form, fnOf_eq, startE, m__law_has_form, isD, D.isNon, hl, hr, oI, h]
    simp at h
    cases hf : formL ws cs <;> simp [h, hf]
  · have : ¬ ((cs.length : Int) = ws.length) := by omega
    simp [f__law_has_form, fnOf_eq, startE, m__law_has_form, isD, D.isNon, hl, this]
theorem e_law_no_form (ws : List (List Nat)) : f__law_has_form [.lst (ws.map .str), .non] = .ok (.fz (.bl false)) := by
  simp [f__law_has_form, fnOf_eq, startE, m__law_has_form, isD, D.isNon]
end K53
end PV

set_option Elab.async false
set_option linter.all false
set_option maxRecDepth 100000
set_option maxHeartbeats 1000000
namespace PV
namespace K53
open PySem PySem.Spec PyProof.Rows L2
theorem lookup_mem {α : Type} {w : List Nat} {a : α} : ∀ {l : List (List Nat × α)}, l.lookup w = some a → (w, a) ∈ l
  | [], h => by cases h
  | (k, b) :: l, h => by
    simp only [List.lookup] at h
    split at h
    · rename_i e
      cases h
      have : w = k := by simpa using e
      subst this
      exact List.mem_cons_self
    · exact List.mem_cons_of_mem _ (lookup_mem h)
theorem FT_ok {w cs : List Nat} (h : FT.lookup w = some cs) : (∀ c ∈ cs, c = 110 ∨ c = 100) ∧ cs.length ≤ 1000 := by
  have hall : ∀ q ∈ FT, (∀ c ∈ q.2, c = 110 ∨ c = 100) ∧ q.2.length ≤ 1000 := by decide
  exact hall _ (lookup_mem h)
theorem formL_C : ∀ (ws : List (List Nat)) (cs : List Nat), (∀ c ∈ cs, c = 110 ∨ c = 100) → formL ws cs = formC ws cs
  | [], cs, _ => by cases cs <;> rfl
  | w :: ws, [], _ => rfl
  | w :: ws, c :: cs, h => by
    simp only [formL, formC, formL_C ws cs fun c hc => h c (List.mem_cons_of_mem _ hc)]
    congr 1
    unfold okL okC
    rw [← name_eq, ← num_eq]
    rcases h c List.mem_cons_self with h | h <;> simp [h]
theorem rem_none : FT.lookup REMOVE = none := by decide
theorem e_law_command (w : List Nat) (ws : List (List Nat)) : f__law_command [.lst (.str w :: ws.map .str)] = .ok (.fz (.bl (isCmd (w :: ws)))) := by
  by_cases h : w = REMOVE
  · subst h
    simp only [isCmd, rem_none]
    match ws with
    | [] => simp [f__law_command, fnOf_eq, startE, m__law_command, REMOVE]
    | [a] => simp [f__law_command, fnOf_eq, startE, m__law_command, REMOVE]
    | [a, b] =>
      simp [f__law_command, fnOf_eq, startE, m__law_command, REMOVE, in2, e_law_name, name_eq]
      by_cases h1 : a = [108, 97, 110, 100]
      · simp [h1]
      · by_cases h2 : a = [99, 97, 115, 101]
        · simp [h2]
        · have e1 : (a == [108, 97, 110, 100]) = false := by simpa using h1
          have e2 : (a == [99, 97, 115, 101]) = false := by simpa using h2
          rw [if_neg (fun z => z.elim (fun z => h1 z.symm) (fun z => h2 z.symm)), e1, e2]
          rfl
    | a :: b :: c :: r =>
      simp [f__law_command, fnOf_eq, startE, m__law_command, REMOVE]
      intro h; omega
  · have hb : (w == REMOVE) = false := by simpa using h
    have h' : ¬ w = [114, 101, 109, 111, 118, 101] := h
    cases hl : FT.lookup w with
    | some cs =>
      obtain ⟨h1, h2⟩ := FT_ok hl
      have e := e_law_has_form ws cs h2
      simp [f__law_command, fnOf_eq, startE, m__law_command, h', e_law_form, hl, e, isCmd, formL_C ws cs h1]
    | none =>
      have e := e_law_no_form ws
      simp [f__law_command, fnOf_eq, startE, m__law_command, h', e_law_form, hl, e, isCmd, hb]
/-! ### rows -/
abbrev WIND : List Nat := [119, 105, 110, 100]
abbrev START : List Nat := [115, 116, 97, 114, 116]
abbrev BREAK : List Nat := [98, 114, 101, 97, 107]
def val (s : List Nat) : Int := ((NumText.digitsVal s : Nat) : Int)
theorem memB_dig {c : Nat} (h : memB c dig = true) : 48 ≤ c ∧ c ≤ 57 := by
  have : c ∈ dig := of_decide_eq_true h
  simp only [List.mem_cons, List.not_mem_nil, or_false] at this
  omega
theorem int_num {s : List Nat} (h : isNum s = true) : intD (.str s) = some (.fz (.int (val s))) := by
  simp only [isNum, Bool.and_eq_true, decide_eq_true_eq, List.all_eq_true] at h
  obtain ⟨⟨h1, h2⟩, h3, _⟩ := h
  have e : PySem.intText? (S s) = some (val s) := SX.int_S (a := s) (by
    rw [List.all_eq_true]
    intro c hc
    obtain ⟨a, b⟩ := memB_dig (h3 c hc)
    simp [a, b]) (by intro z; subst z; simp at h1) (by omega)
  simp [intD, intS, e, show s.length ≤ 640 by omega]
def rowD (w : List Nat) (ws : List (List Nat)) : D := match ws with
  | [a, b] => if w = WIND then (if (isNum a && isName b) = true then .tup [.str w, .int (val a), .str b] else .non)
    else if (w = START ∨ w = BREAK) then (if (isName a && isNum b) = true then .tup [.str w, .str a, .int (val b)] else .non) else .non
  | _ => .non
theorem rowD_not {w : List Nat} {ws : List (List Nat)} (h : ¬ ws.length = 2) : rowD w ws = .non := by
  match ws, h with
  | [], _ => rfl
  | [_], _ => rfl
  | [_, _], h => exact absurd rfl h
  | _ :: _ :: _ :: _, _ => rfl
theorem two {ws : List (List Nat)} (h : ws.length = 2) : ∃ a b, ws = [a, b] := by
  match ws, h with
  | [a, b], _ => exact ⟨a, b, rfl⟩
theorem e_row_of (w : List Nat) (ws : List (List Nat)) : f_row_of [.lst (.str w :: ws.map .str)] = .ok (.fz (rowD w ws)) := by
  by_cases hl : ws.length = 2
  · obtain ⟨a, b, rfl⟩ := two hl
    have h1 := e_has_form [a, b] [NUMBER, NAME]
    have h2 := e_has_form [a, b] [NAME, NUMBER]
    simp [formOk, okF] at h1 h2
    by_cases hw : w = WIND
    · subst hw
      cases hn : isNum a with
      | false => simp [f_row_of, fnOf_eq, startE, m_row_of, h1, h2, in2, hn, rowD]
      | true =>
        cases hm : isName b with
        | false => simp [f_row_of, fnOf_eq, startE, m_row_of, h1, h2, in2, hn, hm, rowD]
        | true => simp [f_row_of, fnOf_eq, startE, m_row_of, h1, h2, in2, hn, hm, rowD, int_num hn]
    · have hw' : ¬ w = [119, 105, 110, 100] := hw
      by_cases hs : w = START ∨ w = BREAK
      · have hs' : [115, 116, 97, 114, 116] = w ∨ [98, 114, 101, 97, 107] = w := hs.imp Eq.symm Eq.symm
        cases hm : isName a with
        | false => simp [f_row_of, fnOf_eq, startE, m_row_of, h1, h2, in2, hw', hs, hs', hm, rowD]
        | true =>
          cases hn : isNum b with
          | false => simp [f_row_of, fnOf_eq, startE, m_row_of, h1, h2, in2, hw', hs, hs', hm, hn, rowD]
          | true => simp [f_row_of, fnOf_eq, startE, m_row_of, h1, h2, in2, hw', hs, hs', hm, hn, rowD, int_num hn]
      · have hs' : ¬ ([115, 116, 97, 114, 116] = w ∨ [98, 114, 101, 97, 107] = w) := fun z => hs (z.imp Eq.symm Eq.symm)
        simp [f_row_of, fnOf_eq, startE, m_row_of, h1, h2, in2, hw', hs, hs', rowD]
  · have h1 := e_has_form ws [NUMBER, NAME]
    have h2 := e_has_form ws [NAME, NUMBER]
    simp [hl] at h1 h2
    rw [rowD_not hl]
    simp [f_row_of, fnOf_eq, startE, m_row_of, h1, h2, in2]
theorem e_law_row_due (w : List Nat) (ws : List (List Nat)) : f__law_row_due [.lst (.str w :: ws.map .str)] = .ok (.fz (rowD w ws)) := by
  have e1 := e_law_has_form ws [100, 110] (by decide)
  have e2 := e_law_has_form ws [110, 100] (by decide)
  rw [formL_C ws _ (by decide)] at e1 e2
  by_cases hl : ws.length = 2
  · obtain ⟨a, b, rfl⟩ := two hl
    simp [formC, okC] at e1 e2
    by_cases hw : w = WIND
    · subst hw
      cases hn : isNum a with
      | false => simp [f__law_row_due, fnOf_eq, startE, m__law_row_due, e1, e2, hn, rowD]
      | true =>
        cases hm : isName b with
        | false => simp [f__law_row_due, fnOf_eq, startE, m__law_row_due, e1, e2, hn, hm, rowD]
        | true => simp [f__law_row_due, fnOf_eq, startE, m__law_row_due, e1, e2, hn, hm, rowD, int_num hn]
    · have hw' : ¬ w = [119, 105, 110, 100] := hw
      by_cases hs1 : w = START
      · subst hs1
        cases hm : isName a with
        | false => simp [f__law_row_due, fnOf_eq, startE, m__law_row_due, e1, e2, hm, rowD]
        | true =>
          cases hn : isNum b with
          | false => simp [f__law_row_due, fnOf_eq, startE, m__law_row_due, e1, e2, hm, hn, rowD]
          | true => simp [f__law_row_due, fnOf_eq, startE, m__law_row_due, e1, e2, hm, hn, rowD, int_num hn]
      · by_cases hs2 : w = BREAK
        · subst hs2
          cases hm : isName a with
          | false => simp [f__law_row_due, fnOf_eq, startE, m__law_row_due, e1, e2, hm, rowD]
          | true =>
            cases hn : isNum b with
            | false => simp [f__law_row_due, fnOf_eq, startE, m__law_row_due, e1, e2, hm, hn, rowD]
            | true => simp [f__law_row_due, fnOf_eq, startE, m__law_row_due, e1, e2, hm, hn, rowD, int_num hn]
        · have h1' : ¬ w = [115, 116, 97, 114, 116] := hs1
          have h2' : ¬ w = [98, 114, 101, 97, 107] := hs2
          simp [f__law_row_due, fnOf_eq, startE, m__law_row_due, e1, e2, hw', h1', h2', rowD]
  · simp [hl] at e1 e2
    rw [rowD_not hl]
    simp [f__law_row_due, fnOf_eq, startE, m__law_row_due, e1, e2]
end K53
end PV

set_option Elab.async false
set_option linter.all false
set_option maxRecDepth 100000
set_option maxHeartbeats 1000000
namespace PV
namespace K53
open PySem PySem.Spec PyProof.Rows L2
/-! ### the drawn numbers -/
theorem e_law_row (c : Int) (n : Nat) (hn : n ≤ 1000000) : ∃ xs : List Int, xs.length = n ∧ f__law_row [.int c, .int (n : Int)] = .ok (T.ints xs) := by
  let I : Nat → Env' → Prop := fun i env => ∃ (xs : List Int) (r m : Int) (k : Option T), xs.length = i ∧ i ≤ n ∧ env = [some (.fz (.int c)), some (.fz (.int n)), some (.lst (xs.map fun x => .fz (.int x))), some (.fz (.int r)), some (.fz (.int m)), k]
  have st : ∀ i d env, ((List.range n).map fun (i : Nat) => D.int i)[i]? = some d → I (0 + i) env → ∃ e1 e2, Bnd.name 5 d env = some e1 ∧ (DenS.seq (DenS.asgK true 4 (Den.op2 modD (Den.fn (f1 intD) (Dens.cons (Den.op2 addD (Den.op2 mulD (Den.var 4) (Den.c (.int 16807))) (Den.op2 mulD (Den.c (.int 271)) (Den.op2 addD (Den.var 5) (Den.c (.int 3))))) Dens.nil)) (Den.c (.int 2147483629)))) (DenS.ite (Den.op2 geD (Den.fn (f1 absD) (Dens.cons (Den.var 0) Dens.nil)) (Den.op2 powD (Den.c (.int 10)) (Den.c (.int 18)))) (DenS.seq (DenS.app 2 (Den.op2 modD (Den.fn (f1 intD) (Dens.cons (Den.var 3) Dens.nil)) (Den.c (.int 1009)))) (DenS.asgK true 3 (Den.op2 fdivD (Den.var 3) (Den.c (.int 1009))))) (DenS.app 2 (Den.op2 modD (Den.fn (f1 intD) (Dens.cons (Den.op2 fdivD (Den.var 4) (Den.c (.int 7))) Dens.nil)) (Den.c (.int 1009)))))) e1 = .nx e2 ∧ I (0 + i + 1) e2 := by
    rintro i d env hd ⟨xs, r, m, k, hl, hi, rfl⟩
    obtain ⟨hin, rfl⟩ := range_get hd
    have hx : xs.length < 16777216 := by omega
    by_cases hc : 1000000000000000000 ≤ (if c < 0 then -c else c)
    · refine ⟨_, _, by simp; rfl, by simp [mulD, addD, modD, small, intD, absD, powD, fdivD, hc, hx]; rfl, ?_⟩
      exact ⟨xs ++ [r % 1009], r / 1009, (m * 16807 + 271 * ((i : Int) + 3)) % 2147483629, some (.fz (.int i)), by simp; omega, by omega, by simp⟩
    · refine ⟨_, _, by simp; rfl, by simp [mulD, addD, modD, small, intD, absD, powD, fdivD, hc, hx]; rfl, ?_⟩
      exact ⟨xs ++ [(m * 16807 + 271 * ((i : Int) + 3)) % 2147483629 / 7 % 1009], r, (m * 16807 + 271 * ((i : Int) + 3)) % 2147483629, some (.fz (.int i)), by simp; omega, by omega, by simp⟩
  obtain ⟨e', h1, xs, r, m, k, hl, hi, rfl⟩ := forL_inv (I := I) (k := 0) (env := [some (.fz (.int c)), some (.fz (.int n)), some (.lst []), some (.fz (.int (if c < 0 then -c else c))), some (.fz (.int (((if c < 0 then -c else c) * 48271 + 69621) % 2147483647))), none]) ⟨[], _, _, _, rfl, by omega, rfl⟩ st
  refine ⟨xs, by simpa using hl, ?_⟩
  simp [f__law_row, fnOf_eq, startE, m__law_row, absD, mulD, small, addD, modD, intD, range1_nat hn, oI, T.of, h1, T.ints]
theorem ixs_len {xs : List Int} : (T.frzL (xs.map fun x => T.fz (.int x))) = xs.map .int := T.frzL_map' _ _
/-- the numbers that are taken over -/
theorem take_loop (a b c d f : Option T) : ∀ (ys xs : List Int) (g : Option T), xs.length + ys.length ≤ 16777216 → ∃ g', forL (Bnd.name 6) (DenS.app 4 (Den.var 6)) (ys.map .int) [a, b, c, d, some (T.ints xs), f, g] = .nx [a, b, c, d, some (T.ints (xs ++ ys)), f, g']
  | [], xs, g, _ => ⟨g, by simp [forL]⟩
  | y :: ys, xs, g, h => by
    simp at h
    obtain ⟨g', ih⟩ := take_loop a b c d f ys (xs ++ [y]) (some (.fz (.int y))) (by simp; omega)
    refine ⟨g', ?_⟩
    simp only [List.map_cons]
    unfold forL
    simp [T.ints, show xs.length < 16777216 by omega] at ih ⊢
    exact ih
/-- .. of each cell -/
theorem cells_loop (a b c : Option T) (n : Nat) (hn : n ≤ 1000000) : ∀ (cs xs : List Int) (f g : Option T), xs.length + cs.length * n ≤ 16777216 → ∃ (ys : List Int) (f' g' : Option T), forL (Bnd.name 5) (DenS.for (DenI.seq (Den.call f__law_row (Dens.cons (Den.var 5) (Dens.cons (Den.var 3) Dens.nil)))) (Bnd.name 6) (DenS.app 4 (Den.var 6))) (cs.map .int) [a, b, c, some (.fz (.int n)), some (T.ints xs), f, g] = .nx [a, b, c, some (.fz (.int n)), some (T.ints ys), f', g'] ∧ ys.length = xs.length + cs.length * n
  | [], xs, f, g, _ => ⟨xs, f, g, by simp [forL], by simp⟩
  | y :: cs, xs, f, g, h => by
    simp [Nat.add_mul] at h
    obtain ⟨zs, hz, e⟩ := e_law_row y n hn
    obtain ⟨g1, h1⟩ := take_loop a b c (some (.fz (.int n))) (some (.fz (.int y))) zs xs g (by omega)
    obtain ⟨ys, f', g', h2, h3⟩ := cells_loop a b c n hn cs (xs ++ zs) (some (.fz (.int y))) g1 (by simp; omega)
    refine ⟨ys, f', g', ?_, by rw [h3]; simp [Nat.add_mul]; omega⟩
    simp only [List.map_cons]
    unfold forL
    simp [e, seqOf, h1, h2]
/-- the end is filled up -/
theorem fill_loop (a c d f g : Option T) (n : Nat) (hn : n ≤ 16777216) : ∀ (k : Nat) (xs : List Int), n ≤ xs.length + k → ∀ m, k < m → ∃ ys : List Int, n ≤ ys.length ∧ whileF (Den.op2 ltD (Den.fn (f1 lenD) (Dens.cons (Den.var 4) Dens.nil)) (Den.var 1)) (DenS.app 4 (Den.c (.int 0))) m [a, some (.fz (.int n)), c, d, some (T.ints xs), f, g] = .nx [a, some (.fz (.int n)), c, d, some (T.ints ys), f, g]
  | 0, xs, h, m, hm => by
    obtain ⟨m, rfl⟩ : ∃ k, m = k + 1 := ⟨m - 1, by omega⟩
    refine ⟨xs, by omega, ?_⟩
    unfold whileF
    have : ¬ ((xs.length : Int) < n) := by omega
    simp [T.ints, this, ixs_len]
  | k + 1, xs, h, m, hm => by
    obtain ⟨m, rfl⟩ : ∃ k, m = k + 1 := ⟨m - 1, by omega⟩
    by_cases hl : (xs.length : Int) < n
    · obtain ⟨ys, h1, h2⟩ := fill_loop a c d f g n hn k (xs ++ [0]) (by simp; omega) m (by omega)
      refine ⟨ys, h1, ?_⟩
      unfold whileF
      simp [T.ints, hl, ixs_len, show xs.length < 16777216 by omega] at h2 ⊢
      exact h2
    · refine ⟨xs, by omega, ?_⟩
      unfold whileF
      simp [T.ints, hl, ixs_len]
end K53
end PV

set_option Elab.async false
set_option linter.all false
set_option maxRecDepth 100000
set_option maxHeartbeats 1000000
namespace PV
namespace K53
open PySem PySem.Spec PyProof.Rows L2
theorem cut_to {α : Type} {xs : List α} {n : Nat} : cut xs none (some (n : Int)) = xs.take n := by
  unfold cut
  rw [HT.sIx_none, HT.sIx_nat]
  simp
theorem cut_from {α : Type} {xs : List α} {n : Nat} : cut xs (some (n : Int)) none = xs.drop n := by
  unfold cut
  rw [HT.sIx_none, HT.sIx_nat]
  rw [List.take_of_length_le (by simp)]
  by_cases h : n ≤ xs.length
  · rw [Nat.min_eq_left h]
  · rw [Nat.min_eq_right (by omega), List.drop_eq_nil_of_le (by omega), List.drop_eq_nil_of_le (by omega)]
theorem e_law_numbers (ns : List Int) (n : Nat) (hn : n ≤ 5000) (hl : ns.length ≤ 63) : ∃ xs : List Int, xs.length = n ∧ f__law_numbers [.scr ns, .int (n : Int)] = .ok (T.ints xs) := by
  obtain ⟨cs, hcs⟩ : ∃ cs, cs = cut ns none (some 63) := ⟨_, rfl⟩
  have hcl : cs.length ≤ 63 := by rw [hcs]; exact Nat.le_trans (cut_len _ _ _) hl
  obtain ⟨each, he⟩ : ∃ e : Nat, e = 1 + n / max 1 cs.length := ⟨_, rfl⟩
  have hm : (if (1 : Int) < cs.length then (cs.length : Int) else 1) = ((max 1 cs.length : Nat) : Int) := by
    split <;> omega
  have hd : fdivD (.int (n : Int)) (.int ((max 1 cs.length : Nat) : Int)) = some (.fz (.int ((n / max 1 cs.length : Nat) : Int))) := by
    unfold fdivD
    simp only
    rw [if_pos (by omega)]
    simp
  have hle : each ≤ 5001 := by
    rw [he]
    have := Nat.div_le_self n (max 1 cs.length)
    omega
  have hmul : cs.length * each ≤ 63 * 5001 := Nat.mul_le_mul hcl hle
  obtain ⟨ys, f', g', h1, h2⟩ := cells_loop (some (.fz (.scr ns))) (some (.fz (.int n))) (some (.fz (.lst (cs.map .int)))) each (by omega) cs [] none none (by simp; omega)
  obtain ⟨zs, h3, h4⟩ := fill_loop (some (.fz (.scr ns))) (some (.fz (.lst (cs.map .int)))) (some (.fz (.int each))) f' g' n (by omega) n ys (by omega) 10000 (by omega)
  refine ⟨zs.take n, by simp; omega, ?_⟩
  have hs : slD (.scr ns) none (some 63) = some (T.of (cs.map .int)) := by rw [hcs]; rfl
  have hs2 : slD (.lst (zs.map .int)) none (some (n : Int)) = some (T.ints (zs.take n)) := by
    show some (T.of (cut (zs.map .int) none (some (n : Int)))) = _
    rw [cut_map, cut_to, ints_of]
  have hadd : addD (.int 1) (.int ((n / max 1 cs.length : Nat) : Int)) = some (.fz (.int (each : Int))) := by
    rw [he]; simp [addD]
  simp [f__law_numbers, fnOf_eq, startE, m__law_numbers, hs, maxD]
  rw [hm]
  have en : ((n / max 1 cs.length : Nat) : Int) = (n : Int) / ((max 1 cs.length : Nat) : Int) := Int.natCast_ediv _ _
  rw [en] at hd hadd
  have e0 : T.of [] = T.ints [] := rfl
  have ew : ∀ env, DenS.while 10000 (Den.op2 ltD (Den.fn (f1 lenD) (Dens.cons (Den.var 4) Dens.nil)) (Den.var 1)) (DenS.app 4 (Den.c (.int 0))) env = whileF (Den.op2 ltD (Den.fn (f1 lenD) (Dens.cons (Den.var 4) Dens.nil)) (Den.var 1)) (DenS.app 4 (Den.c (.int 0))) 10000 env := fun _ => rfl
  simp [hd, hadd, e0, seqOf, h1, ew, h4, frzAt, hs2]
/-! ### words -/
theorem add_tt {a b : List D} : addD (.tup a) (.tup b) = if a.length + b.length ≤ 16777216 then some (.fz (.tup (a ++ b))) else none := by rw [addD]
theorem add_ss {a b : List Nat} (h : a.length + b.length ≤ 16777216) : addD (.str a) (.str b) = some (.fz (.str (a ++ b))) := if_pos h
theorem mul_ii {i j : Int} (h : small i = true ∨ small j = true) : mulD (.int i) (.int j) = some (.fz (.int (i * j))) := by
  rw [mulD]
  exact if_pos h
theorem add_ii {i j : Int} : addD (.int i) (.int j) = some (.fz (.int (i + j))) := by rw [addD]
/-- a sign that stands in words -/
def okc (c : Nat) : Bool := (decide (48 ≤ c ∧ c ≤ 57) || decide (97 ≤ c ∧ c ≤ 122)) || (c == 95 || c == 43)
structure Wd (s : List Nat) : Prop where
  ne : s ≠ []
  len : s.length ≤ 14
  all : ∀ c ∈ s, okc c = true
theorem nch_ok {c : Nat} (h : c ∈ nch) : okc c = true := by
  simp only [List.mem_cons, List.not_mem_nil, or_false] at h
  unfold okc
  simp
  omega
def LW : List (List Nat) := LNM ++ [REMOVE, WIND, [101, 110, 100], [48, 49], [43, 49], [49, 95, 48], [48]]
theorem LW_ok : ∀ w ∈ LW, Wd w := by
  intro w hw
  have h : ∀ w ∈ LW, w ≠ [] ∧ w.length ≤ 14 ∧ ∀ c ∈ w, okc c = true := by decide
  obtain ⟨h1, h2, h3⟩ := h w hw
  exact ⟨h1, h2, h3⟩
theorem join_one : ∀ cs : List Nat, TL.joinL [] (cs.map fun c => [c]) = cs
  | [] => rfl
  | [c] => rfl
  | c :: d :: r => by
    have ih := join_one (d :: r)
    simp only [List.map_cons] at ih ⊢
    unfold TL.joinL
    rw [ih]
    rfl
theorem join_pick {g : Nat → Nat} {n : Nat} (hn : n ≤ 1000) : joinD [.str [], .lst ((List.range n).map fun i => .str [g i])] = some (.fz (.str ((List.range n).map g))) := by
  have e : strsD ((List.range n).map fun i => D.str [g i]) = some (((List.range n).map g).map fun c => [c]) := by
    rw [strsD_map']
    simp [Function.comp_def]
  unfold joinD
  simp only [e, Option.bind_some]
  rw [if_pos, join_one]
  simp [Function.comp_def, List.map_const']
  omega
def pick (i : Int) : Nat := nch.getD i.toNat 0
theorem pick_ix {i : Int} (h0 : 0 ≤ i) (h1 : i < 36) : ixD (.str nch) (.int i) = some (.str [pick i]) ∧ okc (pick i) = true := by
  obtain ⟨k, rfl⟩ : ∃ k : Nat, i = k := ⟨i.toNat, by omega⟩
  have hk : k < nch.length := by show k < 36; omega
  have e : nch[k]? = some nch[k] := List.getElem?_eq_getElem hk
  have ep : pick (k : Int) = nch[k] := by
    unfold pick
    simp only [Int.toNat_natCast]
    rw [List.getD_eq_getElem?_getD, e]
    rfl
  rw [ep]
  exact ⟨ix_str e, nch_ok (List.getElem_mem hk)⟩
theorem range_pick {g : Int → Int} {m : Nat} {env : Env'} {e : Den} (hl : 6 < env.length) (h : ∀ k : Int, 0 ≤ k → k < m → e (env.set 6 (some (.fz (.int k)))) = .ok (.val (.fz (.str [pick (g k)])))) :
    lcL (Bnd.name 6) DenT.yes e env ((List.range m).map fun (i : Nat) => .int i) = .ok ((List.range m).map fun (i : Nat) => .str [pick (g i)]) := by
  rw [lcL_map (g := fun d => match d with | .int k => .str [pick (g k)] | _ => .non)]
  · rw [List.map_map]; rfl
  · intro d hd
    obtain ⟨i, hi, rfl⟩ := List.mem_map.mp hd
    exact ⟨_, by simp [hl], rfl, h i (by omega) (by have := List.mem_range.mp hi; omega)⟩
theorem pick_LW {i : Int} (h0 : 0 ≤ i) (h1 : i < 20) : ∃ w, Wd w ∧ ixD (.tup (LW.map .str)) (.int i) = some (.str w) := by
  obtain ⟨k, rfl⟩ : ∃ k : Nat, i = k := ⟨i.toNat, by omega⟩
  have hj : k < LW.length := by show _ < 20; omega
  exact ⟨LW[k], LW_ok _ (List.getElem_mem hj), by rw [ixD_t, List.getElem?_map, List.getElem?_eq_getElem hj]; rfl⟩
theorem Wd.picks {g : Nat → Int} {m : Nat} (hm : 1 ≤ m ∧ m ≤ 14) (h : ∀ k : Nat, 0 ≤ g k ∧ g k < 36) : Wd ((List.range m).map fun k => pick (g k)) := by
  refine ⟨by simp; omega, by simp; omega, fun c hc => ?_⟩
  obtain ⟨k, _, rfl⟩ := List.mem_map.mp hc
  exact (pick_ix (h k).1 (h k).2).2
theorem sl_t2 (w : List Nat) : slD (.str w) none (some 2) = some (.fz (.str (w.take 2))) := by
  show some (T.fz (.str (cut w none (some ((2 : Nat) : Int))))) = _
  rw [cut_to]
theorem sl_d2 (w : List Nat) : slD (.str w) (some 2) none = some (.fz (.str (w.drop 2))) := by
  show some (T.fz (.str (cut w (some ((2 : Nat) : Int)) none))) = _
  rw [cut_from]
theorem wd3 {w : List Nat} (hwl : w.length ≤ 13) (hwc : ∀ c ∈ w, okc c = true) : Wd (w.take 2 ++ [95] ++ w.drop 2) := by
  refine ⟨by simp, by simp; omega, fun c hc => ?_⟩
  simp only [List.append_assoc, List.mem_append, List.mem_singleton] at hc
  rcases hc with hc | hc | hc
  · exact hwc c (List.mem_of_mem_take hc)
  · subst hc; decide
  · exact hwc c (List.mem_of_mem_drop hc)
abbrev lwT : Option T := some (.fz (.tup (LW.map .str)))
theorem word_a {n m : Int} {R : DenS} : (DenS.seq (DenS.asgK true 2 (Den.tup (Dens.cons (Den.c (.str [108, 97, 110, 100])) (Dens.cons (Den.c (.str [99, 97, 115, 101])) (Dens.cons (Den.c (.str [115, 116, 97, 114, 116])) (Dens.cons (Den.c (.str [98, 114, 101, 97, 107])) (Dens.cons (Den.c (.str [102, 114, 101, 101])) (Dens.cons (Den.c (.str [97, 115, 107])) (Dens.cons (Den.c (.str [115, 116, 97, 116, 101, 115])) (Dens.cons (Den.c (.str [115, 104, 111, 119])) (Dens.cons (Den.c (.str [112, 114, 105, 110, 116])) (Dens.cons (Den.c (.str [117, 110, 100, 111])) (Dens.cons (Den.c (.str [114, 101, 100, 111])) (Dens.cons (Den.c (.str [108, 97, 110, 100, 115])) (Dens.cons (Den.c (.str [99, 97, 115, 101, 115])) (Dens.cons (Den.c (.str [114, 101, 109, 111, 118, 101])) Dens.nil)))))))))))))))) (DenS.seq (DenS.asgK true 2 (Den.op2 addD (Den.var 2) (Den.tup (Dens.cons (Den.c (.str [119, 105, 110, 100])) (Dens.cons (Den.c (.str [101, 110, 100])) (Dens.cons (Den.c (.str [48, 49])) (Dens.cons (Den.c (.str [43, 49])) (Dens.cons (Den.c (.str [49, 95, 48])) (Dens.cons (Den.c (.str [48])) Dens.nil))))))))) (DenS.seq (DenS.asgK true 3 (Den.c (.str [97, 98, 99, 100, 101, 102, 103, 104, 105, 106, 107, 108, 109, 110, 111, 112, 113, 114, 115, 116, 117, 118, 119, 120, 121, 122, 48, 49, 50, 51, 52, 53, 54, 55, 56, 57]))) R))) [some (.fz (.int n)), some (.fz (.int m)), none, none, none, none, none] = R [some (.fz (.int n)), some (.fz (.int m)), lwT, some (.fz (.str nch)), none, none, none] := by
  simp [add_tt, LW, LNM, FT, REMOVE]
  rfl
theorem word_b {n m : Int} {z : Nat} (h0 : ¬ n % 4 = 0) (hz : (n / 4) % 7 = z) (h1 : ¬ n % 4 = 1) {R : DenS} {a : Option T} : (DenS.seq (DenS.ite (Den.op2 eqD (Den.op2 modD (Den.fn (f1 intD) (Dens.cons (Den.var 0) Dens.nil)) (Den.c (.int 4))) (Den.c (.int 0))) (DenS.ret (Den.ix (Den.var 2) (Den.op2 modD (Den.fn (f1 intD) (Dens.cons (Den.op2 fdivD (Den.var 0) (Den.c (.int 4))) Dens.nil)) (Den.c (.int 20))))) (DenS.nil)) (DenS.seq (DenS.asgK true 4 (Den.op2 modD (Den.fn (f1 intD) (Dens.cons (Den.op2 fdivD (Den.var 0) (Den.c (.int 4))) Dens.nil)) (Den.c (.int 7)))) (DenS.seq (DenS.ite (Den.op2 eqD (Den.op2 modD (Den.fn (f1 intD) (Dens.cons (Den.var 0) Dens.nil)) (Den.c (.int 4))) (Den.c (.int 1))) (DenS.ret (Den.mt "str" joinD (Den.c (.str [])) (Dens.cons (Den.lc [6] (DenI.range1 (Den.op2 addD (Den.c (.int 1)) (Den.var 4))) (Bnd.name 6) DenT.yes (Den.ix (Den.var 3) (Den.op2 addD (Den.c (.int 26)) (Den.op2 modD (Den.fn (f1 intD) (Dens.cons (Den.op2 addD (Den.op2 addD (Den.var 1) (Den.op2 mulD (Den.op2 mulD (Den.var 6) (Den.var 6)) (Den.c (.int 3)))) (Den.op2 fdivD (Den.var 0) (Den.c (.int 28)))) Dens.nil)) (Den.c (.int 10)))))) Dens.nil))) (DenS.nil)) R))) [some (.fz (.int n)), some (.fz (.int m)), a, some (.fz (.str nch)), none, none, none] = R [some (.fz (.int n)), some (.fz (.int m)), a, some (.fz (.str nch)), some (.fz (.int z)), none, none] := by
  simp [intD, modD, fdivD, h0, h1, hz]
theorem e_word_0 {n m : Int} (h0 : n % 4 = 0) : ∃ w, Wd w ∧ f__law_word [.int n, .int m] = .ok (.fz (.str w)) := by
  obtain ⟨w, hw, e⟩ := pick_LW (i := (n / 4) % 20) (by omega) (by omega)
  refine ⟨w, hw, ?_⟩
  simp only [LW, LNM, FT, REMOVE, List.map_cons, List.map_nil, List.cons_append, List.nil_append] at e
  simp [f__law_word, fnOf_eq, startE, m__law_word, addD, intD, modD, fdivD, h0, e]
theorem e_word_1 {n m : Int} {z : Nat} (h0 : ¬ n % 4 = 0) (hz : (n / 4) % 7 = z) (hz6 : z ≤ 6) (h1 : n % 4 = 1) : ∃ w, Wd w ∧ f__law_word [.int n, .int m] = .ok (.fz (.str w)) := by
  refine ⟨(List.range (1 + z)).map fun (k : Nat) => pick (26 + (m + (k : Int) * k * 3 + n / 28) % 10), Wd.picks (by omega) (fun k => by omega), ?_⟩
  have hr : PV.range1 (.int (1 + (z : Int))) = some ((List.range (1 + z)).map fun (i : Nat) => .int i) := by
    have := range1_nat (n := 1 + z) (by omega)
    simpa using this
  have hlc : ∀ a b c d, lcL (Bnd.name 6) DenT.yes (Den.ix (Den.var 3) (Den.op2 addD (Den.c (.int 26)) (Den.op2 modD (Den.fn (f1 intD) (Dens.cons (Den.op2 addD (Den.op2 addD (Den.var 1) (Den.op2 mulD (Den.op2 mulD (Den.var 6) (Den.var 6)) (Den.c (.int 3)))) (Den.op2 fdivD (Den.var 0) (Den.c (.int 28)))) Dens.nil)) (Den.c (.int 10)))))
      [some (.fz (.int n)), some (.fz (.int m)), a, some (.fz (.str nch)), b, c, d] ((List.range (1 + z)).map fun (i : Nat) => .int i) = .ok ((List.range (1 + z)).map fun (i : Nat) => .str [pick (26 + (m + (i : Int) * i * 3 + n / 28) % 10)]) := by
    intro a b c d
    refine range_pick (g := fun k => 26 + (m + k * k * 3 + n / 28) % 10) (by simp) fun k hk0 hk1 => ?_
    have hs : small k = true := by simp [small]; omega
    have hp := (pick_ix (i := 26 + (m + k * k * 3 + n / 28) % 10) (by omega) (by omega)).1
    have hs3 : small 3 = true := by decide
    simp [mulD, addD, modD, fdivD, intD, hs, hs3, hp]
  have hj := join_pick (g := fun (k : Nat) => pick (26 + (m + (k : Int) * k * 3 + n / 28) % 10)) (n := 1 + z) (by omega)
  simp [f__law_word, fnOf_eq, startE, m__law_word, addD, intD, modD, fdivD, h0, h1, hz, tyM, hr, oI, wipeE]
  rw [hlc]
  simp [hj]
theorem e_word_2 {n m : Int} {z : Nat} (h0 : ¬ n % 4 = 0) (hz : (n / 4) % 7 = z) (hz6 : z ≤ 6) (h1 : ¬ n % 4 = 1) : ∃ w, Wd w ∧ f__law_word [.int n, .int m] = .ok (.fz (.str w)) := by
  have hlc : ∀ a b c d, lcL (Bnd.name 6) DenT.yes (Den.ix (Den.var 3) (Den.op2 modD (Den.fn (f1 intD) (Dens.cons (Den.op2 addD (Den.op2 addD (Den.var 1) (Den.op2 mulD (Den.op2 mulD (Den.c (.int 11)) (Den.var 6)) (Den.var 0))) (Den.var 6)) Dens.nil)) (Den.c (.int 36))))
      [some (.fz (.int n)), some (.fz (.int m)), a, some (.fz (.str nch)), b, c, d] ((List.range (z * 2)).map fun (i : Nat) => .int i) = .ok ((List.range (z * 2)).map fun (i : Nat) => .str [pick ((m + 11 * (i : Int) * n + i) % 36)]) := by
    intro a b c d
    refine range_pick (g := fun k => (m + 11 * k * n + k) % 36) (by simp) fun k hk0 hk1 => ?_
    have hs : small (11 * k) = true := by simp [small]; omega
    have hp := (pick_ix (i := (m + 11 * k * n + k) % 36) (by omega) (by omega)).1
    have hs3 : small 11 = true := by decide
    simp [mulD, addD, modD, fdivD, intD, hs, hs3, hp]
  have hj := join_pick (g := fun (k : Nat) => pick ((m + 11 * (k : Int) * n + k) % 36)) (n := z * 2) (by omega)
  have hr : PV.range1 (.int ((z : Int) * 2)) = some ((List.range (z * 2)).map fun (i : Nat) => .int i) := by
    have := range1_nat (n := z * 2) (by omega)
    simpa using this
  have hp := (pick_ix (i := m % 36) (by omega) (by omega)).1
  have hs2 : small 2 = true := by decide
  have hmu : mulD (.int (z : Int)) (.int 2) = some (.fz (.int ((z : Int) * 2))) := mul_ii (.inr hs2)
  obtain ⟨w, hw⟩ : ∃ w, w = pick (m % 36) :: (List.range (z * 2)).map fun (k : Nat) => pick ((m + 11 * (k : Int) * n + k) % 36) := ⟨_, rfl⟩
  have hwl : w.length = 1 + z * 2 := by rw [hw]; simp; omega
  have hwc : ∀ c ∈ w, okc c = true := by
    intro c hc
    rw [hw] at hc
    rcases List.mem_cons.mp hc with rfl | hc
    · exact (pick_ix (by omega) (by omega)).2
    · obtain ⟨k, _, rfl⟩ := List.mem_map.mp hc
      exact (pick_ix (by omega) (by omega)).2
  have ha : addD (.str [pick (m % 36)]) (.str ((List.range (z * 2)).map fun (k : Nat) => pick ((m + 11 * (k : Int) * n + k) % 36))) = some (.fz (.str w)) := by
    rw [hw]
    exact add_ss (by simp; omega)
  have hm : f__law_word [.int n, .int m] = ((DenS.seq (DenS.asgK true 5 (Den.op2 addD (Den.ix (Den.var 3) (Den.op2 modD (Den.fn (f1 intD) (Dens.cons (Den.var 1) Dens.nil)) (Den.c (.int 36)))) (Den.mt "str" joinD (Den.c (.str [])) (Dens.cons (Den.lc [6] (DenI.range1 (Den.op2 mulD (Den.var 4) (Den.c (.int 2)))) (Bnd.name 6) DenT.yes (Den.ix (Den.var 3) (Den.op2 modD (Den.fn (f1 intD) (Dens.cons (Den.op2 addD (Den.op2 addD (Den.var 1) (Den.op2 mulD (Den.op2 mulD (Den.c (.int 11)) (Den.var 6)) (Den.var 0))) (Den.var 6)) Dens.nil)) (Den.c (.int 36))))) Dens.nil)))) (DenS.seq (DenS.ite (Den.op2 eqD (Den.op2 modD (Den.fn (f1 intD) (Dens.cons (Den.var 1) Dens.nil)) (Den.c (.int 9))) (Den.c (.int 0))) (DenS.ret (Den.op2 addD (Den.op2 addD (Den.sl (Den.var 5) none (some (Den.c (.int 2)))) (Den.c (.str [95]))) (Den.sl (Den.var 5) (some (Den.c (.int 2))) none))) (DenS.nil)) (DenS.ret (Den.var 5)))) [some (.fz (.int n)), some (.fz (.int m)), lwT, some (.fz (.str nch)), some (.fz (.int z)), none, none]).out :=
    congrArg Os.out (word_a.trans (word_b h0 hz h1))
  have hE : (DenS.asgK true 5 (Den.op2 addD (Den.ix (Den.var 3) (Den.op2 modD (Den.fn (f1 intD) (Dens.cons (Den.var 1) Dens.nil)) (Den.c (.int 36)))) (Den.mt "str" joinD (Den.c (.str [])) (Dens.cons (Den.lc [6] (DenI.range1 (Den.op2 mulD (Den.var 4) (Den.c (.int 2)))) (Bnd.name 6) DenT.yes (Den.ix (Den.var 3) (Den.op2 modD (Den.fn (f1 intD) (Dens.cons (Den.op2 addD (Den.op2 addD (Den.var 1) (Den.op2 mulD (Den.op2 mulD (Den.c (.int 11)) (Den.var 6)) (Den.var 0))) (Den.var 6)) Dens.nil)) (Den.c (.int 36))))) Dens.nil)))) [some (.fz (.int n)), some (.fz (.int m)), lwT, some (.fz (.str nch)), some (.fz (.int z)), none, none] = .nx [some (.fz (.int n)), some (.fz (.int m)), lwT, some (.fz (.str nch)), some (.fz (.int z)), some (.fz (.str w)), none] := by
    simp [intD, modD, tyM, oI, wipeE, hp, hr, hmu]
    rw [hlc]
    simp [hj, ha]
  rw [hm]
  by_cases h9 : m % 9 = 0
  · refine ⟨w.take 2 ++ [95] ++ w.drop 2, wd3 (by omega) hwc, ?_⟩
    have e3 : addD (.str (w.take 2)) (.str [95]) = some (.fz (.str (w.take 2 ++ [95]))) := add_ss (by simp; omega)
    have e4 : addD (.str (w.take 2 ++ [95])) (.str (w.drop 2)) = some (.fz (.str (w.take 2 ++ [95] ++ w.drop 2))) := add_ss (by simp; omega)
    rw [ev_sseq, hE]
    simp [intD, modD, h9, sl_t2, sl_d2, e3, e4]
  · refine ⟨w, ⟨by intro z; rw [z] at hwl; simp at hwl; omega, by omega, hwc⟩, ?_⟩
    rw [ev_sseq, hE]
    simp [intD, modD, h9]
theorem e_law_word (n m : Int) : ∃ w, Wd w ∧ f__law_word [.int n, .int m] = .ok (.fz (.str w)) := by
  by_cases h0 : n % 4 = 0
  · exact e_word_0 h0
  · obtain ⟨z, hz, hz6⟩ : ∃ z : Nat, (n / 4) % 7 = z ∧ z ≤ 6 := ⟨((n / 4) % 7).toNat, by omega, by omega⟩
    by_cases h1 : n % 4 = 1
    · exact e_word_1 h0 hz hz6 h1
    · exact e_word_2 h0 hz hz6 h1
end K53
end PV

set_option Elab.async false
set_option linter.all false
set_option maxRecDepth 100000
set_option maxHeartbeats 1000000
namespace PV
namespace K53
open PySem PySem.Spec PyProof.Rows L2
/-! ### a line that is put together -/
def T.strs (ws : List (List Nat)) : T := .lst (ws.map fun w => .fz (.str w))
theorem strs_of {ws : List (List Nat)} : T.of (ws.map .str) = T.strs ws := by simp [T.of, T.strs, Function.comp_def]
@[simp] theorem strs_frz {ws : List (List Nat)} : (T.strs ws).frz = .lst (ws.map .str) := by simp [T.strs, T.frzL_map']
def sel (p : List Nat → Bool) (ws : List (List Nat)) : List (List Nat) := ws.filter p
theorem sel_lc {p : List Nat → Bool} {f : Fn} (hf : ∀ w, f [.str w] = .ok (.fz (.bl (p w)))) (ws : List (List Nat)) (env : Env') (h8 : 8 < env.length) : lcL (Bnd.name 8) (DenT.one (Den.call f (Dens.cons (Den.var 8) Dens.nil))) (Den.var 8) env (ws.map .str) = .ok ((ws.filter p).map .str) := by
  rw [lcL_all (p := fun d => match d with | .str s => p s | _ => false) (g := id)]
  · congr 1
    rw [List.map_id, List.filter_map]
    rfl
  · intro d hd
    obtain ⟨w, _, rfl⟩ := List.mem_map.mp hd
    exact ⟨env.set 8 (some (.fz (.str w))), by simp [h8], by simp [h8, hf], fun _ => by simp [h8]⟩
theorem add_ll {a b : List D} (h : a.length + b.length ≤ 16777216) : addD (.lst a) (.lst b) = some (T.of (a ++ b)) := if_pos h
variable {xs : List Int} {ws nm fg : List (List Nat)} {a b c d e f g h : Option T}
theorem formed_11 (hw : ws.length ≤ 1000) : s__law_formed_11 [a, some (.fz (.lst (ws.map .str))), b, c, d, e, f, g, h] = .nx [a, some (.fz (.lst (ws.map .str))), some (.fz (.lst ((ws.filter lawName ++ [[97], [98], [99]]).map .str))), c, d, e, f, g, h] := by
  have hl : (ws.filter lawName).length ≤ ws.length := List.length_filter_le _ _
  have h1 := add_ll (a := (ws.filter lawName).map .str) (b := [.str [97], .str [98], .str [99]]) (by simp; omega)
  simp [s__law_formed_11, seqOf, wipeE]
  rw [sel_lc e_law_name ws _ (by simp)]
  simp [h1]
theorem formed_10 (hw : ws.length ≤ 1000) : s__law_formed_10 [a, some (.fz (.lst (ws.map .str))), b, c, d, e, f, g, h] = .nx [a, some (.fz (.lst (ws.map .str))), b, some (.fz (.lst ((ws.filter lawNum ++ [[48], [55], [49, 50]]).map .str))), d, e, f, g, h] := by
  have hl : (ws.filter lawNum).length ≤ ws.length := List.length_filter_le _ _
  have h1 := add_ll (a := (ws.filter lawNum).map .str) (b := [.str [48], .str [55], .str [49, 50]]) (by simp; omega)
  simp [s__law_formed_10, seqOf, wipeE]
  rw [sel_lc e_law_number ws _ (by simp)]
  simp [h1]
theorem formed_9 : s__law_formed_9 [a, b, c, d, e, f, g, h, i'] = .nx [a, b, c, d, some (.fz (.tup (LNM.map .str))), f, g, h, i'] := by
  simp [s__law_formed_9, LNM, FT]
theorem num_ix {xs : List Int} {k : Nat} (h : k < xs.length) : ∃ v, ixD (.lst (xs.map .int)) (.int (k : Int)) = some (.int v) :=
  ⟨xs[k], by rw [ixD_l, List.getElem?_map, List.getElem?_eq_getElem h]; rfl⟩
theorem pick_mod {nm : List (List Nat)} (hne : 0 < nm.length) (l : Nat) : ∃ w ∈ nm, ixD (.lst (nm.map .str)) (.int ((l : Int) % (nm.length : Int))) = some (.str w) := by
  have hk : l % nm.length < nm.length := Nat.mod_lt _ hne
  refine ⟨nm[l % nm.length], List.getElem_mem hk, ?_⟩
  rw [show ((l : Int) % (nm.length : Int)) = ((l % nm.length : Nat) : Int) from (Int.natCast_emod _ _).symm]
  exact ix_strs (List.getElem?_eq_getElem hk)
theorem lits2 {x y : List Nat} {i : Int} (h0 : 0 ≤ i) (h1 : i < 2) : ∃ w, (w = x ∨ w = y) ∧ ixD (.tup [.str x, .str y]) (.int i) = some (.str w) := by
  obtain ⟨k, rfl⟩ : ∃ k : Nat, i = k := ⟨i.toNat, by omega⟩
  have : k = 0 ∨ k = 1 := by omega
  rcases this with rfl | rfl
  · exact ⟨x, .inl rfl, rfl⟩
  · exact ⟨y, .inr rfl, rfl⟩
theorem formed_loop {a b d e f : Option T} {nm fg : List (List Nat)} (hn : 0 < nm.length) (hf : 0 < fg.length) (wn : ∀ w ∈ nm, Wd w) (wf : ∀ w ∈ fg, Wd w) : ∀ (cs : List Nat) (ls : List (List Nat)) (g h : Option T), (∀ w ∈ ls, Wd w) → ls.length + cs.length ≤ 100 →
    ∃ ls' g', forL (Bnd.name 7) b__law_formed_2 (cs.map fun c => .str [c]) [a, b, some (.fz (.lst (nm.map .str))), some (.fz (.lst (fg.map .str))), d, e, some (T.strs ls), g, h] = .nx [a, b, some (.fz (.lst (nm.map .str))), some (.fz (.lst (fg.map .str))), d, e, some (T.strs ls'), g', h] ∧ (∀ w ∈ ls', Wd w) ∧ ls'.length = ls.length + cs.length
  | [], ls, g, h, wl, _ => ⟨ls, g, by simp [forL], wl, by simp⟩
  | c :: cs, ls, g, h, wl, hl => by
    simp at hl
    obtain ⟨w1, m1, i1⟩ := pick_mod hn ls.length
    obtain ⟨w2, m2, i2⟩ := pick_mod hf ls.length
    have step : ∃ w, Wd w ∧ b__law_formed_2 [a, b, some (.fz (.lst (nm.map .str))), some (.fz (.lst (fg.map .str))), d, e, some (T.strs ls), some (.fz (.str [c])), h] = .nx [a, b, some (.fz (.lst (nm.map .str))), some (.fz (.lst (fg.map .str))), d, e, some (T.strs (ls ++ [w])), some (.fz (.str [c])), h] := by
      have hx : ls.length < 16777216 := by omega
      have fr : (T.frzL (ls.map fun w => T.fz (.str w))) = ls.map .str := T.frzL_map' _ _
      by_cases hc : c = 110
      · refine ⟨w1, wn _ m1, ?_⟩
        simp [b__law_formed_2, hc, T.strs, fr, modD, show (0 : Int) < nm.length by omega, i1, hx]
        exact fun z => by rw [z] at hn; simp at hn
      · refine ⟨w2, wf _ m2, ?_⟩
        simp [b__law_formed_2, hc, T.strs, fr, modD, show (0 : Int) < fg.length by omega, i2, hx]
        exact fun z => by rw [z] at hf; simp at hf
    obtain ⟨w, ww, hs⟩ := step
    obtain ⟨ls', g', h1, h2, h3⟩ := formed_loop (a := a) (b := b) (d := d) (e := e) (f := f) hn hf wn wf cs (ls ++ [w]) (some (.fz (.str [c]))) h (fun v hv => by
      rcases List.mem_append.mp hv with hv | hv
      · exact wl v hv
      · rw [List.mem_singleton.mp hv]; exact ww) (by simp; omega)
    refine ⟨ls', g', ?_, h2, by rw [h3]; simp; omega⟩
    simp only [List.map_cons]
    unfold forL
    simp only [ev_bname, List.length_cons, List.length_nil]
    rw [if_pos (by omega)]
    simp only [List.set]
    rw [hs]
    exact h1
theorem Wd.lit {w : List Nat} (h : w ∈ LW) : Wd w := LW_ok w h
theorem strs3 {x y z : List Nat} : T.of [.str x, .str y, .str z] = T.strs [x, y, z] := rfl
theorem FT_get {p : Nat} (hp : p < 13) : ∃ w cs, LNM[p]? = some w ∧ FT.lookup w = some cs ∧ cs.length ≤ 3 ∧ w ∈ LW := by
  have h : ∀ p < 13, (match LNM[p]? with | some w => (match FT.lookup w with | some cs => decide (cs.length ≤ 3) && decide (w ∈ LW) | none => false) | none => false) = true := by decide
  have h := h p hp
  split at h
  · rename_i w hw
    split at h
    · rename_i cs hc
      simp at h
      exact ⟨w, cs, hw, hc, h.1, h.2⟩
    · cases h
  · cases h
theorem e_law_formed (xs : List Int) (ws : List (List Nat)) (hx : xs.length = 60) (hw : ws.length ≤ 1000) (ww : ∀ w ∈ ws, Wd w) : ∃ ls, (∀ w ∈ ls, Wd w) ∧ 1 ≤ ls.length ∧ ls.length ≤ 10 ∧ f__law_formed [.lst (xs.map .int), .lst (ws.map .str)] = .ok (T.strs ls) := by
  obtain ⟨nm, hnm⟩ : ∃ nm, nm = ws.filter lawName ++ [[97], [98], [99]] := ⟨_, rfl⟩
  obtain ⟨fg, hfg⟩ : ∃ fg, fg = ws.filter lawNum ++ [[48], [55], [49, 50]] := ⟨_, rfl⟩
  have wn : ∀ w ∈ nm, Wd w := by
    intro w h
    rw [hnm] at h
    rcases List.mem_append.mp h with h | h
    · exact ww w (List.mem_filter.mp h).1
    · have : ∀ w ∈ ([[97], [98], [99]] : List (List Nat)), w ≠ [] ∧ w.length ≤ 14 ∧ ∀ c ∈ w, okc c = true := by decide
      obtain ⟨h1, h2, h3⟩ := this w h
      exact ⟨h1, h2, h3⟩
  have wf : ∀ w ∈ fg, Wd w := by
    intro w h
    rw [hfg] at h
    rcases List.mem_append.mp h with h | h
    · exact ww w (List.mem_filter.mp h).1
    · have : ∀ w ∈ ([[48], [55], [49, 50]] : List (List Nat)), w ≠ [] ∧ w.length ≤ 14 ∧ ∀ c ∈ w, okc c = true := by decide
      obtain ⟨h1, h2, h3⟩ := this w h
      exact ⟨h1, h2, h3⟩
  have nl : 0 < nm.length := by rw [hnm]; simp
  have fl : 0 < fg.length := by rw [hfg]; simp
  obtain ⟨n0, in0, mn0⟩ : ∃ n0, ixD (.lst (nm.map .str)) (.int 0) = some (.str n0) ∧ n0 ∈ nm := ⟨nm[0], ix_strs (k := 0) (List.getElem?_eq_getElem nl), List.getElem_mem nl⟩
  obtain ⟨g0, ig0, mg0⟩ : ∃ g0, ixD (.lst (fg.map .str)) (.int 0) = some (.str g0) ∧ g0 ∈ fg := ⟨fg[0], ix_strs (k := 0) (List.getElem?_eq_getElem fl), List.getElem_mem fl⟩
  obtain ⟨v42, i42⟩ : ∃ v, ixD (.lst (xs.map .int)) (.int 42) = some (.int v) := num_ix (k := 42) (by omega)
  obtain ⟨v43, i43⟩ : ∃ v, ixD (.lst (xs.map .int)) (.int 43) = some (.int v) := num_ix (k := 43) (by omega)
  obtain ⟨p, hp, hp17⟩ : ∃ p : Nat, v42 % 17 = p ∧ p < 17 := ⟨(v42 % 17).toNat, by omega, by omega⟩
  have e8 : ∀ a b c d e f g h, s__law_formed_8 [some (.fz (.lst (xs.map .int))), a, b, c, d, e, f, g, h] = .nx [some (.fz (.lst (xs.map .int))), a, b, c, d, some (.fz (.int (p : Nat))), f, g, h] := by
    intro a b c d e f g h
    simp [s__law_formed_8, i42, intD, modD, hp]
  have pre : f__law_formed [.lst (xs.map .int), .lst (ws.map .str)] = ((DenS.seq s__law_formed_7 (DenS.seq s__law_formed_6 (DenS.seq s__law_formed_5 (DenS.seq s__law_formed_4 (DenS.seq s__law_formed_3 s__law_formed_1))))) [some (.fz (.lst (xs.map .int))), some (.fz (.lst (ws.map .str))), some (.fz (.lst (nm.map .str))), some (.fz (.lst (fg.map .str))), some (.fz (.tup (LNM.map .str))), some (.fz (.int (p : Nat))), none, none, none]).out := by
    simp only [f__law_formed, fnOf_eq, startE, m__law_formed, List.map_cons, List.map_nil, List.length_cons, List.length_nil]
    show (DenS.seq s__law_formed_11 _ [some (.fz (.lst (xs.map .int))), some (.fz (.lst (ws.map .str))), none, none, none, none, none, none, none]).out = _
    rw [ev_sseq, formed_11 hw, thn_nx, ev_sseq, formed_10 hw, thn_nx, ev_sseq, formed_9, thn_nx, ev_sseq, e8, thn_nx, ← hnm, ← hfg]
  rw [pre]
  have isp : ∀ k : Nat, ((p : Int) == (k : Int)) = decide (p = k) := by
    intro k
    by_cases h : p = k <;> simp [h]
    omega
  by_cases h13 : p = 13
  · obtain ⟨w, hw2, iw⟩ := lits2 (x := [108, 97, 110, 100]) (y := [99, 97, 115, 101]) (i := v43 % 2) (by omega) (by omega)
    refine ⟨[REMOVE, w, n0], ?_, by simp, by simp, ?_⟩
    · intro v hv
      simp at hv
      rcases hv with rfl | rfl | rfl
      · exact .lit (by decide)
      · rcases hw2 with rfl | rfl <;> exact .lit (by decide)
      · exact wn _ mn0
    · subst h13
      simp [s__law_formed_7, i43, intD, modD, iw, in0, strs3, REMOVE]
  · have n13 : ¬ ((p : Int) = 13) := by omega
    by_cases h14 : p = 14
    · refine ⟨[WIND, g0, n0], ?_, by simp, by simp, ?_⟩
      · intro v hv
        simp at hv
        rcases hv with rfl | rfl | rfl
        · exact .lit (by decide)
        · exact wf _ mg0
        · exact wn _ mn0
      · subst h14
        simp [s__law_formed_7, s__law_formed_6, ig0, in0, strs3]
    · have n14 : ¬ ((p : Int) = 14) := by omega
      by_cases hg : 14 < p
      · obtain ⟨w, hw2, iw⟩ := lits2 (x := START) (y := BREAK) (i := (p : Int) - 15) (by omega) (by omega)
        refine ⟨[w, n0, g0], ?_, by simp, by simp, ?_⟩
        · intro v hv
          simp at hv
          rcases hv with rfl | rfl | rfl
          · rcases hw2 with rfl | rfl <;> exact .lit (by decide)
          · exact wn _ mn0
          · exact wf _ mg0
        · simp [s__law_formed_7, s__law_formed_6, s__law_formed_5, n13, n14, show (14 : Int) < p by omega, subD, iw, in0, ig0, strs3]
      · obtain ⟨w, cs, hw1, hc, hc3, hlw⟩ := FT_get (p := p) (by omega)
        have ih : ixD (.tup (LNM.map .str)) (.int (p : Int)) = some (.str w) := by rw [ixD_t, List.getElem?_map, hw1]; rfl
        obtain ⟨ls, g', h1, h2, h3⟩ := formed_loop (a := some (.fz (.lst (xs.map .int)))) (b := some (.fz (.lst (ws.map .str)))) (d := some (.fz (.tup (LNM.map .str)))) (e := some (.fz (.int (p : Nat)))) (f := none) nl fl wn wf cs [w] none none (by intro v hv; rw [List.mem_singleton.mp hv]; exact .lit hlw) (by simp; omega)
        refine ⟨ls, h2, by rw [h3]; simp, by rw [h3]; simp; omega, ?_⟩
        have e1 : T.of [.str w] = T.strs [w] := rfl
        have elf := e_law_form w
        rw [hc] at elf
        simp only at elf
        simp [s__law_formed_7, s__law_formed_6, s__law_formed_5, s__law_formed_4, s__law_formed_3, s__law_formed_1, n13, n14, show ¬ (14 : Int) < p by omega, ih, elf, e1, h1]
        rfl
end K53
end PV

set_option Elab.async false
set_option linter.all false
set_option maxRecDepth 100000
set_option maxHeartbeats 1000000
namespace PV
namespace K53
open PySem PySem.Spec PyProof.Rows L2
/-! ### the text and its words -/
def sp (s : List Nat) : List (List Nat) := (TL.spl [32] 0 [] s).filter fun p => !(p == [])
theorem sp_nil : sp [] = [] := by simp [sp, TL.spl_nil]
theorem sp_cut {p : List Nat} (h : 32 ∉ p) (q : List Nat) : sp (p ++ 32 :: q) = (if p = [] then [] else [p]) ++ sp q := by
  unfold sp
  have e : TL.spl [32] 0 [] (p ++ ([32] ++ q)) = p :: TL.spl [32] 0 [] q := SX.spl_free q (by simp) (SX.free_head h)
  have e2 : p ++ 32 :: q = p ++ ([32] ++ q) := rfl
  rw [e2, e]
  by_cases hp : p = []
  · subst hp; simp
  · simp [hp]
theorem sp_blank (q : List Nat) : sp (32 :: q) = sp q := by
  have := sp_cut (p := []) (by simp) q
  simpa using this
theorem sp_blanks (n : Nat) (q : List Nat) : sp (List.replicate n 32 ++ q) = sp q := by
  induction n with
  | zero => rfl
  | succ n ih => rw [List.replicate_succ, List.cons_append, sp_blank, ih]
theorem sp_word {w : List Nat} (h : 32 ∉ w) (hn : w ≠ []) (m : Nat) (q : List Nat) : sp (w ++ (List.replicate (m + 1) 32 ++ q)) = w :: sp q := by
  rw [List.replicate_succ, List.cons_append, sp_cut h, if_neg hn, sp_blanks]
  rfl
theorem sp_last {w : List Nat} (h : 32 ∉ w) (hn : w ≠ []) (m : Nat) : sp (w ++ List.replicate m 32) = [w] := by
  cases m with
  | zero =>
    have e : TL.spl [32] 0 [] (TL.joinL [32] [w]) = [w] := SX.spl_join (c := 32) (sep := []) (by simp) (by intro p hp; rw [List.mem_singleton.mp hp]; exact h)
    have e2 : TL.joinL [32] [w] = w := rfl
    rw [e2] at e
    simp [sp, e, hn]
  | succ m =>
    have := sp_word h hn m []
    simpa [sp_nil] using this
inductive Spaced : List (List Nat) → List Nat → Prop where
  | nil : Spaced [] []
  | one (w : List Nat) : Spaced [w] w
  | more {w v : List Nat} {r : List (List Nat)} {s : List Nat} (n : Nat) (h : Spaced (v :: r) s) : Spaced (w :: v :: r) (w ++ (List.replicate (n + 1) 32 ++ s))
theorem Wd.no {w : List Nat} (h : Wd w) : 32 ∉ w := fun z => by have := h.all 32 z; revert this; decide
theorem Spaced.sp {ws : List (List Nat)} {s : List Nat} (h : Spaced ws s) (hw : ∀ w ∈ ws, Wd w) (m : Nat) : sp (s ++ List.replicate m 32) = ws := by
  induction h with
  | nil =>
    have := sp_blanks m []
    simpa [sp_nil] using this
  | one w =>
    have := hw w (by simp)
    exact sp_last this.no this.ne m
  | @more w v r s n h ih =>
    have hw0 := hw w (by simp)
    rw [List.append_assoc, List.append_assoc, sp_word hw0.no hw0.ne, ih fun x hx => hw x (List.mem_cons_of_mem _ hx)]
theorem rep_32 {n : Nat} : rep [32] n = List.replicate n 32 := by
  unfold rep
  induction n with
  | zero => rfl
  | succ n ih => rw [List.replicate_succ, List.flatten_cons, ih]; rfl
theorem mul_sp {n : Nat} (h : n ≤ 1000) : mulD (.str [32]) (.int (n : Int)) = some (.fz (.str (List.replicate n 32))) := by
  rw [mulD]
  simp only [Int.toNat_natCast, List.length_cons, List.length_nil]
  rw [if_pos (by omega), rep_32]
theorem mod_nat (v : Int) {k : Nat} (hk : 0 < k) : ∃ n : Nat, v % (k : Int) = n ∧ n < k := ⟨(v % k).toNat, by have := Int.emod_nonneg v (show (k : Int) ≠ 0 by omega); omega, by have := Int.emod_nonneg v (show (k : Int) ≠ 0 by omega); have := Int.emod_lt_of_pos v (show (0 : Int) < k by omega); omega⟩
/-- the words are written behind one another -/
theorem text_loop {xs : List Int} {ws : List (List Nat)} {a e f g h i : Option T} (hx : xs.length = 60) (ww : ∀ w ∈ ws, Wd w) (hl : ws.length ≤ 20) : ∀ (m k : Nat) (acc : List Nat) (j : Option T), k + m = ws.length → acc.length + m * 20 ≤ 1000 →
    ∃ s j', forL (Bnd.name 4) b_law_9 ((List.range' k m).map fun (i : Nat) => .int i) [a, some (.fz (.lst (xs.map .int))), some (.fz (.lst (ws.map .str))), some (.fz (.str acc)), j, e, f, g, h, i] = .nx [a, some (.fz (.lst (xs.map .int))), some (.fz (.lst (ws.map .str))), some (.fz (.str (acc ++ s))), j', e, f, g, h, i] ∧ Spaced (ws.drop k) s ∧ s.length ≤ m * 20
  | 0, k, acc, j, hk, _ => ⟨[], j, by simp [forL, List.range'], by rw [List.drop_eq_nil_of_le (by omega)]; exact .nil, by simp⟩
  | m + 1, k, acc, j, hk, ha => by
    have hk2 : k < ws.length := by omega
    have i2 := ix_strs (List.getElem?_eq_getElem hk2)
    have hw := ww _ (List.getElem_mem hk2)
    obtain ⟨v47, i47⟩ : ∃ v, ixD (.lst (xs.map .int)) (.int 47) = some (.int v) := num_ix (k := 47) (by omega)
    obtain ⟨v48, i48⟩ : ∃ v, ixD (.lst (xs.map .int)) (.int 48) = some (.int v) := num_ix (k := 48) (by omega)
    have hd : ws.drop k = ws[k] :: ws.drop (k + 1) := List.drop_eq_getElem_cons hk2
    have e1 : addD (.str acc) (.str ws[k]) = some (.fz (.str (acc ++ ws[k]))) := add_ss (by have := hw.len; omega)
    by_cases hlast : k + 1 < ws.length
    · obtain ⟨q, hq, hq3⟩ := mod_nat (v47 + (k : Int) * v48) (k := 3) (by omega)
      have hq' : (v47 + (k : Int) * v48) % 3 = q := hq
      have hsm : small (k : Int) = true := by simp [small]; omega
      have hmu : mulD (.int (k : Int)) (.int v48) = some (.fz (.int ((k : Int) * v48))) := mul_ii (.inl hsm)
      have hms : mulD (.str [32]) (.int (1 + (q : Int))) = some (.fz (.str (List.replicate (q + 1) 32))) := by
        have := mul_sp (n := q + 1) (by omega)
        rw [← this]
        congr 2
        omega
      have e2 : addD (.str (acc ++ ws[k])) (.str (List.replicate (q + 1) 32)) = some (.fz (.str (acc ++ ws[k] ++ List.replicate (q + 1) 32))) := add_ss (by simp; have := hw.len; omega)
      obtain ⟨s, j', h1, h2, h3⟩ := text_loop (a := a) (e := e) (f := f) (g := g) (h := h) (i := i) hx ww hl m (k + 1) (acc ++ ws[k] ++ List.replicate (q + 1) 32) (some (.fz (.int (k : Nat)))) (by omega) (by simp; have := hw.len; omega)
      refine ⟨ws[k] ++ (List.replicate (q + 1) 32 ++ s), j', ?_, ?_, by simp; have := hw.len; omega⟩
      · rw [List.range'_succ]
        simp only [List.map_cons]
        unfold forL
        simp [b_law_9, i2, e1, add_ii, i47, i48, hmu, intD, modD, hq', hms, e2, show (k : Int) + 1 < ws.length by omega]
        simp at h1
        exact h1
      · rw [hd]
        obtain ⟨v, r, hvr⟩ : ∃ v r, ws.drop (k + 1) = v :: r := ⟨_, _, List.drop_eq_getElem_cons hlast⟩
        rw [hvr] at h2 ⊢
        exact .more q h2
    · have hm0 : m = 0 := by omega
      subst hm0
      refine ⟨ws[k], some (.fz (.int (k : Nat))), ?_, ?_, by have := hw.len; omega⟩
      · simp only [List.range', List.map_cons, List.map_nil]
        unfold forL
        simp [b_law_9, i2, e1, add_ii, show ¬ (k : Int) + 1 < ws.length by omega, forL]
      · rw [hd, List.drop_eq_nil_of_le (by omega)]
        exact .one _
/-! ### law -/
theorem s14 {ns : List Int} (hl : ns.length ≤ 63) {b c d e f g h i j : Option T} : ∃ xs : List Int, xs.length = 60 ∧ s_law_14 [some (.fz (.scr ns)), b, c, d, e, f, g, h, i, j] = .nx [some (.fz (.scr ns)), some (.fz (.lst (xs.map .int))), c, d, e, f, g, h, i, j] := by
  obtain ⟨xs, h1, h2⟩ := e_law_numbers ns 60 (by omega) hl
  refine ⟨xs, h1, ?_⟩
  have h2 : f__law_numbers [.scr ns, .int 60] = .ok (T.ints xs) := h2
  simp [s_law_14, h2]
theorem lcL_ex {b : Bnd} {t : DenT} {m : Den} {env : Env'} {P : List Nat → Prop} : ∀ {ds : List D}, (∀ d ∈ ds, ∃ env1 w, b d env = some env1 ∧ t env1 = .ok true ∧ m env1 = .ok (.val (.fz (.str w))) ∧ P w) → ∃ ws : List (List Nat), ws.length = ds.length ∧ (∀ w ∈ ws, P w) ∧ lcL b t m env ds = .ok (ws.map .str)
  | [], _ => ⟨[], rfl, by simp, rfl⟩
  | d :: ds, h => by
    obtain ⟨env1, w, h1, h2, h3, h4⟩ := h d List.mem_cons_self
    obtain ⟨ws, g1, g2, g3⟩ := lcL_ex (ds := ds) fun x hx => h x (List.mem_cons_of_mem _ hx)
    refine ⟨w :: ws, by simp [g1], fun v hv => ?_, ?_⟩
    · rcases List.mem_cons.mp hv with rfl | hv
      · exact h4
      · exact g2 v hv
    · unfold lcL
      rw [h1]
      simp [h2, h3, g3]
theorem s13 {xs : List Int} (hx : xs.length = 60) {a c d e f g h i j : Option T} : ∃ ws : List (List Nat), 1 ≤ ws.length ∧ ws.length ≤ 7 ∧ (∀ w ∈ ws, Wd w) ∧ s_law_13 [a, some (.fz (.lst (xs.map .int))), c, d, e, f, g, h, i, j] = .nx [a, some (.fz (.lst (xs.map .int))), some (.fz (.lst (ws.map .str))), d, e, f, g, h, i, j] := by
  obtain ⟨v, iv⟩ : ∃ v, ixD (.lst (xs.map .int)) (.int 40) = some (.int v) := num_ix (k := 40) (by omega)
  obtain ⟨q, hq, hq7⟩ := mod_nat v (k := 7) (by omega)
  have hq : v % 7 = q := hq
  have hr : PV.range1 (.int (1 + (q : Int))) = some ((List.range (1 + q)).map fun (i : Nat) => .int i) := by
    have := range1_nat (n := 1 + q) (by omega)
    simpa using this
  obtain ⟨ws, h1, h2, h3⟩ := lcL_ex (b := Bnd.name 4) (t := DenT.yes) (m := Den.call f__law_word (Dens.cons (Den.ix (Den.var 1) (Den.op2 mulD (Den.c (.int 2)) (Den.var 4))) (Dens.cons (Den.ix (Den.var 1) (Den.op2 addD (Den.op2 mulD (Den.c (.int 2)) (Den.var 4)) (Den.c (.int 1)))) Dens.nil)))
    (env := [a, some (.fz (.lst (xs.map .int))), c, d, none, f, g, h, i, j]) (P := Wd) (ds := (List.range (1 + q)).map fun (i : Nat) => .int i) (by
      intro dd hd
      obtain ⟨k, hk, rfl⟩ := List.mem_map.mp hd
      have hk := List.mem_range.mp hk
      obtain ⟨v1, i1⟩ : ∃ v, ixD (.lst (xs.map .int)) (.int (2 * (k : Int))) = some (.int v) := num_ix (k := 2 * k) (by omega)
      obtain ⟨v2, i2⟩ : ∃ v, ixD (.lst (xs.map .int)) (.int (2 * (k : Int) + 1)) = some (.int v) := num_ix (k := 2 * k + 1) (by omega)
      obtain ⟨w, ww, hw⟩ := e_law_word v1 v2
      have hmu : mulD (.int 2) (.int (k : Int)) = some (.fz (.int (2 * (k : Int)))) := mul_ii (.inl (by decide))
      refine ⟨_, w, by simp; rfl, rfl, ?_, ww⟩
      simp [hmu, i1, add_ii, i2, hw])
  refine ⟨ws, by rw [h1]; simp, by rw [h1]; simp; omega, h2, ?_⟩
  simp [s_law_13, iv, intD, modD, hq, add_ii, hr, oI, wipeE, h3]
end K53
end PV

set_option Elab.async false
set_option linter.all false
set_option maxRecDepth 100000
set_option maxHeartbeats 1000000
namespace PV
namespace K53
open PySem PySem.Spec PyProof.Rows L2
theorem fr' {L : List (List Nat)} : (T.frzL (L.map fun w => T.fz (.str w))) = L.map .str := T.frzL_map' _ _
theorem ixN_nat {n k : Nat} (h : k < n) : ixN n (k : Int) = some k := by
  unfold ixN
  rw [if_pos (by omega), if_pos (by omega)]
  simp
theorem s12 {xs : List Int} {ws : List (List Nat)} (hx : xs.length = 60) (h1 : 1 ≤ ws.length) (h7 : ws.length ≤ 7) (ww : ∀ w ∈ ws, Wd w) {a d e f g h : Option T} :
    ∃ (us : List (List Nat)) (i j : Option T), 1 ≤ us.length ∧ us.length ≤ 12 ∧ (∀ w ∈ us, Wd w) ∧ s_law_12 [a, some (.fz (.lst (xs.map .int))), some (.fz (.lst (ws.map .str))), d, e, f, g, h, none, none] = .nx [a, some (.fz (.lst (xs.map .int))), some (.fz (.lst (us.map .str))), d, e, f, g, h, i, j] := by
  obtain ⟨v41, i41⟩ : ∃ v, ixD (.lst (xs.map .int)) (.int 41) = some (.int v) := num_ix (k := 41) (by omega)
  obtain ⟨v44, i44⟩ : ∃ v, ixD (.lst (xs.map .int)) (.int 44) = some (.int v) := num_ix (k := 44) (by omega)
  obtain ⟨v45, i45⟩ : ∃ v, ixD (.lst (xs.map .int)) (.int 45) = some (.int v) := num_ix (k := 45) (by omega)
  obtain ⟨w0, iw0, mw0⟩ : ∃ w0, ixD (.lst (ws.map .str)) (.int 0) = some (.str w0) ∧ w0 ∈ ws := ⟨ws[0], ix_strs (k := 0) (List.getElem?_eq_getElem (by omega)), List.getElem_mem _⟩
  by_cases h41 : 0 < v41 % 3
  · obtain ⟨ls, wl, l1, l10, hls⟩ := e_law_formed xs ws hx (by omega) ww
    obtain ⟨p, hp, hpl⟩ := mod_nat v44 (k := ls.length) (by omega)
    have hne : ls ≠ [] := by intro z; rw [z] at l1; simp at l1
    have hmod : modD (.int v44) (.int (ls.length : Int)) = some (.fz (.int (p : Int))) := by
      rw [modD, if_pos (by omega), hp]
    have hm6 : modD (.int v45) (.int 6) = some (.fz (.int (v45 % 6))) := by simp [modD]
    have hm3 : modD (.int v41) (.int 3) = some (.fz (.int (v41 % 3))) := by simp [modD]
    by_cases q0 : v45 % 6 = 0
    · refine ⟨ls.set p w0, some (.fz (.lst ((ls.set p w0).map .str))), some (.fz (.int p)), by simp; omega, by simp; omega, fun w hw => ?_, ?_⟩
      rotate_left
      · have hs : T.frzL ((ls.map fun w => T.fz (.str w)).set p (.fz (.str w0))) = (ls.map .str).set p (.str w0) := by
          have : (ls.map fun w => T.fz (.str w)).set p (.fz (.str w0)) = (ls.set p w0).map fun w => T.fz (.str w) := by rw [List.map_set]
          rw [this, fr', List.map_set]
        simp [s_law_12, i41, i44, i45, intD, hm3, h41, hls, T.strs, fr', hmod, hm6, q0, iw0, ixN_nat hpl, hs, frzAt]
      · rcases List.mem_or_eq_of_mem_set hw with h | h
        · exact wl w h
        · rw [h]; exact ww _ mw0
    · by_cases q1 : v45 % 6 = 1 ∧ 1 < ls.length
      · have hs : slD (.lst (ls.map .str)) none (some (p : Int)) = some (T.of ((ls.take p).map .str)) := by
          show some (T.of (cut (ls.map .str) none (some (p : Int)))) = _
          rw [cut_map, cut_to]
        have hs2 : slD (.lst (ls.map .str)) (some ((p : Int) + 1)) none = some (T.of ((ls.drop (p + 1)).map .str)) := by
          show some (T.of (cut (ls.map .str) (some ((p + 1 : Nat) : Int)) none)) = _
          rw [cut_map, cut_from]
        have ha : addD (.lst ((ls.take p).map .str)) (.lst ((ls.drop (p + 1)).map .str)) = some (T.of ((ls.take p ++ ls.drop (p + 1)).map .str)) := by
          rw [add_ll (by simp; omega)]
          simp
        refine ⟨ls.take p ++ ls.drop (p + 1), some (.fz (.lst ((ls.take p ++ ls.drop (p + 1)).map .str))), some (.fz (.int p)), by simp; omega, by simp; omega, fun w hw => ?_, ?_⟩
        rotate_left
        · simp [s_law_12, i41, i44, i45, intD, hm3, h41, hls, T.strs, fr', hmod, hm6, q1.1, show (1 : Int) < ls.length by omega, iw0, frzAt, hs, hs2, add_ii, ← List.map_take, ← List.map_drop, ha]
        · rcases List.mem_append.mp hw with h | h
          · exact wl w (List.mem_of_mem_take h)
          · exact wl w (List.mem_of_mem_drop h)
      · by_cases q2 : v45 % 6 = 2
        · refine ⟨ls ++ [w0], some (.fz (.lst ((ls ++ [w0]).map .str))), some (.fz (.int p)), by simp, by simp; omega, fun w hw => ?_, ?_⟩
          rotate_left
          · simp [s_law_12, i41, i44, i45, intD, hm3, h41, hls, T.strs, fr', hmod, hm6, q2, iw0, frzAt, show ls.length < 16777216 by omega]
            have := fr' (L := ls ++ [w0])
            simpa using this
          · rcases List.mem_append.mp hw with h | h
            · exact wl w h
            · rw [List.mem_singleton.mp h]; exact ww _ mw0
        · refine ⟨ls, some (.fz (.lst ((ls).map .str))), some (.fz (.int p)), l1, by omega, wl, ?_⟩
          by_cases q1' : v45 % 6 = 1
          · have hn1 : ¬ 1 < ls.length := fun z => q1 ⟨q1', z⟩
            simp [s_law_12, i41, i44, i45, intD, hm3, h41, hls, T.strs, fr', hmod, hm6, q1', show ¬ (1 : Int) < ls.length by omega, frzAt]
          · simp [s_law_12, i41, i44, i45, intD, hm3, h41, hls, T.strs, fr', hmod, hm6, q0, q1', q2, frzAt]
  · refine ⟨ws, none, none, h1, by omega, ww, ?_⟩
    have hm3 : modD (.int v41) (.int 3) = some (.fz (.int (v41 % 3))) := by simp [modD]
    simp [s_law_12, i41, intD, hm3, h41]
end K53
end PV

set_option Elab.async false
set_option linter.all false
set_option maxRecDepth 100000
set_option maxHeartbeats 1000000
namespace PV
namespace K53
open PySem PySem.Spec PyProof.Rows L2
theorem val_fold : ∀ (cs : List Nat) (acc : Nat), (∀ c ∈ cs, c ≤ 57) → cs.foldl (fun acc c => acc * 10 + (c - 48)) acc < (acc + 1) * 10 ^ cs.length
  | [], acc, _ => by simp
  | c :: cs, acc, h => by
    have ih := val_fold cs (acc * 10 + (c - 48)) fun x hx => h x (List.mem_cons_of_mem _ hx)
    have hc := h c List.mem_cons_self
    simp only [List.foldl_cons, List.length_cons]
    refine Nat.lt_of_lt_of_le ih ?_
    rw [Nat.pow_succ, Nat.mul_comm (10 ^ cs.length) 10, ← Nat.mul_assoc]
    exact Nat.mul_le_mul_right _ (by omega)
theorem val_lt {s : List Nat} (h : isNum s = true) : (val s).natAbs < 10 ^ 6 := by
  simp only [isNum, Bool.and_eq_true, decide_eq_true_eq, List.all_eq_true] at h
  obtain ⟨⟨h1, h2⟩, h3, _⟩ := h
  have := val_fold s 0 fun c hc => (memB_dig (h3 c hc)).2
  have h4 : 10 ^ s.length ≤ 10 ^ 6 := Nat.pow_le_pow_right (by omega) h2
  show ((NumText.digitsVal s : Nat) : Int).natAbs < 10 ^ 6
  unfold NumText.digitsVal
  simp only [Int.natAbs_natCast]
  omega
theorem val_log {s : List Nat} (h : isNum s = true) : (val s).natAbs.log2 < 100 := by
  have h1 := val_lt h
  by_cases h0 : (val s).natAbs = 0
  · rw [h0]; decide
  · rw [Nat.log2_lt h0]
    exact Nat.lt_of_lt_of_le h1 (by decide)
theorem rep_len_w {w : List Nat} (h : Wd w) : (reprText (S w)).length ≤ 142 := by
  have := StrLaws.reprText_len (S w) (fun c hc => by
    rw [S_list] at hc
    have := h.all c hc
    unfold okc at this
    simp at this
    omega)
  rw [S_len] at this
  have := h.len
  omega
theorem rep3 {x y z : Str} (hx : x.length ≤ 2000) (hy : y.length ≤ 2000) (hz : z.length ≤ 2000) : (tupleText [x, y, z]).length ≤ 16777216 := by
  have := fmt_text [x, y, z]
  simp [piled] at this
  omega
theorem repOk_1 {w b : List Nat} {v : Int} (hw : Wd w) (hb : Wd b) (hv : v.natAbs.log2 < 100) : (D.tup [.str w, .int v, .str b]).repOk = true := by
  have h2 : (toString v : Str).length ≤ 1001 := by
    have := int_text_length_le (k := 100) (by omega) hv
    show (Str.ofString (toString v)).length ≤ 1001
    rw [PySem.ofString_length]
    omega
  have := rep3 (x := reprText (S w)) (y := (toString v : Str)) (z := reprText (S b)) (by have := rep_len_w hw; omega) (by omega) (by have := rep_len_w hb; omega)
  have this : (tupleText [reprText (S w), Str.ofString v.repr, reprText (S b)]).length ≤ 16777216 := this
  simp [D.repOk, D.shp, D.shpL, D.pd, D.pdL, PyData.showable, PyData.showableAll, PyData.shown, PyData.shownAll, show v.natAbs.log2 < 1920 by omega, this]
theorem repOk_2 {w b : List Nat} {v : Int} (hw : Wd w) (hb : Wd b) (hv : v.natAbs.log2 < 100) : (D.tup [.str w, .str b, .int v]).repOk = true := by
  have h2 : (toString v : Str).length ≤ 1001 := by
    have := int_text_length_le (k := 100) (by omega) hv
    show (Str.ofString (toString v)).length ≤ 1001
    rw [PySem.ofString_length]
    omega
  have := rep3 (x := reprText (S w)) (y := reprText (S b)) (z := (toString v : Str)) (by have := rep_len_w hw; omega) (by have := rep_len_w hb; omega) (by omega)
  have this : (tupleText [reprText (S w), reprText (S b), Str.ofString v.repr]).length ≤ 16777216 := this
  simp [D.repOk, D.shp, D.shpL, D.pd, D.pdL, PyData.showable, PyData.showableAll, PyData.shown, PyData.shownAll, show v.natAbs.log2 < 1920 by omega, this]
theorem repOk_non : D.non.repOk = true := by
  simp [D.repOk, D.shp, D.pd, PyData.showable, PyData.shown]
  decide
theorem rowD_ok {w : List Nat} {ws : List (List Nat)} (hw : Wd w) (hs : ∀ v ∈ ws, Wd v) : (rowD w ws).repOk = true := by
  unfold rowD
  split
  · rename_i a b
    have ha := hs a (by simp)
    have hb := hs b (by simp)
    split
    · split
      · rename_i h
        simp only [Bool.and_eq_true] at h
        exact repOk_1 hw hb (val_log h.1)
      · exact repOk_non
    · split
      · split
        · rename_i h
          simp only [Bool.and_eq_true] at h
          exact repOk_2 hw ha (val_log h.2)
        · exact repOk_non
      · exact repOk_non
  · exact repOk_non
end K53
end PV

set_option Elab.async false
set_option linter.all false
set_option maxRecDepth 100000
set_option maxHeartbeats 1000000
namespace PV
namespace K53
open PySem PySem.Spec PyProof.Rows L2
theorem e_sp (s : List Nat) (h : s.length ≤ 16777214) : f_split_words [.str s] = .ok (T.strs (sp s)) := by
  rw [e_split_words s h, ← strs_of]
  rfl
section
variable {xs : List Int} {ws : List (List Nat)} {a b c d e f g h i j : Option T}
theorem s11 (hx : xs.length = 60) : ∃ n : Nat, n < 3 ∧ s_law_11 [a, some (.fz (.lst (xs.map .int))), c, d, e, f, g, h, i, j] = .nx [a, some (.fz (.lst (xs.map .int))), c, some (.fz (.str (List.replicate n 32))), e, f, g, h, i, j] := by
  obtain ⟨v, iv⟩ : ∃ v, ixD (.lst (xs.map .int)) (.int 46) = some (.int v) := num_ix (k := 46) (by omega)
  obtain ⟨q, hq, hq3⟩ := mod_nat v (k := 3) (by omega)
  have hq : v % 3 = q := hq
  refine ⟨q, hq3, ?_⟩
  simp [s_law_11, iv, intD, modD, hq, mul_sp (n := q) (by omega)]
theorem s10 (hx : xs.length = 60) (ww : ∀ w ∈ ws, Wd w) (hl : ws.length ≤ 20) {acc : List Nat} (ha : acc.length ≤ 10) : ∃ s e', Spaced ws s ∧ s.length ≤ 400 ∧ s_law_10 [a, some (.fz (.lst (xs.map .int))), some (.fz (.lst (ws.map .str))), some (.fz (.str acc)), e, f, g, h, i, j] = .nx [a, some (.fz (.lst (xs.map .int))), some (.fz (.lst (ws.map .str))), some (.fz (.str (acc ++ s))), e', f, g, h, i, j] := by
  obtain ⟨s, e', h1, h2, h3⟩ := text_loop (a := a) (e := f) (f := g) (g := h) (h := i) (i := j) hx ww hl ws.length 0 acc e (by omega) (by omega)
  refine ⟨s, e', by simpa using h2, by omega, ?_⟩
  rw [← List.range_eq_range'] at h1
  have hr := range1_nat (n := ws.length) (by omega)
  simp [s_law_10, hr, oI]
  exact h1
theorem s8 (hx : xs.length = 60) {t : List Nat} (ht : t.length ≤ 1000) : ∃ n : Nat, n < 3 ∧ s_law_8 [a, some (.fz (.lst (xs.map .int))), c, some (.fz (.str t)), e, f, g, h, i, j] = .nx [a, some (.fz (.lst (xs.map .int))), c, some (.fz (.str (t ++ List.replicate n 32))), e, f, g, h, i, j] := by
  obtain ⟨v, iv⟩ : ∃ v, ixD (.lst (xs.map .int)) (.int 49) = some (.int v) := num_ix (k := 49) (by omega)
  obtain ⟨q, hq, hq3⟩ := mod_nat v (k := 3) (by omega)
  have hq : v % 3 = q := hq
  refine ⟨q, hq3, ?_⟩
  have e2 : addD (.str t) (.str (List.replicate q 32)) = some (.fz (.str (t ++ List.replicate q 32))) := add_ss (by simp; omega)
  simp [s_law_8, iv, intD, modD, hq, mul_sp (n := q) (by omega), e2]
theorem s7 {t : List Nat} (ht : t.length ≤ 1000) (hs : sp t = ws) : s_law_7 [a, b, c, some (.fz (.str t)), e, f, g, h, i, j] = .nx [a, b, c, some (.fz (.str t)), e, some (.fz (.lst (ws.map .str))), g, h, i, j] := by
  have := e_sp t (by omega)
  rw [hs] at this
  simp [s_law_7, this]
theorem isi_list {xs : List D} : isiD (.lst xs) (.ty "list") = some (.fz (.bl true)) := by
  have : kitB "list" "list" = some true := by decide +kernel
  simp [isiD, tyD, this]
theorem isi_bool {b : Bool} : isiD (.bl b) (.ty "bool") = some (.fz (.bl true)) := by
  have : kitB "bool" "bool" = some true := by decide +kernel
  simp [isiD, tyD, this]
theorem s6 (hx : xs.length = 60) : s_law_6 [a, some (.fz (.lst (xs.map .int))), some (.fz (.lst (ws.map .str))), d, e, some (.fz (.lst (ws.map .str))), g, h, i, j] = .nx [a, some (.fz (.lst (xs.map .int))), some (.fz (.lst (ws.map .str))), d, e, some (.fz (.lst (ws.map .str))), g, h, i, j] := by
  obtain ⟨v, iv⟩ : ∃ v, ixD (.lst (xs.map .int)) (.int 50) = some (.int v) := num_ix (k := 50) (by omega)
  obtain ⟨q, hq, hq4⟩ := mod_nat v (k := 4) (by omega)
  have hq : v % 4 = q := hq
  have hsp := e_sp (List.replicate q 32) (by simp; omega)
  have hnil : sp (List.replicate q 32) = [] := by
    have := sp_blanks q []
    simpa [sp_nil] using this
  rw [hnil] at hsp
  have hne := neD_ls (xs := ([] : List (List Nat))) (ys := [])
  simp at hne
  simp [s_law_6, isi_list, iv, intD, modD, hq, mul_sp (n := q) (by omega), hsp, hne]
theorem s5 : s_law_5 [a, b, c, d, e, f, g, h, i, j] = .nx [a, b, c, d, e, f, g, h, i, j] := by
  have hsp := e_sp [97, 9, 98, 32, 9] (by decide)
  have hs : sp [97, 9, 98, 32, 9] = [[97, 9, 98], [9]] := by decide
  rw [hs] at hsp
  have hne := neD_ls (xs := [[97, 9, 98], [9]]) (ys := [[97, 9, 98], [9]])
  simp at hne
  simp [s_law_5, hsp, hne]
theorem s4 : s_law_4 [a, b, some (.fz (.lst (ws.map .str))), d, e, f, g, h, i, j] = .nx [a, b, some (.fz (.lst (ws.map .str))), d, e, f, some (.fz (.lst (ws.map .str))), h, i, j] := by
  simp [s_law_4, listD]
theorem s3 (ww : ∀ w ∈ ws, Wd w) (hl : 1 ≤ ws.length) : s_law_3 [a, b, some (.fz (.lst (ws.map .str))), d, e, f, some (.fz (.lst (ws.map .str))), h, i, j] = .nx [a, b, some (.fz (.lst (ws.map .str))), d, e, f, some (.fz (.lst (ws.map .str))), h, i, j] := by
  match ws, hl with
  | w :: r, _ =>
    have h1 := e_row_of w r
    have h2 := e_law_row_due w r
    have h3 := rowD_ok (ww w (by simp)) fun v hv => ww v (List.mem_cons_of_mem _ hv)
    have hf : ∀ d, fin [Rv.val (.fz (.lst (.str w :: r.map .str)))] (some (T.fz d)) = .ok (.val (.fz d)) := fun d => fin_clean rfl
    simp [s_law_3, h1, h2, hf, h3]
theorem s2 (hl : 1 ≤ ws.length) : s_law_2 [a, b, c, d, e, f, some (.fz (.lst (ws.map .str))), h, i, j] = .nx [a, b, c, d, e, f, some (.fz (.lst (ws.map .str))), some (.fz (.bl (isCmd ws))), i, j] := by
  match ws, hl with
  | w :: r, _ =>
    have h1 := e_is_command w r
    simp [s_law_2, h1]
theorem s1 (hl : 1 ≤ ws.length) : s_law_1 [a, b, some (.fz (.lst (ws.map .str))), d, e, f, some (.fz (.lst (ws.map .str))), some (.fz (.bl (isCmd ws))), i, j] = .ret (.fz (.bl true)) := by
  match ws, hl with
  | w :: r, _ =>
    have h1 := e_law_command w r
    have h2 := eqD_ls (xs := w :: r) (ys := w :: r)
    have h3 : ∀ b : Bool, eqD (.bl b) (.bl b) = some (.fz (.bl true)) := fun b => by cases b <;> rfl
    simp at h2
    simp [s_law_1, isi_bool, h1, h2, h3]
end
theorem law_true : ∀ ns : List Int, ns.length ≤ 63 → fnOf N_law.length m_law [.scr ns] = .ok (.fz (.bl true)) := by
  intro ns hl
  obtain ⟨xs, hx, e14⟩ := s14 hl (b := none) (c := none) (d := none) (e := none) (f := none) (g := none) (h := none) (i := none) (j := none)
  obtain ⟨ws, h1, h7, ww, e13⟩ := s13 hx (a := some (.fz (.scr ns))) (c := none) (d := none) (e := none) (f := none) (g := none) (h := none) (i := none) (j := none)
  obtain ⟨us, i, j, u1, u12, uw, e12⟩ := s12 hx h1 h7 ww (a := some (.fz (.scr ns))) (d := none) (e := none) (f := none) (g := none) (h := none)
  obtain ⟨n, hn, e11⟩ := s11 hx (a := some (.fz (.scr ns))) (c := some (.fz (.lst (us.map .str)))) (d := none) (e := none) (f := none) (g := none) (h := none) (i := i) (j := j)
  obtain ⟨s, e', hs, hsl, e10⟩ := s10 hx uw (by omega) (acc := List.replicate n 32) (by simp; omega) (a := some (.fz (.scr ns))) (e := none) (f := none) (g := none) (h := none) (i := i) (j := j)
  obtain ⟨m, hm, e8⟩ := s8 hx (t := List.replicate n 32 ++ s) (by simp; omega) (a := some (.fz (.scr ns))) (c := some (.fz (.lst (us.map .str)))) (e := e') (f := none) (g := none) (h := none) (i := i) (j := j)
  have hsp : sp (List.replicate n 32 ++ s ++ List.replicate m 32) = us := by
    rw [List.append_assoc, sp_blanks]
    exact hs.sp uw m
  have e7 := s7 (t := List.replicate n 32 ++ s ++ List.replicate m 32) (by simp; omega) hsp (a := some (.fz (.scr ns))) (b := some (.fz (.lst (xs.map .int)))) (c := some (.fz (.lst (us.map .str)))) (e := e') (f := none) (g := none) (h := none) (i := i) (j := j)
  show (m_law [some (.fz (.scr ns)), none, none, none, none, none, none, none, none, none]).out = _
  unfold m_law
  rw [ev_sseq, e14, thn_nx, ev_sseq, e13, thn_nx, ev_sseq, e12, thn_nx, ev_sseq, e11, thn_nx, ev_sseq, e10, thn_nx, ev_sseq, e8, thn_nx, ev_sseq, e7, thn_nx, ev_sseq, s6 hx, thn_nx, ev_sseq, s5, thn_nx, ev_sseq, s4, thn_nx, ev_sseq, s3 uw u1, thn_nx, ev_sseq, s2 u1, thn_nx, s1 u1]
  rfl
end K53
end PV

set_option Elab.async false
set_option linter.all false
set_option maxRecDepth 100000
set_option maxHeartbeats 0
namespace PV
namespace K53
open PySem PySem.Spec PyProof.Rows L2
/-! ### the head -/
def fa : List He.Fa := [.glo "is_name", .glo "is_number", .glo "split_words", .glo "has_form", .glo "is_command", .glo "row_of", .glo "_law_row", .glo "_law_numbers", .glo "_law_word", .glo "_law_is_name", .glo "_law_is_number", .glo "_law_form", .glo "_law_has_form", .glo "_law_command", .glo "_law_row_due", .glo "_law_formed", .glo "law", .glo "FORMS", .free "abs", .free "all", .free "bool", .free "int", .free "isinstance", .free "len", .free "list", .free "max", .free "range", .free "repr", .free "zip", .str "NAME_CHARS" "abcdefghijklmnopqrstuvwxyz0123456789", .int "MOST_NAME_CHARS" 12, .str "DIGITS" "0123456789", .int "MOST_DIGITS" 6]
def dd_is_name : He.DefD := ⟨("is_name", none), "is_name", "is_name", defArgs st_is_name, defBody st_is_name, defScope st_is_name, [], []⟩
def dd_is_number : He.DefD := ⟨("is_number", none), "is_number", "is_number", defArgs st_is_number, defBody st_is_number, defScope st_is_number, [], []⟩
def dd_split_words : He.DefD := ⟨("split_words", none), "split_words", "split_words", defArgs st_split_words, defBody st_split_words, defScope st_split_words, [], []⟩
def dd_has_form : He.DefD := ⟨("has_form", none), "has_form", "has_form", defArgs st_has_form, defBody st_has_form, defScope st_has_form, [], []⟩
def dd_is_command : He.DefD := ⟨("is_command", none), "is_command", "is_command", defArgs st_is_command, defBody st_is_command, defScope st_is_command, [], []⟩
def dd_row_of : He.DefD := ⟨("row_of", none), "row_of", "row_of", defArgs st_row_of, defBody st_row_of, defScope st_row_of, [], []⟩
def dd__law_row : He.DefD := ⟨("_law_row", none), "_law_row", "_law_row", defArgs st__law_row, defBody st__law_row, defScope st__law_row, [], []⟩
def dd__law_numbers : He.DefD := ⟨("_law_numbers", none), "_law_numbers", "_law_numbers", defArgs st__law_numbers, defBody st__law_numbers, defScope st__law_numbers, [], []⟩
def dd__law_word : He.DefD := ⟨("_law_word", none), "_law_word", "_law_word", defArgs st__law_word, defBody st__law_word, defScope st__law_word, [], []⟩
def dd__law_is_name : He.DefD := ⟨("_law_is_name", none), "_law_is_name", "_law_is_name", defArgs st__law_is_name, defBody st__law_is_name, defScope st__law_is_name, [], []⟩
def dd__law_is_number : He.DefD := ⟨("_law_is_number", none), "_law_is_number", "_law_is_number", defArgs st__law_is_number, defBody st__law_is_number, defScope st__law_is_number, [], []⟩
def dd__law_form : He.DefD := ⟨("_law_form", none), "_law_form", "_law_form", defArgs st__law_form, defBody st__law_form, defScope st__law_form, [], []⟩
def dd__law_has_form : He.DefD := ⟨("_law_has_form", none), "_law_has_form", "_law_has_form", defArgs st__law_has_form, defBody st__law_has_form, defScope st__law_has_form, [], []⟩
def dd__law_command : He.DefD := ⟨("_law_command", none), "_law_command", "_law_command", defArgs st__law_command, defBody st__law_command, defScope st__law_command, [], []⟩
def dd__law_row_due : He.DefD := ⟨("_law_row_due", none), "_law_row_due", "_law_row_due", defArgs st__law_row_due, defBody st__law_row_due, defScope st__law_row_due, [], []⟩
def dd__law_formed : He.DefD := ⟨("_law_formed", none), "_law_formed", "_law_formed", defArgs st__law_formed, defBody st__law_formed, defScope st__law_formed, [], []⟩
def dd_law : He.DefD := ⟨("law", none), "law", "law", defArgs st_law, defBody st_law, defScope st_law, [], []⟩
def fn : List He.DefD := [dd_is_name, dd_is_number, dd_split_words, dd_has_form, dd_is_command, dd_row_of, dd__law_row, dd__law_numbers, dd__law_word, dd__law_is_name, dd__law_is_number, dd__law_form, dd__law_has_form, dd__law_command, dd__law_row_due, dd__law_formed, dd_law]
def ts : List He.Tab := [(fun K => He.ga K "FORMS", tab_FORMS.map fun q => S q.1)]
def ex (K : PySem.W.Frag) : Bool := tabB K "FORMS" tab_FORMS
theorem fx_of {w : World} {K : PySem.W.Frag} {h : Heap} {mg : Str → Option Value} (X : K.In h) (G : h.Ns mainGlobals mg) (c : He.SaysX fa fn ts [] ex w h K) : Fx w K mg where
  d_is_name := by
    obtain ⟨fd, F⟩ := c.t.d.def_ 0 (d := dd_is_name) rfl
    exact ⟨_, fd, F, He.glo_ok X G (c.t.d.fact 0 (f := .glo "is_name") rfl)⟩
  d_is_number := by
    obtain ⟨fd, F⟩ := c.t.d.def_ 1 (d := dd_is_number) rfl
    exact ⟨_, fd, F, He.glo_ok X G (c.t.d.fact 1 (f := .glo "is_number") rfl)⟩
  d_split_words := by
    obtain ⟨fd, F⟩ := c.t.d.def_ 2 (d := dd_split_words) rfl
    exact ⟨_, fd, F, He.glo_ok X G (c.t.d.fact 2 (f := .glo "split_words") rfl)⟩
  d_has_form := by
    obtain ⟨fd, F⟩ := c.t.d.def_ 3 (d := dd_has_form) rfl
    exact ⟨_, fd, F, He.glo_ok X G (c.t.d.fact 3 (f := .glo "has_form") rfl)⟩
  d_is_command := by
    obtain ⟨fd, F⟩ := c.t.d.def_ 4 (d := dd_is_command) rfl
    exact ⟨_, fd, F, He.glo_ok X G (c.t.d.fact 4 (f := .glo "is_command") rfl)⟩
  d_row_of := by
    obtain ⟨fd, F⟩ := c.t.d.def_ 5 (d := dd_row_of) rfl
    exact ⟨_, fd, F, He.glo_ok X G (c.t.d.fact 5 (f := .glo "row_of") rfl)⟩
  d__law_row := by
    obtain ⟨fd, F⟩ := c.t.d.def_ 6 (d := dd__law_row) rfl
    exact ⟨_, fd, F, He.glo_ok X G (c.t.d.fact 6 (f := .glo "_law_row") rfl)⟩
  d__law_numbers := by
    obtain ⟨fd, F⟩ := c.t.d.def_ 7 (d := dd__law_numbers) rfl
    exact ⟨_, fd, F, He.glo_ok X G (c.t.d.fact 7 (f := .glo "_law_numbers") rfl)⟩
  d__law_word := by
    obtain ⟨fd, F⟩ := c.t.d.def_ 8 (d := dd__law_word) rfl
    exact ⟨_, fd, F, He.glo_ok X G (c.t.d.fact 8 (f := .glo "_law_word") rfl)⟩
  d__law_is_name := by
    obtain ⟨fd, F⟩ := c.t.d.def_ 9 (d := dd__law_is_name) rfl
    exact ⟨_, fd, F, He.glo_ok X G (c.t.d.fact 9 (f := .glo "_law_is_name") rfl)⟩
  d__law_is_number := by
    obtain ⟨fd, F⟩ := c.t.d.def_ 10 (d := dd__law_is_number) rfl
    exact ⟨_, fd, F, He.glo_ok X G (c.t.d.fact 10 (f := .glo "_law_is_number") rfl)⟩
  d__law_form := by
    obtain ⟨fd, F⟩ := c.t.d.def_ 11 (d := dd__law_form) rfl
    exact ⟨_, fd, F, He.glo_ok X G (c.t.d.fact 11 (f := .glo "_law_form") rfl)⟩
  d__law_has_form := by
    obtain ⟨fd, F⟩ := c.t.d.def_ 12 (d := dd__law_has_form) rfl
    exact ⟨_, fd, F, He.glo_ok X G (c.t.d.fact 12 (f := .glo "_law_has_form") rfl)⟩
  d__law_command := by
    obtain ⟨fd, F⟩ := c.t.d.def_ 13 (d := dd__law_command) rfl
    exact ⟨_, fd, F, He.glo_ok X G (c.t.d.fact 13 (f := .glo "_law_command") rfl)⟩
  d__law_row_due := by
    obtain ⟨fd, F⟩ := c.t.d.def_ 14 (d := dd__law_row_due) rfl
    exact ⟨_, fd, F, He.glo_ok X G (c.t.d.fact 14 (f := .glo "_law_row_due") rfl)⟩
  d__law_formed := by
    obtain ⟨fd, F⟩ := c.t.d.def_ 15 (d := dd__law_formed) rfl
    exact ⟨_, fd, F, He.glo_ok X G (c.t.d.fact 15 (f := .glo "_law_formed") rfl)⟩
  d_law := by
    obtain ⟨fd, F⟩ := c.t.d.def_ 16 (d := dd_law) rfl
    exact ⟨_, fd, F, He.glo_ok X G (c.t.d.fact 16 (f := .glo "law") rfl)⟩
  t_FORMS := by
    have e := congrArg (fun z : He.AlT => z.2) c.t
    have hx : tabB K "FORMS" tab_FORMS = true := by have := c.more; simpa [ex] using this
    exact tbl_of (He.glo_ok X G (c.t.d.fact 17 (f := .glo "FORMS") rfl)) (by simpa [He.obsT, He.valT, ts] using e) hx
  n_abs := He.free_ok X G (c.t.d.fact 18 (f := .free "abs") rfl)
  n_all := He.free_ok X G (c.t.d.fact 19 (f := .free "all") rfl)
  n_bool := He.free_ok X G (c.t.d.fact 20 (f := .free "bool") rfl)
  n_int := He.free_ok X G (c.t.d.fact 21 (f := .free "int") rfl)
  n_isinstance := He.free_ok X G (c.t.d.fact 22 (f := .free "isinstance") rfl)
  n_len := He.free_ok X G (c.t.d.fact 23 (f := .free "len") rfl)
  n_list := He.free_ok X G (c.t.d.fact 24 (f := .free "list") rfl)
  n_max := He.free_ok X G (c.t.d.fact 25 (f := .free "max") rfl)
  n_range := He.free_ok X G (c.t.d.fact 26 (f := .free "range") rfl)
  n_repr := He.free_ok X G (c.t.d.fact 27 (f := .free "repr") rfl)
  n_zip := He.free_ok X G (c.t.d.fact 28 (f := .free "zip") rfl)
  g_NAME_CHARS := He.str_ok X G (c.t.d.fact 29 (f := .str "NAME_CHARS" "abcdefghijklmnopqrstuvwxyz0123456789") rfl)
  g_MOST_NAME_CHARS := He.int_ok X G (c.t.d.fact 30 (f := .int "MOST_NAME_CHARS" 12) rfl)
  g_DIGITS := He.str_ok X G (c.t.d.fact 31 (f := .str "DIGITS" "0123456789") rfl)
  g_MOST_DIGITS := He.int_ok X G (c.t.d.fact 32 (f := .int "MOST_DIGITS" 6) rfl)
theorem law_at {w : World} {K : PySem.W.Frag} {mg : Str → Option Value} {base : Heap} {f : Addr} {fd : FuncData} (fx : Fx w K mg)
    (F : FunD K "law" "law" (defArgs st_law) (defBody st_law) (defScope st_law) [] [] f fd) : FnAt Pr w K mg base callerA f fd ["_law_script"] (spLaw K 63) := by
  have c_is_name := ok_is_name (base := base) fx
  have c_is_number := ok_is_number (base := base) fx
  have c_split_words := ok_split_words (base := base) fx
  have c__law_row := ok__law_row (base := base) fx
  have c__law_word := ok__law_word (base := base) fx
  have c__law_is_name := ok__law_is_name (base := base) fx
  have c__law_is_number := ok__law_is_number (base := base) fx
  have c__law_form := ok__law_form (base := base) fx
  have c_has_form := ok_has_form (base := base) fx c_is_name c_is_number
  have c__law_numbers := ok__law_numbers (base := base) fx c__law_row
  have c__law_has_form := ok__law_has_form (base := base) fx c__law_is_number c__law_is_name
  have c__law_formed := ok__law_formed (base := base) fx c__law_form c__law_is_number c__law_is_name
  have c_is_command := ok_is_command (base := base) fx c_is_name c_has_form
  have c_row_of := ok_row_of (base := base) fx c_has_form
  have c__law_command := ok__law_command (base := base) fx c__law_form c__law_has_form c__law_is_name
  have c__law_row_due := ok__law_row_due (base := base) fx c__law_has_form
  exact law_ok (k := 4) F sc_law ⟨rfl, by decide, by decide⟩ (fun cdv outer s H F0 E hr => d_law fx c__law_command c_is_command c_row_of c__law_row_due c_split_words c__law_formed c__law_word c__law_numbers hr) law_true
end K53
end PV
open PySem PySem.W PySem.Calls PyProof.Rows
theorem PySem.Challenge.cw_everyfire_k53_words_of_a_session_holds : PySem.Challenge.rw_everyfire_k53_words_of_a_session.Holds := by
  w_on; o_law; k_head; (case hw => w_witness2)
  k_fill
  refine PV.walk_A (l := PySem.Challenge.rw_everyfire_k53_words_of_a_session) (n := 63) (x := "_law_script") rfl (by decide) rfl ?F
  case F =>
    intro w mg fa h Y G hmg
    have KX := PySem.W.kIn_of Y
    have fx := PV.K53.fx_of KX G ⟨by show He.obsT PV.K53.fa PV.K53.fn PV.K53.ts _ = He.valT PV.K53.fn PV.K53.ts w; kernel_rfl, by kernel_rfl, fun p hp => (nomatch hp), fun p hp => (nomatch hp), fun p hp => (nomatch hp)⟩
    obtain ⟨f, fd, F, hf⟩ := fx.d_law
    have e := hmg.symm.trans hf
    cases e
    have b := L2.FunD.bindsA (ps := ["_law_script"]) F fun _ _ _ _ _ _ us hl => match us, hl with | [_], _ => rfl
    exact ⟨_, fd, PV.spLaw _ 63, KX, fun s v => b s [v] rfl, fun H a ns hl hO hS => ⟨a, ns, rfl, hl, hO, hS, fun _ => rfl⟩, fun base _ _ => PV.K53.law_at fx F⟩

