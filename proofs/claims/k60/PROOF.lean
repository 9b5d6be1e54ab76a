import PyProof.Rows.All
import Wide.All
import OpenK.AllK
import Wide.FinOn
import HandS.ForMost
import HandS.ForExc
import HandS.Lambda
import HandS.Wide
import HandS.IsInst
import HandS.Conv
import HandS.TryMany
import HandS.ExcSuper
import KE.GoesEnum
import HandS.Zip
import KE.KExcSuper
import KE.KSuper
import HandS.SortOrd
import HandS.SortRule
import HandS.TupLe
import KE.KNestM
import KE.KLam
import HandS.EndTab
import HandS.Defaults
import PySem.Challenge.RW_portstell_k60_walks_step_by_step
set_option Elab.async false
set_option linter.all false
set_option maxRecDepth 100000
set_option maxHeartbeats 4000000
/-! L3a: the hand layer read over plain data: tuples (and lists that nobody changes any more) are values; only lists and dicts that may still change stand in a heap. -/
namespace L3
open PySem PySem.Spec PyProof.Rows L2

inductive PV where
  | non | bl (b : Bool) | int (i : Int) | str (s : Str)
  | tup (xs : List PV)
  | fl (xs : List PV)
  | ref (a : Addr)

inductive HV where
  | lst (xs : List PV)
  | dic (kvs : List (Key × PV))

abbrev Hq := Addr → Option HV
abbrev VQ := PV → Hq → Prop
def up (h : Hq) (a : Addr) (o : HV) : Hq := fun b => if b = a then some o else h b
theorem up_same {h : Hq} {a : Addr} {o : HV} : up h a o a = some o := by unfold up; rw [if_pos rfl]
theorem up_ne {h : Hq} {a b : Addr} {o : HV} (e : b ≠ a) : up h a o b = h b := by unfold up; rw [if_neg e]
theorem up_up {h : Hq} {a : Addr} {o u : HV} : up (up h a o) a u = up h a u := by
  funext b; unfold up; split <;> rfl
def Sub (h h' : Hq) : Prop := ∀ a o, h a = some o → h' a = some o
theorem Sub.refl (h : Hq) : Sub h h := fun _ _ e => e
theorem Sub.trans {a b c : Hq} (x : Sub a b) (y : Sub b c) : Sub a c := fun p o e => y p o (x p o e)
theorem Sub.up {h : Hq} {a : Addr} {o : HV} (n : h a = none) : Sub h (up h a o) := fun b u e => by
  rw [up_ne]
  · exact e
  · intro z; rw [z, n] at e; cases e
theorem Sub.none {h h' : Hq} (s : Sub h h') {a : Addr} (n : h' a = none) : h a = none := by
  cases q : h a with
  | none => rfl
  | some o => rw [s a o q] at n; cases n

section
variable (K : PySem.W.Frag) (F : Addr → Prop) (H : Hp)
/-- a tuple that is written in the module -/
def KTup (a : Addr) (vs : List V) : Prop := ∃ (o : Obj) (its : Array Value) (n : Nat), K.lookup a = some o ∧ o.cls = .type "tuple" ∧ o.data = .seq its n ∧ its.size ≤ sizeLine ∧ Vals vs its.toList
def Tp (a : Addr) (vs : List V) : Prop := (F a ∧ Rd H a (.tup vs)) ∨ KTup K a vs
def Ls (a : Addr) (vs : List V) : Prop := F a ∧ Rd H a (.lst vs)
mutual
inductive Rep : PV → V → Prop
  | non : Rep .non .non
  | bl (b : Bool) : Rep (.bl b) (.bl b)
  | int (i : Int) : Rep (.int i) (.int i)
  | str (s : Str) : Rep (.str s) (.str s)
  | ref (a : Addr) : Rep (.ref a) (.ref a)
  | tup {xs : List PV} {a : Addr} {vs : List V} : Tp K F H a vs → Reps xs vs → Rep (.tup xs) (.ref a)
  | fl {xs : List PV} {a : Addr} {vs : List V} : Ls F H a vs → Reps xs vs → Rep (.fl xs) (.ref a)
inductive Reps : List PV → List V → Prop
  | nil : Reps [] []
  | cons {x : PV} {v : V} {xs : List PV} {vs : List V} : Rep x v → Reps xs vs → Reps (x :: xs) (v :: vs)
end
end

theorem Tp.seq {K : PySem.W.Frag} {F : Addr → Prop} {H : Hp} {a : Addr} {vs : List V} (t : Tp K F H a vs) : SqT K H a vs := by
  rcases t with ⟨_, t⟩ | t
  · exact .inl t
  · exact .inr t
theorem Ls.seq {K : PySem.W.Frag} {F : Addr → Prop} {H : Hp} {a : Addr} {vs : List V} (t : Ls F H a vs) : SqL K H a vs := .inl t.2

def HRep (K : PySem.W.Frag) (F : Addr → Prop) (H : Hp) : HV → HO → Prop
  | .lst xs, .lst vs => Reps K F H xs vs
  | .dic kvs, .dK kws => Paired (fun (p : Key × PV) (q : Key × V) => p.1 = q.1 ∧ Rep K F H p.2 q.2) kvs kws
  | _, _ => False
def isT : HO → Bool
  | .tbl _ => true
  | _ => false
def isTE : HO → Bool
  | .tbl _ => true
  | .ext _ => true
  | _ => false
abbrev TL := List (Addr × Str)
theorem tabs_keep {T : TL} {H H' : Hp} (t : LamX.Tabs T H) (k : ∀ a o, isTE o = true → H a = some o → H' a = some o) : LamX.Tabs T H' := fun p hp => by
  obtain ⟨ps, h1, h2, h3⟩ := t p hp
  refine ⟨ps, k _ _ rfl h1, h2, fun pos cv hc => ?_⟩
  obtain ⟨c, e1, e2⟩ := h3 pos cv hc
  exact ⟨c, e1, k _ _ rfl e2⟩
theorem tabs_upd {T : TL} {H : Hp} {p : Addr} {o : HO} (t : LamX.Tabs T H) (n : ∀ u, H p = some u → isTE u = false) : LamX.Tabs T (upd H p o) := tabs_keep t fun a u e q => by
  rw [upd_ne]
  · exact q
  · intro z
    subst z
    rw [n u q] at e; cases e
structure HSim (K : PySem.W.Frag) (T : TL) (F : Addr → Prop) (h : Hq) (H : Hp) : Prop where
  at_ : ∀ a o, h a = some o → ¬ F a ∧ ∃ u, H a = some u ∧ HRep K F H o u
  fz : ∀ a, F a → ∃ o, H a = some o ∧ isT o = false
  tb : LamX.Tabs T H
theorem HRep.nt {K : PySem.W.Frag} {F : Addr → Prop} {H : Hp} {o : HV} {u : HO} (r : HRep K F H o u) : isTE u = false := by
  cases o <;> cases u <;> first | rfl | exact r.elim
/-- what a step keeps: what was frozen, and every tracked object that was not in view -/
structure Step (F : Addr → Prop) (h : Hq) (H : Hp) (F' : Addr → Prop) (h' : Hq) (H' : Hp) : Prop where
  fr : ∀ a, F a → F' a
  kp : ∀ a o, isT o = false → H a = some o → h a = none → H' a = some o ∧ h' a = none
  nf : ∀ a, F' a → F a ∨ ∀ o, isT o = false → H a = some o → h a ≠ none
theorem Step.refl (F : Addr → Prop) (h : Hq) (H : Hp) : Step F h H F h H := ⟨fun _ z => z, fun _ _ _ e n => ⟨e, n⟩, fun _ z => .inl z⟩
theorem Step.trans {F F1 F2 : Addr → Prop} {h h1 h2 : Hq} {H H1 H2 : Hp} (a : Step F h H F1 h1 H1) (b : Step F1 h1 H1 F2 h2 H2) : Step F h H F2 h2 H2 :=
  ⟨fun p z => b.fr p (a.fr p z), fun p o i e n => let ⟨e1, n1⟩ := a.kp p o i e n; b.kp p o i e1 n1, fun p z => by
    rcases b.nf p z with z | z
    · exact a.nf p z
    · exact .inr fun o i e n => let ⟨e1, n1⟩ := a.kp p o i e n; z o i e1 n1⟩
/-- a hidden thing is written -/
theorem Step.poke {F F1 : Addr → Prop} {h h1 : Hq} {H H1 : Hp} (a : Step F h H F1 h1 H1) {p : Addr} {o : HO} (n : ∀ u, isT u = false → H p = some u → h p ≠ none) : Step F h H F1 h1 (upd H1 p o) :=
  ⟨a.fr, fun q u i e m => by
    obtain ⟨e1, n1⟩ := a.kp q u i e m
    refine ⟨?_, n1⟩
    rw [upd_ne]
    · exact e1
    · intro z; subst z; exact n u i e m, a.nf⟩

section
variable {K : PySem.W.Frag} {T : TL} {F F' : Addr → Prop} {h h' : Hq} {H H' : Hp}
theorem HSim.out (S : HSim K T F h H) {a : Addr} (f : F a) : h a = none := by
  cases q : h a with
  | none => rfl
  | some o => exact absurd f (S.at_ a o q).1
theorem Step.same (S : HSim K T F h H) (t : Step F h H F' h' H') {a : Addr} (f : F a) : H' a = H a := by
  obtain ⟨o, e, i⟩ := S.fz a f
  rw [(t.kp a o i e (S.out f)).1, e]
theorem Tp.step (S : HSim K T F h H) (t : Step F h H F' h' H') {a : Addr} {vs : List V} (x : Tp K F H a vs) : Tp K F' H' a vs := by
  rcases x with ⟨f, x⟩ | x
  · refine .inl ⟨t.fr a f, ?_⟩
    have e := t.same S f
    rcases x with x | ⟨o, x⟩
    · exact .inl (e.trans x)
    · exact .inr ⟨o, e.trans x⟩
  · exact .inr x
theorem Ls.step (S : HSim K T F h H) (t : Step F h H F' h' H') {a : Addr} {vs : List V} (x : Ls F H a vs) : Ls F' H' a vs := by
  obtain ⟨f, x⟩ := x
  refine ⟨t.fr a f, ?_⟩
  have e := t.same S f
  rcases x with x | ⟨o, x⟩
  · exact .inl (e.trans x)
  · exact .inr ⟨o, e.trans x⟩
mutual
theorem Rep.step (S : HSim K T F h H) (t : Step F h H F' h' H') : ∀ {x : PV} {v : V}, Rep K F H x v → Rep K F' H' x v
  | _, _, .non => .non
  | _, _, .bl b => .bl b
  | _, _, .int i => .int i
  | _, _, .str s => .str s
  | _, _, .ref a => .ref a
  | _, _, .tup a b => .tup (a.step S t) (Reps.step S t b)
  | _, _, .fl a b => .fl (a.step S t) (Reps.step S t b)
theorem Reps.step (S : HSim K T F h H) (t : Step F h H F' h' H') : ∀ {xs : List PV} {vs : List V}, Reps K F H xs vs → Reps K F' H' xs vs
  | _, _, .nil => .nil
  | _, _, .cons a b => .cons (Rep.step S t a) (Reps.step S t b)
end
theorem Reps.length : ∀ {xs : List PV} {vs : List V}, Reps K F H xs vs → xs.length = vs.length
  | _, _, .nil => rfl
  | _, _, .cons _ b => by rw [List.length_cons, List.length_cons, Reps.length b]
theorem Reps.get : ∀ {xs : List PV} {vs : List V} {i : Nat} {x : PV}, Reps K F H xs vs → xs[i]? = some x → ∃ v, vs[i]? = some v ∧ Rep K F H x v
  | _, _, _, _, .nil, e => by simp at e
  | _, _, 0, _, .cons r _, e => by simp at e; subst e; exact ⟨_, rfl, r⟩
  | _, _, i + 1, x, .cons _ t, e => by
    obtain ⟨u, h1, h2⟩ := Reps.get (i := i) (x := x) t (by simpa using e)
    exact ⟨u, by simpa using h1, h2⟩
theorem Reps.got : ∀ {xs : List PV} {vs : List V} {i : Nat} {v : V}, Reps K F H xs vs → vs[i]? = some v → ∃ x, xs[i]? = some x ∧ Rep K F H x v
  | _, _, _, _, .nil, e => by simp at e
  | _, _, 0, _, .cons r _, e => by simp at e; subst e; exact ⟨_, rfl, r⟩
  | _, _, i + 1, x, .cons _ t, e => by
    obtain ⟨u, h1, h2⟩ := Reps.got (i := i) t (by simpa using e)
    exact ⟨u, by simpa using h1, h2⟩
theorem Reps.set {x : PV} {u : V} (r : Rep K F H x u) : ∀ {xs : List PV} {us : List V} (i : Nat), Reps K F H xs us → Reps K F H (xs.set i x) (us.set i u)
  | _, _, _, .nil => .nil
  | _, _, 0, .cons _ t => .cons r t
  | _, _, i + 1, .cons q t => .cons q (Reps.set r i t)
theorem Reps.append : ∀ {xs ys : List PV} {us ws : List V}, Reps K F H xs us → Reps K F H ys ws → Reps K F H (xs ++ ys) (us ++ ws)
  | _, _, _, _, .nil, s => s
  | _, _, _, _, .cons r t, s => .cons r (Reps.append t s)
theorem Reps.one {x : PV} {v : V} (r : Rep K F H x v) : Reps K F H [x] [v] := .cons r .nil
theorem Reps.drop : ∀ {xs : List PV} {us : List V} (n : Nat), Reps K F H xs us → Reps K F H (xs.drop n) (us.drop n)
  | _, _, 0, r => r
  | _, _, _ + 1, .nil => .nil
  | _, _, n + 1, .cons _ t => Reps.drop n t
theorem Reps.take : ∀ {xs : List PV} {us : List V} (n : Nat), Reps K F H xs us → Reps K F H (xs.take n) (us.take n)
  | _, _, 0, _ => .nil
  | _, _, _ + 1, .nil => .nil
  | _, _, n + 1, .cons r t => .cons r (Reps.take n t)
theorem Reps.eraseIdx : ∀ {xs : List PV} {us : List V} (n : Nat), Reps K F H xs us → Reps K F H (xs.eraseIdx n) (us.eraseIdx n)
  | _, _, _, .nil => .nil
  | _, _, 0, .cons _ t => t
  | _, _, n + 1, .cons r t => .cons r (Reps.eraseIdx n t)
theorem Reps.reverse : ∀ {xs : List PV} {us : List V}, Reps K F H xs us → Reps K F H xs.reverse us.reverse
  | _, _, .nil => .nil
  | _, _, .cons r t => by rw [List.reverse_cons, List.reverse_cons]; exact (Reps.reverse t).append (.one r)
theorem Reps.replicate {x : PV} {u : V} (r : Rep K F H x u) : ∀ n : Nat, Reps K F H (List.replicate n x) (List.replicate n u)
  | 0 => .nil
  | n + 1 => .cons r (Reps.replicate r n)
theorem Reps.ints : ∀ ns : List Int, Reps K F H (ns.map PV.int) (ns.map V.int)
  | [] => .nil
  | n :: r => .cons (.int n) (Reps.ints r)
theorem HRep.step (S : HSim K T F h H) (t : Step F h H F' h' H') {o : HV} {u : HO} (x : HRep K F H o u) : HRep K F' H' o u := by
  cases o with
  | lst xs =>
    cases u with
    | lst vs => exact Reps.step S t x
    | _ => exact x.elim
  | dic kvs =>
    cases u with
    | dK kws => exact Paired.mapP x fun p q z => ⟨z.1, z.2.step S t⟩
    | _ => exact x.elim
theorem HRep.lst_inv {xs : List PV} {u : HO} (x : HRep K F H (.lst xs) u) : ∃ vs, u = .lst vs ∧ Reps K F H xs vs := by
  cases u with
  | lst vs => exact ⟨vs, rfl, x⟩
  | _ => exact x.elim
theorem HRep.dic_inv {kvs : List (Key × PV)} {u : HO} (x : HRep K F H (.dic kvs) u) : ∃ vs, u = .dK vs ∧ Paired (fun (p : Key × PV) (q : Key × V) => p.1 = q.1 ∧ Rep K F H p.2 q.2) kvs vs := by
  cases u with
  | dK vs => exact ⟨vs, rfl, x⟩
  | _ => exact x.elim
theorem HSim.lst (S : HSim K T F h H) {a : Addr} {xs : List PV} (e : h a = some (.lst xs)) : ∃ vs, H a = some (.lst vs) ∧ Reps K F H xs vs := by
  obtain ⟨_, u, e1, r⟩ := S.at_ a _ e
  obtain ⟨vs, rfl, r⟩ := r.lst_inv
  exact ⟨vs, e1, r⟩
theorem HSim.dic (S : HSim K T F h H) {a : Addr} {xs : List (Key × PV)} (e : h a = some (.dic xs)) : ∃ vs, H a = some (.dK vs) ∧ Paired (fun (p : Key × PV) (q : Key × V) => p.1 = q.1 ∧ Rep K F H p.2 q.2) xs vs := by
  obtain ⟨_, u, e1, r⟩ := S.at_ a _ e
  obtain ⟨vs, rfl, r⟩ := r.dic_inv
  exact ⟨vs, e1, r⟩
/-- fewer things in view -/
theorem HSim.sub (S : HSim K T F h H) (s : Sub h' h) : HSim K T F h' H := ⟨fun a o e => S.at_ a o (s a o e), S.fz, S.tb⟩
theorem Step.sub (s : Sub h' h) (F : Addr → Prop) (H : Hp) : Step F h H F h' H := ⟨fun _ z => z, fun a o _ e n => ⟨e, s.none n⟩, fun _ z => .inl z⟩
/-- a list of the heap that nobody changes any more -/
theorem HSim.freeze (S : HSim K T F h H) {a : Addr} {xs : List PV} (e : h a = some (.lst xs)) (s : Sub h' h) (n : h' a = none) :
    HSim K T (fun b => F b ∨ b = a) h' H ∧ Step F h H (fun b => F b ∨ b = a) h' H ∧ Rep K (fun b => F b ∨ b = a) H (.fl xs) (.ref a) := by
  obtain ⟨vs, e1, r⟩ := S.lst e
  have st : Step F h H (fun b => F b ∨ b = a) h' H := ⟨fun _ z => .inl z, fun b o _ q m => ⟨q, s.none m⟩, fun b z => by
    rcases z with z | z
    · exact .inl z
    · exact .inr fun o _ _ m => by rw [z, e] at m; cases m⟩
  refine ⟨⟨fun b o q => ?_, fun b f => ?_, S.tb⟩, st, .fl ⟨.inr rfl, .inl e1⟩ (r.step S st)⟩
  · obtain ⟨nf, u, e2, r2⟩ := S.at_ b o (s b o q)
    refine ⟨fun z => ?_, u, e2, r2.step S st⟩
    rcases z with z | z
    · exact nf z
    · rw [z, n] at q; cases q
  · rcases f with f | f
    · exact S.fz b f
    · rw [f]; exact ⟨_, e1, rfl⟩
/-- a new frozen thing -/
theorem HSim.newF (S : HSim K T F h H) {p : Addr} {o : HO} (n : H p = none) (hi : isT o = false := by rfl) :
    HSim K T (fun b => F b ∨ b = p) h (upd H p o) ∧ Step F h H (fun b => F b ∨ b = p) h (upd H p o) := by
  have st : Step F h H (fun b => F b ∨ b = p) h (upd H p o) := ⟨fun _ z => .inl z, fun b u _ q m => ⟨by rw [upd_ne (ne_of_none q n)]; exact q, m⟩, fun b z => by
    rcases z with z | z
    · exact .inl z
    · exact .inr fun o _ q _ => by rw [z, n] at q; cases q⟩
  refine ⟨⟨fun b u q => ?_, fun b f => ?_, tabs_upd S.tb fun u e => by rw [n] at e; cases e⟩, st⟩
  · obtain ⟨nf, u, e2, r2⟩ := S.at_ b u q
    refine ⟨fun z => ?_, u, by rw [upd_ne (ne_of_none e2 n)]; exact e2, r2.step S st⟩
    rcases z with z | z
    · exact nf z
    · rw [z, n] at e2; cases e2
  · rcases f with f | f
    · obtain ⟨u, e, i⟩ := S.fz b f
      exact ⟨u, by rw [upd_ne (ne_of_none e n)]; exact e, i⟩
    · rw [f]; exact ⟨_, upd_same, hi⟩
theorem HSim.free (S : HSim K T F h H) {p : Addr} (n : H p = none) : h p = none := by
  cases q : h p with
  | none => rfl
  | some o =>
    obtain ⟨_, u, e, _⟩ := S.at_ p o q
    rw [n] at e; cases e
/-- a new thing in view -/
theorem HSim.newO (S : HSim K T F h H) {p : Addr} {o : HV} {u : HO} (n : H p = none) (r : HRep K F H o u) :
    HSim K T F (up h p o) (upd H p u) ∧ Step F h H F (up h p o) (upd H p u) := by
  have st : Step F h H F (up h p o) (upd H p u) := ⟨fun _ z => z, fun b w _ q m => ⟨by rw [upd_ne (ne_of_none q n)]; exact q, by rw [up_ne (ne_of_none q n)]; exact m⟩, fun _ z => .inl z⟩
  refine ⟨⟨fun b w q => ?_, fun b f => ?_, tabs_upd S.tb fun u e => by rw [n] at e; cases e⟩, st⟩
  · by_cases hb : b = p
    · subst hb
      rw [up_same] at q; cases q
      refine ⟨fun f => ?_, u, upd_same, r.step S st⟩
      obtain ⟨w, e, _⟩ := S.fz b f
      rw [n] at e; cases e
    · rw [up_ne hb] at q
      obtain ⟨nf, u, e2, r2⟩ := S.at_ b w q
      exact ⟨nf, u, by rw [upd_ne hb]; exact e2, r2.step S st⟩
  · obtain ⟨w, e, i⟩ := S.fz b f
    exact ⟨w, by rw [upd_ne (ne_of_none e n)]; exact e, i⟩
/-- a thing in view is changed -/
theorem HSim.write (S : HSim K T F h H) {p : Addr} {o o' : HV} {u : HO} (e : h p = some o) (r : HRep K F H o' u) :
    HSim K T F (up h p o') (upd H p u) ∧ Step F h H F (up h p o') (upd H p u) := by
  have st : Step F h H F (up h p o') (upd H p u) := ⟨fun _ z => z, fun b w _ q m => by
    have ne : b ≠ p := fun z => by rw [z, e] at m; cases m
    exact ⟨by rw [upd_ne ne]; exact q, by rw [up_ne ne]; exact m⟩, fun _ z => .inl z⟩
  refine ⟨⟨fun b w q => ?_, fun b f => ?_, tabs_upd S.tb fun w q => ?_⟩, st⟩
  · by_cases hb : b = p
    · subst hb
      rw [up_same] at q; cases q
      exact ⟨(S.at_ b o e).1, u, upd_same, r.step S st⟩
    · rw [up_ne hb] at q
      obtain ⟨nf, u, e2, r2⟩ := S.at_ b w q
      exact ⟨nf, u, by rw [upd_ne hb]; exact e2, r2.step S st⟩
  · have ne : b ≠ p := fun z => by
      have := S.out f
      rw [z, e] at this; cases this
    obtain ⟨w, e, i⟩ := S.fz b f
    exact ⟨w, by rw [upd_ne ne]; exact e, i⟩
  · obtain ⟨_, w', e1, r1⟩ := S.at_ p o e
    rw [e1] at q; cases q
    exact r1.nt
end

section
variable {K : PySem.W.Frag} {T : TL} {F : Addr → Prop} {h : Hq} {H : Hp} {p : Addr} {o : HO}
mutual
theorem Rep.poke (nf : ¬ F p) : ∀ {x : PV} {v : V}, Rep K F H x v → Rep K F (upd H p o) x v
  | _, _, .non => .non
  | _, _, .bl b => .bl b
  | _, _, .int i => .int i
  | _, _, .str s => .str s
  | _, _, .ref a => .ref a
  | _, _, .tup a b => .tup (by
      rcases a with ⟨f, a⟩ | a
      · have ne : _ ≠ p := fun z => nf (z ▸ f)
        rcases a with a | ⟨u, a⟩
        · exact .inl ⟨f, .inl (by rw [upd_ne ne]; exact a)⟩
        · exact .inl ⟨f, .inr ⟨u, by rw [upd_ne ne]; exact a⟩⟩
      · exact .inr a) (Reps.poke nf b)
  | _, _, .fl a b => .fl (by
      obtain ⟨f, a⟩ := a
      have ne : _ ≠ p := fun z => nf (z ▸ f)
      rcases a with a | ⟨u, a⟩
      · exact ⟨f, .inl (by rw [upd_ne ne]; exact a)⟩
      · exact ⟨f, .inr ⟨u, by rw [upd_ne ne]; exact a⟩⟩) (Reps.poke nf b)
theorem Reps.poke (nf : ¬ F p) : ∀ {x : List PV} {v : List V}, Reps K F H x v → Reps K F (upd H p o) x v
  | _, _, .nil => .nil
  | _, _, .cons a b => .cons (Rep.poke nf a) (Reps.poke nf b)
end
theorem HRep.poke (nf : ¬ F p) {x : HV} {u : HO} (r : HRep K F H x u) : HRep K F (upd H p o) x u := by
  cases x with
  | lst xs =>
    cases u with
    | lst vs => exact Reps.poke nf r
    | _ => exact r.elim
  | dic kvs =>
    cases u with
    | dK kws => exact Paired.mapP r fun p q z => ⟨z.1, z.2.poke nf⟩
    | _ => exact r.elim
theorem HSim.poke (S : HSim K T F h H) (nf : ¬ F p) (nh : h p = none) (nt : ∀ u, H p = some u → isTE u = false) : HSim K T F h (upd H p o) := by
  refine ⟨fun b u q => ?_, fun b f => ?_, tabs_upd S.tb nt⟩
  · obtain ⟨nfb, w, e2, r2⟩ := S.at_ b u q
    have ne : b ≠ p := fun z => by rw [z, nh] at q; cases q
    exact ⟨nfb, w, by rw [upd_ne ne]; exact e2, r2.poke nf⟩
  · obtain ⟨u, e, i⟩ := S.fz b f
    exact ⟨u, by rw [upd_ne (show b ≠ p from fun z => nf (by rw [← z]; exact f))]; exact e, i⟩
/-- a hidden thing stays hidden -/
theorem Step.hid {F1 : Addr → Prop} {h1 : Hq} {H1 : Hp} (t : Step F h H F1 h1 H1) {u : HO} (e : H p = some u) (nh : h p = none) (nf : ¬ F p) (i : isT u = false := by rfl) : H1 p = some u ∧ h1 p = none ∧ ¬ F1 p := by
  obtain ⟨e1, n1⟩ := t.kp p u i e nh
  refine ⟨e1, n1, fun f => ?_⟩
  rcases t.nf p f with f | f
  · exact nf f
  · exact f u i e nh
theorem Step.pre {F1 : Addr → Prop} {h1 : Hq} {H1 : Hp} {u : HO} (t : Step F h (upd H p u) F1 h1 H1) (n : H p = none) : Step F h H F1 h1 H1 :=
  ⟨t.fr, fun q w i e m => t.kp q w i (by rw [upd_ne (ne_of_none e n)]; exact e) m, fun a f => by
    rcases t.nf a f with f | f
    · exact .inl f
    · exact .inr fun o i e m => f o i (by rw [upd_ne (ne_of_none e n)]; exact e) m⟩
/-- a hidden thing comes into view -/
theorem HSim.show (S : HSim K T F h H) {x : HV} {u : HO} (nf : ¬ F p) (r : HRep K F H x u) (nt : ∀ u, H p = some u → isTE u = false) : HSim K T F (up h p x) (upd H p u) := by
  refine ⟨fun b w q => ?_, fun b f => ?_, tabs_upd S.tb nt⟩
  · by_cases hb : b = p
    · subst hb
      rw [up_same] at q; cases q
      exact ⟨nf, u, upd_same, r.poke nf⟩
    · rw [up_ne hb] at q
      obtain ⟨nfb, w', e2, r2⟩ := S.at_ b w q
      exact ⟨nfb, w', by rw [upd_ne hb]; exact e2, r2.poke nf⟩
  · obtain ⟨w, e, i⟩ := S.fz b f
    exact ⟨w, by rw [upd_ne (show b ≠ p from fun z => nf (by rw [← z]; exact f))]; exact e, i⟩
theorem Step.show {F1 : Addr → Prop} {h1 : Hq} {H1 : Hp} (t : Step F h H F1 h1 H1) {x : HV} {u : HO} (n : H p = none) : Step F h H F1 (up h1 p x) (upd H1 p u) :=
  ⟨t.fr, fun q w i e m => by
    have ne : q ≠ p := ne_of_none e n
    obtain ⟨e1, n1⟩ := t.kp q w i e m
    exact ⟨by rw [upd_ne ne]; exact e1, by rw [up_ne ne]; exact n1⟩, t.nf⟩
end

/-! ### the slots -/
abbrev Sq := List (Option PV)
structure ESim (K : PySem.W.Frag) (F : Addr → Prop) (H : Hp) (n : Sq) (σ : L2.St) : Prop where
  len : n.length = σ.length
  at_ : ∀ (i : Nat) (x : PV), n[i]? = some (some x) → ∃ v, σ[i]? = some (some v) ∧ Rep K F H x v
section
variable {K : PySem.W.Frag} {T : TL} {F F' : Addr → Prop} {h h' : Hq} {H H' : Hp} {n : Sq} {σ : L2.St}
theorem ESim.step (S : HSim K T F h H) (t : Step F h H F' h' H') (E : ESim K F H n σ) : ESim K F' H' n σ :=
  ⟨E.len, fun i x e => let ⟨v, a, b⟩ := E.at_ i x e; ⟨v, a, b.step S t⟩⟩
theorem ESim.poke {p : Addr} {o : HO} (E : ESim K F H n σ) (nf : ¬ F p) : ESim K F (upd H p o) n σ :=
  ⟨E.len, fun i x e => let ⟨v, a, b⟩ := E.at_ i x e; ⟨v, a, b.poke nf⟩⟩
theorem ESim.set (E : ESim K F H n σ) {i : Nat} {x : PV} {v : V} (r : Rep K F H x v) : ESim K F H (n.set i (some x)) (σ.set i (some v)) := by
  refine ⟨by rw [List.length_set, List.length_set]; exact E.len, fun j y e => ?_⟩
  by_cases hj : i = j
  · subst hj
    by_cases hi : i < n.length
    · rw [List.getElem?_set_self hi] at e
      cases e
      exact ⟨v, by rw [List.getElem?_set_self (by rw [← E.len]; exact hi)], r⟩
    · rw [List.getElem?_eq_none (by rw [List.length_set]; omega)] at e
      cases e
  · rw [List.getElem?_set_ne hj] at e ⊢
    exact E.at_ j y e
end

/-- behind an expression -/
def EPost (K : PySem.W.Frag) (T : TL) (F : Addr → Prop) (h : Hq) (H : Hp) (Q : VQ) : VK := fun v H' => ∃ F' h' x, Step F h H F' h' H' ∧ HSim K T F' h' H' ∧ Rep K F' H' x v ∧ Q x h'
def TPost (K : PySem.W.Frag) (T : TL) (F : Addr → Prop) (h : Hq) (H : Hp) (Q : Bool → Hq → Prop) : Bool → Hp → Prop := fun v H' => ∃ F' h', Step F h H F' h' H' ∧ HSim K T F' h' H' ∧ Q v h'
def APost (K : PySem.W.Frag) (T : TL) (F : Addr → Prop) (h : Hq) (H : Hp) (Q : List PV → Hq → Prop) : List V → Hp → Prop := fun v H' => ∃ F' h' x, Step F h H F' h' H' ∧ HSim K T F' h' H' ∧ Reps K F' H' x v ∧ Q x h'
def NPost (K : PySem.W.Frag) (T : TL) (F : Addr → Prop) (h : Hq) (H : Hp) (Q : Sq → Hq → Prop) : L2.St → Hp → Prop := fun σ H' => ∃ F' h' n, Step F h H F' h' H' ∧ HSim K T F' h' H' ∧ ESim K F' H' n σ ∧ Q n h'
def HPost (K : PySem.W.Frag) (T : TL) (F : Addr → Prop) (h : Hq) (H : Hp) (Q : Hq → Prop) : Hp → Prop := fun H' => ∃ F' h', Step F h H F' h' H' ∧ HSim K T F' h' H' ∧ Q h'
/-- an exception: its class, its one field -/
abbrev XQ := Value → Option (Str × PV) → Hq → Prop
def XRep (K : PySem.W.Frag) (F : Addr → Prop) (H : Hp) : Option (Str × PV) → Option Addr → Prop
  | none, none => True
  | some (f, x), some d => ∃ v, H d = some (.xd [(f, v)]) ∧ F d ∧ Rep K F H x v
  | _, _ => False
def XPost (K : PySem.W.Frag) (T : TL) (F : Addr → Prop) (h : Hq) (H : Hp) (E : XQ) : XK := fun cls d H' => ∃ F' h' x, Step F h H F' h' H' ∧ HSim K T F' h' H' ∧ XRep K F' H' x d ∧ E cls x h'
section
variable {K : PySem.W.Frag} {T : TL} {F F1 : Addr → Prop} {h h1 : Hq} {H H1 : Hp}
theorem EPost.step {Q : VQ} (t : Step F h H F1 h1 H1) {v : V} {H' : Hp} (p : EPost K T F1 h1 H1 Q v H') : EPost K T F h H Q v H' :=
  let ⟨F', h', x, a, b, c, d⟩ := p; ⟨F', h', x, t.trans a, b, c, d⟩
theorem TPost.step {Q : Bool → Hq → Prop} (t : Step F h H F1 h1 H1) {v : Bool} {H' : Hp} (p : TPost K T F1 h1 H1 Q v H') : TPost K T F h H Q v H' :=
  let ⟨F', h', a, b, d⟩ := p; ⟨F', h', t.trans a, b, d⟩
theorem APost.step {Q : List PV → Hq → Prop} (t : Step F h H F1 h1 H1) {v : List V} {H' : Hp} (p : APost K T F1 h1 H1 Q v H') : APost K T F h H Q v H' :=
  let ⟨F', h', x, a, b, c, d⟩ := p; ⟨F', h', x, t.trans a, b, c, d⟩
theorem NPost.step {Q : Sq → Hq → Prop} (t : Step F h H F1 h1 H1) {v : L2.St} {H' : Hp} (p : NPost K T F1 h1 H1 Q v H') : NPost K T F h H Q v H' :=
  let ⟨F', h', x, a, b, c, d⟩ := p; ⟨F', h', x, t.trans a, b, c, d⟩
theorem HPost.step {Q : Hq → Prop} (t : Step F h H F1 h1 H1) {H' : Hp} (p : HPost K T F1 h1 H1 Q H') : HPost K T F h H Q H' :=
  let ⟨F', h', a, b, d⟩ := p; ⟨F', h', t.trans a, b, d⟩
theorem XPost.step {E : XQ} (t : Step F h H F1 h1 H1) {v : Value} {d : Option Addr} {H' : Hp} (p : XPost K T F1 h1 H1 E v d H') : XPost K T F h H E v d H' :=
  let ⟨F', h', x, a, b, c, d⟩ := p; ⟨F', h', x, t.trans a, b, c, d⟩
theorem XPost.imp {E E' : XQ} (i : ∀ c x h, E c x h → E' c x h) {v : Value} {d : Option Addr} {H' : Hp} (p : XPost K T F h H E v d H') : XPost K T F h H E' v d H' :=
  let ⟨F', h', x, a, b, c, d⟩ := p; ⟨F', h', x, a, b, c, i _ _ _ d⟩
theorem EPost.imp {Q Q' : VQ} (i : ∀ x h, Q x h → Q' x h) {v : V} {H' : Hp} (p : EPost K T F h H Q v H') : EPost K T F h H Q' v H' :=
  let ⟨F', h', x, a, b, c, d⟩ := p; ⟨F', h', x, a, b, c, i _ _ d⟩
end

/-! ### the judgements -/
abbrev TQ := Sq → Hq → VQ → Prop
abbrev BQ := Sq → Hq → (Bool → Hq → Prop) → Prop
abbrev AQ := Sq → Hq → (List PV → Hq → Prop) → Prop
structure EndQ where
  nx : Sq → Hq → Prop
  rt : VQ
  bk : Sq → Hq → Prop := fun _ _ => False
  ct : Sq → Hq → Prop := fun _ _ => False
abbrev SQ := EndQ → Sq → Hq → Prop
def DPost (K : PySem.W.Frag) (T : TL) (F : Addr → Prop) (h : Hq) (H : Hp) (D : EndQ) : Ends := ⟨NPost K T F h H D.nx, EPost K T F h H D.rt, NPost K T F h H D.bk, NPost K T F h H D.ct⟩
/-- the ground of a body: where it was entered (an exception that leaves is told from there) -/
structure Gr where
  T : TL
  F : Addr → Prop
  h : Hq
  H : Hp
structure QE (X : Cx) (G : Gr) (e : Expr) (t : TQ) : Prop where
  run : ∀ pins s F h H n σ Q, Inv X pins σ H s → Step G.F G.h G.H F h H → HSim X.K G.T F h H → ESim X.K F H n σ → t n h Q → wpAny (model X.prog X.w) X.A (eval e X.env) (EP X pins σ (EPost X.K G.T F h H Q)) X.xe s
structure QT (X : Cx) (G : Gr) (e : Expr) (t : BQ) : Prop where
  run : ∀ pins s F h H n σ Q, Inv X pins σ H s → Step G.F G.h G.H F h H → HSim X.K G.T F h H → ESim X.K F H n σ → t n h Q → wpAny (model X.prog X.w) X.A (isTrue e X.env (eval e X.env)) (TP X pins σ (TPost X.K G.T F h H Q)) X.xe s
structure QW (X : Cx) (G : Gr) (e : Expr) (t : BQ) : Prop where
  run : ∀ whole pins s F h H n σ Q, Inv X pins σ H s → Step G.F G.h G.H F h H → HSim X.K G.T F h H → ESim X.K F H n σ → t n h Q → wpAny (model X.prog X.w) X.A (isTrue e X.env whole) (TP X pins σ (TPost X.K G.T F h H Q)) X.xe s
structure QA (X : Cx) (G : Gr) (es : List Expr) (t : AQ) : Prop where
  run : ∀ pos pins s F h H n σ Q, Inv X pins σ H s → Step G.F G.h G.H F h H → HSim X.K G.T F h H → ESim X.K F H n σ → t n h Q → wpAny (model X.prog X.w) X.A (spliced (backTo pos (starEach es X.env))) (AP X pins σ (APost X.K G.T F h H Q)) X.xe s
structure QS (X : Cx) (G : Gr) (st : Stmt) (t : SQ) : Prop where
  run : ∀ pins s F h H n σ D, Inv X pins σ H s → Step G.F G.h G.H F h H → HSim X.K G.T F h H → ESim X.K F H n σ → t D n h → wpAny (model X.prog X.w) X.A (exec st X.env) (SP X pins (DPost X.K G.T F h H D)) X.xe s
structure QSs (X : Cx) (G : Gr) (st : List Stmt) (t : SQ) : Prop where
  run : ∀ pins s F h H n σ D, Inv X pins σ H s → Step G.F G.h G.H F h H → HSim X.K G.T F h H → ESim X.K F H n σ → t D n h → wpAny (model X.prog X.w) X.A (execs st X.env) (SP X pins (DPost X.K G.T F h H D)) X.xe s

/-! ### to and fro -/
section
variable (K : PySem.W.Frag) (G : Gr)
def lE (t : TQ) : TE := fun σ H Q => ∃ F h n Q', Step G.F G.h G.H F h H ∧ HSim K G.T F h H ∧ ESim K F H n σ ∧ t n h Q' ∧ ∀ v H', EPost K G.T F h H Q' v H' → Q v H'
def lT (t : BQ) : TT := fun σ H Q => ∃ F h n Q', Step G.F G.h G.H F h H ∧ HSim K G.T F h H ∧ ESim K F H n σ ∧ t n h Q' ∧ ∀ v H', TPost K G.T F h H Q' v H' → Q v H'
def lA (t : AQ) : TA := fun σ H Q => ∃ F h n Q', Step G.F G.h G.H F h H ∧ HSim K G.T F h H ∧ ESim K F H n σ ∧ t n h Q' ∧ ∀ v H', APost K G.T F h H Q' v H' → Q v H'
structure EndsLe (A B : Ends) : Prop where
  nx : ∀ σ H, A.nx σ H → B.nx σ H
  rt : ∀ v H, A.rt v H → B.rt v H
  bk : ∀ σ H, A.bk σ H → B.bk σ H
  ct : ∀ σ H, A.ct σ H → B.ct σ H
def lS (t : SQ) : TS := fun D σ H => ∃ F h n D', Step G.F G.h G.H F h H ∧ HSim K G.T F h H ∧ ESim K F H n σ ∧ t D' n h ∧ EndsLe (DPost K G.T F h H D') D
end
theorem SP.le {X : Cx} {pins : List (Addr × Obj)} {A B : Ends} (l : EndsLe A B) {f : Flow} {s : Shared} (h : SP X pins A f s) : SP X pins B f s := by
  cases f with
  | next => obtain ⟨σ, H, I, q⟩ := h; exact ⟨σ, H, I, l.nx _ _ q⟩
  | brk => obtain ⟨σ, H, I, q⟩ := h; exact ⟨σ, H, I, l.bk _ _ q⟩
  | cont => obtain ⟨σ, H, I, q⟩ := h; exact ⟨σ, H, I, l.ct _ _ q⟩
  | ret u => obtain ⟨v, σ, H, I, r, q⟩ := h; exact ⟨v, σ, H, I, r, l.rt _ _ q⟩
section
variable {X : Cx} {G : Gr}
theorem QE.pe {e : Expr} {t : TQ} (q : QE X G e t) : PE X e (lE X.K G t) := by
  refine ⟨fun pins s σ H Q I ⟨F, h, n, Q', a, b, c, d, f⟩ => ?_⟩
  exact thn (q.run pins s F h H n σ Q' I a b c d) fun u s' ⟨v, H', I', r, p⟩ => ⟨v, H', I', r, f _ _ p⟩
theorem QT.pt {e : Expr} {t : BQ} (q : QT X G e t) : PT X e (lT X.K G t) := by
  refine ⟨fun pins s σ H Q I ⟨F, h, n, Q', a, b, c, d, f⟩ => ?_⟩
  exact thn (q.run pins s F h H n σ Q' I a b c d) fun u s' ⟨H', I', p⟩ => ⟨H', I', f _ _ p⟩
theorem QW.pw {e : Expr} {t : BQ} (q : QW X G e t) : PW X e (lT X.K G t) := by
  refine ⟨fun wh pins s σ H Q I ⟨F, h, n, Q', a, b, c, d, f⟩ => ?_⟩
  exact thn (q.run wh pins s F h H n σ Q' I a b c d) fun u s' ⟨H', I', p⟩ => ⟨H', I', f _ _ p⟩
theorem QA.pa {e : List Expr} {t : AQ} (q : QA X G e t) : PA X e (lA X.K G t) := by
  refine ⟨fun pos pins s σ H Q I ⟨F, h, n, Q', a, b, c, d, f⟩ => ?_⟩
  exact thn (q.run pos pins s F h H n σ Q' I a b c d) fun u s' ⟨v, H', I', r, p⟩ => ⟨v, H', I', r, f _ _ p⟩
theorem QS.ps {e : Stmt} {t : SQ} (q : QS X G e t) : PS X e (lS X.K G t) := by
  refine ⟨fun pins s σ H D I ⟨F, h, n, Q', a, b, c, d, f⟩ => ?_⟩
  exact thn (q.run pins s F h H n σ Q' I a b c d) fun u s' p => SP.le f p
theorem QSs.pss {e : List Stmt} {t : SQ} (q : QSs X G e t) : PSs X e (lS X.K G t) := by
  refine ⟨fun pins s σ H D I ⟨F, h, n, Q', a, b, c, d, f⟩ => ?_⟩
  exact thn (q.run pins s F h H n σ Q' I a b c d) fun u s' p => SP.le f p
theorem QE.of {e : Expr} {t : TQ} {te : TE} (p : PE X e te) (f : ∀ F h H n σ Q, Step G.F G.h G.H F h H → HSim X.K G.T F h H → ESim X.K F H n σ → t n h Q → te σ H (EPost X.K G.T F h H Q)) : QE X G e t :=
  ⟨fun pins s F h H n σ Q I a b c d => p.run pins s σ H _ I (f F h H n σ Q a b c d)⟩
theorem QT.of {e : Expr} {t : BQ} {te : TT} (p : PT X e te) (f : ∀ F h H n σ Q, Step G.F G.h G.H F h H → HSim X.K G.T F h H → ESim X.K F H n σ → t n h Q → te σ H (TPost X.K G.T F h H Q)) : QT X G e t :=
  ⟨fun pins s F h H n σ Q I a b c d => p.run pins s σ H _ I (f F h H n σ Q a b c d)⟩
theorem QW.of {e : Expr} {t : BQ} {te : TT} (p : PW X e te) (f : ∀ F h H n σ Q, Step G.F G.h G.H F h H → HSim X.K G.T F h H → ESim X.K F H n σ → t n h Q → te σ H (TPost X.K G.T F h H Q)) : QW X G e t :=
  ⟨fun wh pins s F h H n σ Q I a b c d => p.run wh pins s σ H _ I (f F h H n σ Q a b c d)⟩
theorem QA.of {e : List Expr} {t : AQ} {te : TA} (p : PA X e te) (f : ∀ F h H n σ Q, Step G.F G.h G.H F h H → HSim X.K G.T F h H → ESim X.K F H n σ → t n h Q → te σ H (APost X.K G.T F h H Q)) : QA X G e t :=
  ⟨fun pos pins s F h H n σ Q I a b c d => p.run pos pins s σ H _ I (f F h H n σ Q a b c d)⟩
theorem QS.of {e : Stmt} {t : SQ} {te : TS} (p : PS X e te) (f : ∀ F h H n σ D, Step G.F G.h G.H F h H → HSim X.K G.T F h H → ESim X.K F H n σ → t D n h → te (DPost X.K G.T F h H D) σ H) : QS X G e t :=
  ⟨fun pins s F h H n σ Q I a b c d => p.run pins s σ H _ I (f F h H n σ Q a b c d)⟩
theorem QSs.of {e : List Stmt} {t : SQ} {te : TS} (p : PSs X e te) (f : ∀ F h H n σ D, Step G.F G.h G.H F h H → HSim X.K G.T F h H → ESim X.K F H n σ → t D n h → te (DPost X.K G.T F h H D) σ H) : QSs X G e t :=
  ⟨fun pins s F h H n σ Q I a b c d => p.run pins s σ H _ I (f F h H n σ Q a b c d)⟩
end
theorem DPost.le {K : PySem.W.Frag} {T : TL} {F F1 : Addr → Prop} {h h1 : Hq} {H H1 : Hp} (t : Step F h H F1 h1 H1) (D : EndQ) : EndsLe (DPost K T F1 h1 H1 D) (DPost K T F h H D) :=
  ⟨fun _ _ p => NPost.step t p, fun _ _ p => EPost.step t p, fun _ _ p => NPost.step t p, fun _ _ p => NPost.step t p⟩
end L3

/-! L3b: expressions. -/
namespace L3
open PySem PySem.Spec PyProof.Rows L2

section
variable {X : Cx} {G : Gr} {e a b c : Expr} {t ta tb : TQ} {pos : Pos}

/-! ### names, constants -/
def varQ (i : Nat) : TQ := fun n h Q => ∃ x, n[i]? = some (some x) ∧ Q x h
def cQ (x : PV) : TQ := fun _ h Q => Q x h
theorem qv (i : Nat) {x : Str} {pos : Pos} (hN : X.N[i]? = some x := by rfl) (hv : Vis X.env.scope x := by first | exact Or.inl rfl | exact Or.inr (Or.inl rfl) | exact Or.inr (Or.inr rfl)) (hd : (x == ("__debug__" : Str)) = false := by decide)
    (hcd : (x == ("__classdict__" : Str)) = false := by decide) : QE X G (.Name x pos) (varQ i) := by
  refine QE.of (pe_var hN hv hd hcd) fun F h H n σ Q s S E hq => ?_
  obtain ⟨x, e, q⟩ := hq
  obtain ⟨v, e1, r⟩ := E.at_ i x e
  exact ⟨v, e1, F, h, x, .refl _ _ _, S, r, q⟩
theorem qe_con {te : TE} {x : PV} {v : V} (p : PE X e te) (hte : te = tC v) (r : ∀ F H, Rep X.K F H x v) : QE X G e (cQ x) := by
  subst hte
  exact QE.of p fun F h H n σ Q s S E hq => ⟨F, h, x, .refl _ _ _, S, r F H, hq⟩
theorem qe_int {i j} : QE X G (.Constant (.int i) j pos) (cQ (.int i)) := qe_con pe_int rfl fun _ _ => .int i
theorem qe_bl {b j} : QE X G (.Constant (.bool b) j pos) (cQ (.bl b)) := qe_con pe_bl rfl fun _ _ => .bl b
theorem qe_non {j} : QE X G (.Constant .none j pos) (cQ .non) := qe_con pe_non rfl fun _ _ => .non
theorem qe_str {x j} : QE X G (.Constant (.str x) j pos) (cQ (.str x)) := qe_con pe_str rfl fun _ _ => .str x
/-- a module's constant -/
theorem qe_glob {x : Str} {y : PV} {v : V} {u : Value} (hg : Gl X x) (hm : X.mg x = some u) (r : RelV v u) (q : ∀ F H, Rep X.K F H y v) (hd : (x == ("__debug__" : Str)) = false := by decide) : QE X G (.Name x pos) (cQ y) :=
  qe_con (pe_glob hg hm r hd) rfl q

/-! ### operators -/
abbrev O2 := PV → PV → Hq → VQ → Prop
structure OpQ (X : Cx) (f : Value → Value → Sem Value) (q : O2) : Prop where
  run : ∀ {T : TL} pins s σ F h H x y v w vv ww Q, Inv X pins σ H s → HSim X.K T F h H → Rep X.K F H x v → Rep X.K F H y w → RelV v vv → RelV w ww → q x y h Q → wpAny (model X.prog X.w) X.A (f vv ww) (EP X pins σ (EPost X.K T F h H Q)) X.xe s
theorem OpQ.of {f : Value → Value → Sem Value} {q : O2} {r : R2} (p : OpR X f r) (i : ∀ {T : TL} F h H x y v w Q, HSim X.K T F h H → Rep X.K F H x v → Rep X.K F H y w → q x y h Q → r v w H (EPost X.K T F h H Q)) : OpQ X f q :=
  ⟨fun pins s σ F h H x y v w vv ww Q I S rx ry r1 r2 hq => p pins s σ H v w vv ww _ I r1 r2 (i F h H x y v w Q S rx ry hq)⟩
def lO (K : PySem.W.Frag) (T : TL) (q : O2) : R2 := fun v w H R => ∃ F h x y Q, HSim K T F h H ∧ Rep K F H x v ∧ Rep K F H y w ∧ q x y h Q ∧ ∀ v' H', EPost K T F h H Q v' H' → R v' H'
theorem OpQ.opr {f : Value → Value → Sem Value} {q : O2} {T : TL} (p : OpQ X f q) : OpR X f (lO X.K T q) := by
  intro pins s σ H v w vv ww R I r1 r2 ⟨F, h, x, y, Q, S, rx, ry, hq, k⟩
  exact thn (p.run pins s σ F h H x y v w vv ww Q I S rx ry r1 r2 hq) fun u s' ⟨v', H', I', r', pp⟩ => ⟨v', H', I', r', k _ _ pp⟩
theorem OpQ.or {f : Value → Value → Sem Value} {q q' : O2} (p : OpQ X f q) (p' : OpQ X f q') : OpQ X f (fun x y h Q => q x y h Q ∨ q' x y h Q) :=
  ⟨fun pins s σ F h H x y v w vv ww Q I S rx ry r1 r2 hq => by
    rcases hq with hq | hq
    · exact p.run pins s σ F h H x y v w vv ww Q I S rx ry r1 r2 hq
    · exact p'.run pins s σ F h H x y v w vv ww Q I S rx ry r1 r2 hq⟩
def opQ (q : O2) (ta tb : TQ) : TQ := fun n h Q => ta n h fun x h1 => tb n h1 fun y h2 => q x y h2 Q
/-- two expressions, then a two-place thing -/
theorem two {ta tb : TQ} {q : O2} {F : Addr → Prop} {h : Hq} {H : Hp} {n : Sq} {σ : L2.St} {Q : VQ} (s : Step G.F G.h G.H F h H) (S : HSim X.K G.T F h H) (E : ESim X.K F H n σ) (hq : ta n h fun x h1 => tb n h1 fun y h2 => q x y h2 Q) :
    lE X.K G ta σ H fun v1 H1 => lE X.K G tb σ H1 fun v2 H2 => lO X.K G.T q v1 v2 H2 (EPost X.K G.T F h H Q) := by
  refine ⟨F, h, n, _, s, S, E, hq, fun v1 H1 ⟨F1, h1, x, t1, S1, r1, q1⟩ => ?_⟩
  refine ⟨F1, h1, n, _, s.trans t1, S1, E.step S t1, q1, fun v2 H2 ⟨F2, h2, y, t2, S2, r2, q2⟩ => ?_⟩
  exact ⟨F2, h2, x, y, Q, S2, r1.step S1 t2, r2, q2, fun v' H' p => EPost.step (t1.trans t2) p⟩
theorem qe_op {op : Operator} {q : O2} (ho : OpQ X (binaryOp op) q) (ha : QE X G a ta) (hb : QE X G b tb) : QE X G (.BinOp a op b pos) (opQ q ta tb) :=
  QE.of (pe_op ho.opr ha.pe hb.pe) fun F h H n σ Q s S E hq => two s S E hq
theorem qe_cmp {op : CmpOp} {q : O2} (ho : OpQ X (compareOp op) q) (ha : QE X G a ta) (hb : QE X G b tb) (h1 : behindInMarks op b = false := by first | exact nobehind _ (by decide) (by decide) | rfl) : QE X G (.Compare a [op] [b] pos) (opQ q ta tb) :=
  QE.of (pe_cmpR ho.opr ha.pe hb.pe h1) fun F h H n σ Q s S E hq => two s S E hq
/-- an expression that is a bool, as a test -/
def bQ (t : TQ) : BQ := fun n h Q => t n h fun x h1 => ∃ k, x = .bl k ∧ Q k h1
theorem qt_cmp {op : CmpOp} {q : O2} (ho : OpQ X (compareOp op) q) (ha : QE X G a ta) (hb : QE X G b tb) (h1 : behindInMarks op b = false := by first | exact nobehind _ (by decide) (by decide) | rfl) : QT X G (.Compare a [op] [b] pos) (bQ (opQ q ta tb)) := by
  refine QT.of (pt_cmpR (ho.opr (T := G.T)) ha.pe hb.pe h1) fun F h H n σ Q s S E hq => ?_
  refine ⟨F, h, n, _, s, S, E, hq, fun v1 H1 ⟨F1, h1, x, t1, S1, r1, q1⟩ => ?_⟩
  refine ⟨F1, h1, n, _, s.trans t1, S1, E.step S t1, q1, fun v2 H2 ⟨F2, h2, y, t2, S2, r2, q2⟩ => ?_⟩
  refine ⟨F2, h2, x, y, _, S2, r1.step S1 t2, r2, q2, fun v' H' ⟨F3, h3, z, t3, S3, r3, k, ez, q3⟩ => ?_⟩
  subst ez
  cases r3
  exact ⟨k, rfl, F3, h3, (t1.trans t2).trans t3, S3, q3⟩
theorem qt_val (ha : QE X G a t) (he : ∀ whole, isTrue a X.env whole = (do let v ← whole; standAt a.pos; holding [v] (truthy v)) := by intro _; rfl) : QT X G a (bQ t) := by
  refine QT.of (pt_val ha.pe he) fun F h H n σ Q s S E hq => ?_
  refine ⟨F, h, n, _, s, S, E, hq, fun v1 H1 ⟨F1, h1, x, t1, S1, r1, k, ez, q1⟩ => ?_⟩
  subst ez
  cases r1
  exact ⟨k, rfl, F1, h1, t1, S1, q1⟩
structure UnQ (X : Cx) (f : Value → Sem Value) (q : PV → VQ → Hq → Prop) : Prop where
  run : ∃ r, UnR X f r ∧ ∀ x v H R h, (∃ i, x = PV.int i ∧ v = V.int i) → q x (fun y h' => ∃ j, y = PV.int j ∧ R (V.int j) H) h → r v H R
/-- -a -/
def negQ (ta : TQ) : TQ := fun n h Q => ta n h fun x h1 => ∃ i, x = .int i ∧ Q (.int (-i)) h1
theorem qe_neg (ha : QE X G a ta) : QE X G (.UnaryOp .USub a pos) (negQ ta) := by
  refine QE.of (pe_un un_neg ha.pe) fun F h H n σ Q s S E hq => ?_
  refine ⟨F, h, n, _, s, S, E, hq, fun v1 H1 ⟨F1, h1, x, t1, S1, r1, i, ez, q1⟩ => ?_⟩
  subst ez
  cases r1
  exact ⟨i, rfl, F1, h1, _, t1, S1, .int _, q1⟩

def I2 (C : Int → Int → Prop) (g : Int → Int → PV) : O2 := fun x y h Q => ∃ i j, x = .int i ∧ y = .int j ∧ C i j ∧ Q (g i j) h
def I20 (g : Int → Int → PV) : O2 := fun x y h Q => ∃ i j, x = .int i ∧ y = .int j ∧ Q (g i j) h
theorem OpQ.ints {f : Value → Value → Sem Value} {C : Int → Int → Prop} {g : Int → Int → V} {g' : Int → Int → PV} (p : OpR X f (rI C g)) (r : ∀ i j F H, Rep X.K F H (g' i j) (g i j)) : OpQ X f (I2 C g') := by
  refine .of p fun F h H x y v w Q S rx ry hq => ?_
  obtain ⟨i, j, ex, ey, hc, q⟩ := hq
  subst ex ey
  cases rx
  cases ry
  exact ⟨i, j, rfl, rfl, hc, F, h, _, .refl _ _ _, S, r _ _ _ _, q⟩
theorem OpQ.ints0 {f : Value → Value → Sem Value} {g : Int → Int → V} {g' : Int → Int → PV} (p : OpR X f (rI0 g)) (r : ∀ i j F H, Rep X.K F H (g' i j) (g i j)) : OpQ X f (I20 g') := by
  refine .of p fun F h H x y v w Q S rx ry hq => ?_
  obtain ⟨i, j, ex, ey, q⟩ := hq
  subst ex ey
  cases rx
  cases ry
  exact ⟨i, j, rfl, rfl, F, h, _, .refl _ _ _, S, r _ _ _ _, q⟩
theorem oq_add : OpQ X (binaryOp .Add) (I20 fun i j => .int (i + j)) := .ints0 op_add fun _ _ _ _ => .int _
theorem oq_sub : OpQ X (binaryOp .Sub) (I20 fun i j => .int (i - j)) := .ints0 op_sub fun _ _ _ _ => .int _
theorem oq_mul : OpQ X (binaryOp .Mult) (I2 CMulW fun i j => .int (i * j)) := .ints op_mulW fun _ _ _ _ => .int _
theorem oq_fdiv : OpQ X (binaryOp .FloorDiv) (I2 CDivW fun i j => .int (i / j)) := .ints op_fdivW fun _ _ _ _ => .int _
theorem oq_mod : OpQ X (binaryOp .Mod) (I2 (fun _ j => 0 < j) fun i j => .int (i % j)) := .ints op_mod fun _ _ _ _ => .int _
theorem oq_pow : OpQ X (binaryOp .Pow) (I2 CPow fun i j => .int (i ^ j.toNat)) := .ints op_pow fun _ _ _ _ => .int _
theorem oq_lt : OpQ X (compareOp .Lt) (I20 fun i j => .bl (decide (i < j))) := .ints0 op_lt fun _ _ _ _ => .bl _
theorem oq_le : OpQ X (compareOp .LtE) (I20 fun i j => .bl (decide (i ≤ j))) := .ints0 op_le fun _ _ _ _ => .bl _
theorem oq_gt : OpQ X (compareOp .Gt) (I20 fun i j => .bl (decide (j < i))) := .ints0 op_gt fun _ _ _ _ => .bl _
theorem oq_ge : OpQ X (compareOp .GtE) (I20 fun i j => .bl (decide (j ≤ i))) := .ints0 op_ge fun _ _ _ _ => .bl _

/-! ### is None -/
def isN : PV → Bool
  | .non => true
  | _ => false
theorem Rep.isN {K : PySem.W.Frag} {F : Addr → Prop} {H : Hp} {x : PV} {v : V} (r : Rep K F H x v) : decide (v = V.non) = L3.isN x := by
  cases r <;> simp [L3.isN]
def noneQ (k : Bool → Bool) (ta : TQ) : TQ := fun n h Q => ta n h fun x h1 => Q (.bl (k (isN x))) h1
theorem qe_isN {j pos'} (ha : QE X G a ta) : QE X G (.Compare a [.Is] [.Constant .none j pos'] pos) (noneQ id ta) := by
  refine QE.of (pe_cmp (pc_isN ha.pe) rfl) fun F h H n σ Q s S E hq => ?_
  refine ⟨F, h, n, _, s, S, E, hq, fun v1 H1 ⟨F1, h1, x, t1, S1, r1, q1⟩ => ?_⟩
  exact ⟨F1, h1, _, t1, S1, .bl _, by rw [r1.isN]; exact q1⟩
theorem qe_notN {j pos'} (ha : QE X G a ta) : QE X G (.Compare a [.IsNot] [.Constant .none j pos'] pos) (noneQ not ta) := by
  refine QE.of (pe_cmp (pc_notN ha.pe) rfl) fun F h H n σ Q s S E hq => ?_
  refine ⟨F, h, n, _, s, S, E, hq, fun v1 H1 ⟨F1, h1, x, t1, S1, r1, q1⟩ => ?_⟩
  exact ⟨F1, h1, _, t1, S1, .bl _, by rw [r1.isN]; exact q1⟩

/-! ### and, or, not, if .. else -/
variable {tA tB : BQ} {rest : List Expr}
def andT (t u : BQ) : BQ := fun n h Q => t n h fun c h1 => if c = true then u n h1 Q else Q false h1
def orT (t u : BQ) : BQ := fun n h Q => t n h fun c h1 => if c = true then Q true h1 else u n h1 Q
def notT (t : BQ) : BQ := fun n h Q => t n h fun c h1 => Q (!c) h1
theorem QW.qt (q : QW X G e tA) : QT X G e tA := ⟨q.run _⟩
theorem qw_and1 (ha : QT X G a tA) : QW X G (.BoolOp .And [a] pos) tA := QW.of (pw_and1 ha.pt) fun F h H n σ Q s S E hq => ⟨F, h, n, Q, s, S, E, hq, fun _ _ p => p⟩
theorem qw_or1 (ha : QT X G a tA) : QW X G (.BoolOp .Or [a] pos) tA := QW.of (pw_or1 ha.pt) fun F h H n σ Q s S E hq => ⟨F, h, n, Q, s, S, E, hq, fun _ _ p => p⟩
theorem qw_and (ha : QT X G a tA) (hb : QW X G (.BoolOp .And (b :: rest) pos) tB) : QW X G (.BoolOp .And (a :: b :: rest) pos) (andT tA tB) := by
  refine QW.of (pw_and ha.pt hb.pw) fun F h H n σ Q s S E hq => ?_
  refine ⟨F, h, n, _, s, S, E, hq, fun c H1 ⟨F1, h1, t1, S1, q1⟩ => ?_⟩
  cases c with
  | true => exact ⟨F1, h1, n, Q, s.trans t1, S1, E.step S t1, q1, fun _ _ p => TPost.step t1 p⟩
  | false => exact ⟨F1, h1, t1, S1, q1⟩
theorem qw_or (ha : QT X G a tA) (hb : QW X G (.BoolOp .Or (b :: rest) pos) tB) : QW X G (.BoolOp .Or (a :: b :: rest) pos) (orT tA tB) := by
  refine QW.of (pw_or ha.pt hb.pw) fun F h H n σ Q s S E hq => ?_
  refine ⟨F, h, n, _, s, S, E, hq, fun c H1 ⟨F1, h1, t1, S1, q1⟩ => ?_⟩
  cases c with
  | true => exact ⟨F1, h1, t1, S1, q1⟩
  | false => exact ⟨F1, h1, n, Q, s.trans t1, S1, E.step S t1, q1, fun _ _ p => TPost.step t1 p⟩
theorem qt_not (ha : QT X G a tA) : QT X G (.UnaryOp .Not a pos) (notT tA) :=
  QT.of (pt_not ha.pt) fun F h H n σ Q s S E hq => ⟨F, h, n, _, s, S, E, hq, fun _ _ ⟨F1, h1, t1, S1, q1⟩ => ⟨F1, h1, t1, S1, q1⟩⟩
def andV (ta tb : TQ) : TQ := fun n h Q => ta n h fun x h1 => ∃ c, x = .bl c ∧ if c = true then tb n h1 Q else Q (.bl false) h1
def orV (ta tb : TQ) : TQ := fun n h Q => ta n h fun x h1 => ∃ c, x = .bl c ∧ if c = true then Q (.bl true) h1 else tb n h1 Q
def notV (ta : TQ) : TQ := fun n h Q => ta n h fun x h1 => ∃ c, x = .bl c ∧ Q (.bl (!c)) h1
theorem qe_one {op} (ha : QE X G a t) : QE X G (.BoolOp op [a] pos) t := QE.of (pe_one ha.pe) fun F h H n σ Q s S E hq => ⟨F, h, n, Q, s, S, E, hq, fun _ _ p => p⟩
theorem qe_and (ha : QE X G a ta) (hb : QE X G (.BoolOp .And (b :: rest) pos) tb) : QE X G (.BoolOp .And (a :: b :: rest) pos) (andV ta tb) := by
  refine QE.of (pe_and ha.pe hb.pe) fun F h H n σ Q s S E hq => ?_
  refine ⟨F, h, n, _, s, S, E, hq, fun v1 H1 ⟨F1, h1, x, t1, S1, r1, c, ex, q1⟩ => ?_⟩
  subst ex
  cases r1
  refine ⟨c, rfl, ?_⟩
  cases c with
  | true => exact ⟨F1, h1, n, Q, s.trans t1, S1, E.step S t1, q1, fun _ _ p => EPost.step t1 p⟩
  | false => exact ⟨F1, h1, _, t1, S1, .bl _, q1⟩
theorem qe_or (ha : QE X G a ta) (hb : QE X G (.BoolOp .Or (b :: rest) pos) tb) : QE X G (.BoolOp .Or (a :: b :: rest) pos) (orV ta tb) := by
  refine QE.of (pe_or ha.pe hb.pe) fun F h H n σ Q s S E hq => ?_
  refine ⟨F, h, n, _, s, S, E, hq, fun v1 H1 ⟨F1, h1, x, t1, S1, r1, c, ex, q1⟩ => ?_⟩
  subst ex
  cases r1
  refine ⟨c, rfl, ?_⟩
  cases c with
  | false => exact ⟨F1, h1, n, Q, s.trans t1, S1, E.step S t1, q1, fun _ _ p => EPost.step t1 p⟩
  | true => exact ⟨F1, h1, _, t1, S1, .bl _, q1⟩
theorem qe_not (ha : QE X G a ta) : QE X G (.UnaryOp .Not a pos) (notV ta) := by
  refine QE.of (pe_not ha.pe) fun F h H n σ Q s S E hq => ?_
  refine ⟨F, h, n, _, s, S, E, hq, fun v1 H1 ⟨F1, h1, x, t1, S1, r1, c, ex, q1⟩ => ?_⟩
  subst ex
  cases r1
  exact ⟨c, rfl, F1, h1, _, t1, S1, .bl _, q1⟩
def ifQ (t : BQ) (ta tb : TQ) : TQ := fun n h Q => t n h fun c h1 => if c = true then ta n h1 Q else tb n h1 Q
theorem qe_if {c : Expr} (hc : QT X G c tA) (ha : QE X G a ta) (hb : QE X G b tb) : QE X G (.IfExp c a b pos) (ifQ tA ta tb) := by
  refine QE.of (pe_ifExp hc.pt ha.pe hb.pe) fun F h H n σ Q s S E hq => ?_
  refine ⟨F, h, n, _, s, S, E, hq, fun c H1 ⟨F1, h1, t1, S1, q1⟩ => ?_⟩
  cases c with
  | true => exact ⟨F1, h1, n, Q, s.trans t1, S1, E.step S t1, q1, fun _ _ p => EPost.step t1 p⟩
  | false => exact ⟨F1, h1, n, Q, s.trans t1, S1, E.step S t1, q1, fun _ _ p => EPost.step t1 p⟩

/-! ### argument lists, displays -/
variable {es : List Expr} {tr : AQ}
def nilQ : AQ := fun _ h Q => Q [] h
def consQ (ta : TQ) (tr : AQ) : AQ := fun n h Q => ta n h fun x h1 => tr n h1 fun xs h2 => Q (x :: xs) h2
theorem qa_nil : QA X G [] nilQ := QA.of pa_nil fun F h H n σ Q s S E hq => ⟨F, h, [], .refl _ _ _, S, .nil, hq⟩
theorem qa_cons (ha : QE X G e t) (hr : QA X G es tr) (hs : starEach (e :: es) X.env = (false, eval e X.env) :: starEach es X.env := by rfl) : QA X G (e :: es) (consQ t tr) := by
  refine QA.of (pa_cons ha.pe hr.pa hs) fun F h H n σ Q s S E hq => ?_
  refine ⟨F, h, n, _, s, S, E, hq, fun v1 H1 ⟨F1, h1, x, t1, S1, r1, q1⟩ => ?_⟩
  refine ⟨F1, h1, n, _, s.trans t1, S1, E.step S t1, q1, fun v2 H2 ⟨F2, h2, y, t2, S2, r2, q2⟩ => ?_⟩
  exact ⟨F2, h2, _, t1.trans t2, S2, .cons (r1.step S1 t2) r2, q2⟩
def tupQ (t : AQ) : TQ := fun n h Q => t n h fun xs h1 => xs.length ≤ sizeLine ∧ Q (.tup xs) h1
def lstQ (t : AQ) : TQ := fun n h Q => t n h fun xs h1 => xs.length ≤ sizeLine ∧ ∀ p, h1 p = none → Q (.ref p) (up h1 p (.lst xs))
theorem qe_tup {x1} (ha : QA X G es tr) : QE X G (.Tuple es x1 pos) (tupQ tr) := by
  refine QE.of (pe_tup ha.pa) fun F h H n σ Q s S E hq => ?_
  refine ⟨F, h, n, _, s, S, E, hq, fun v1 H1 ⟨F1, h1, x, t1, S1, r1, hl, q1⟩ => ⟨by rw [← r1.length]; exact hl, fun p np => ?_⟩⟩
  obtain ⟨S2, t2⟩ := S1.newF (o := .tup v1) np
  exact ⟨_, h1, .tup x, t1.trans t2, S2, .tup (.inl ⟨.inr rfl, .inl upd_same⟩) (r1.step S1 t2), q1⟩
theorem qe_lst (ha : QA X G es tr) : QE X G (.List es pos) (lstQ tr) := by
  refine QE.of (pe_lst ha.pa) fun F h H n σ Q s S E hq => ?_
  refine ⟨F, h, n, _, s, S, E, hq, fun v1 H1 ⟨F1, h1, x, t1, S1, r1, hl, q1⟩ => ⟨by rw [← r1.length]; exact hl, fun p np => ?_⟩⟩
  obtain ⟨S2, t2⟩ := S1.newO (o := .lst x) (u := .lst v1) np r1
  exact ⟨_, _, .ref p, t1.trans t2, S2, .ref p, q1 p (S1.free np)⟩

/-! ### sequences -/
def lstOf (h : Hq) : PV → Option (List PV)
  | .fl xs => some xs
  | .ref a => match h a with
    | some (.lst xs) => some xs
    | _ => none
  | _ => none
def seqOf (h : Hq) : PV → Option (List PV)
  | .tup xs => some xs
  | .fl xs => some xs
  | .ref a => match h a with
    | some (.lst xs) => some xs
    | _ => none
  | _ => none
end
section
variable {K : PySem.W.Frag} {T : TL} {F : Addr → Prop} {h : Hq} {H : Hp}
theorem lstOf_rep (S : HSim K T F h H) {x : PV} {v : V} {xs : List PV} (e : lstOf h x = some xs) (r : Rep K F H x v) : ∃ a vs, v = .ref a ∧ SqL K H a vs ∧ Reps K F H xs vs := by
  cases r with
  | fl l q => cases e; exact ⟨_, _, rfl, l.seq, q⟩
  | ref a =>
    have e : (match h a with | some (.lst xs) => some xs | _ => none) = some xs := e
    split at e
    · rename_i ys ea
      cases e
      obtain ⟨vs, e1, r⟩ := S.lst ea
      exact ⟨a, vs, rfl, .of e1, r⟩
    · cases e
  | _ => cases e
theorem seqOf_rep (S : HSim K T F h H) {x : PV} {v : V} {xs : List PV} (e : seqOf h x = some xs) (r : Rep K F H x v) : ∃ a vs, v = .ref a ∧ (SqL K H a vs ∨ SqT K H a vs) ∧ Reps K F H xs vs := by
  cases r with
  | tup t q => cases e; exact ⟨_, _, rfl, .inr t.seq, q⟩
  | fl l q => cases e; exact ⟨_, _, rfl, .inl l.seq, q⟩
  | ref a =>
    have e : (match h a with | some (.lst xs) => some xs | _ => none) = some xs := e
    split at e
    · rename_i ys ea
      cases e
      obtain ⟨vs, e1, r⟩ := S.lst ea
      exact ⟨a, vs, rfl, .inl (.of e1), r⟩
    · cases e
  | _ => cases e
theorem lstOf_ref {a : Addr} {xs : List PV} (e : h a = some (.lst xs)) : lstOf h (.ref a) = some xs := by simp only [lstOf, e]
theorem seqOf_ref {a : Addr} {xs : List PV} (e : h a = some (.lst xs)) : seqOf h (.ref a) = some xs := by simp only [seqOf, e]
theorem lstOf_fl {xs : List PV} : lstOf h (.fl xs) = some xs := rfl
theorem seqOf_fl {xs : List PV} : seqOf h (.fl xs) = some xs := rfl
theorem seqOf_tup {xs : List PV} : seqOf h (.tup xs) = some xs := rfl
end
/-- the item at a place, from the front -/
def atQ (xs : List PV) (i : Int) : Option PV := if 0 ≤ i then xs[i.toNat]? else none
theorem atQ_nat {xs : List PV} {i : Nat} : atQ xs (i : Int) = xs[i]? := by unfold atQ; rw [if_pos (by omega)]; simp
theorem atQ_atI {K : PySem.W.Frag} {F : Addr → Prop} {H : Hp} {xs : List PV} {vs : List V} {i : Int} {x : PV} (r : Reps K F H xs vs) (e : atQ xs i = some x) : ∃ v, atI vs i = some v ∧ Rep K F H x v := by
  unfold atQ at e
  split at e
  · rename_i h0
    obtain ⟨v, e1, r1⟩ := r.get e
    have q : i = ((i.toNat : Nat) : Int) := by omega
    rw [q]
    exact ⟨v, atI_nat e1, r1⟩
  · cases e
section
variable {X : Cx} {G : Gr} {e a b c : Expr} {t ta tb : TQ} {pos : Pos} {es : List Expr} {tr : AQ}
def ixQ : O2 := fun x y h Q => ∃ xs i z, seqOf h x = some xs ∧ y = .int i ∧ atQ xs i = some z ∧ Q z h
theorem qe_ix (ha : QE X G a ta) (hb : QE X G b tb) (hs : PlainIx b := by exact fun _ _ => rfl) : QE X G (.Subscript a b pos) (opQ ixQ ta tb) := by
  refine QE.of (pe_ix (ix_list.or ix_tup) ha.pe hb.pe hs) fun F h H n σ Q s S E hq => ?_
  refine ⟨F, h, n, _, s, S, E, hq, fun v1 H1 ⟨F1, h1, x, t1, S1, r1, q1⟩ => ?_⟩
  refine ⟨F1, h1, n, _, s.trans t1, S1, E.step S t1, q1, fun v2 H2 ⟨F2, h2, y, t2, S2, r2, xs, i, z, ex, ey, ez, q2⟩ => ?_⟩
  subst ey
  cases r2
  obtain ⟨p, vs, e1, hsq, rs⟩ := seqOf_rep S2 ex (r1.step S1 t2)
  subst e1
  obtain ⟨w, ew, rw'⟩ := atQ_atI rs ez
  rcases hsq with hl | ht
  · exact .inl ⟨p, vs, i, w, rfl, rfl, hl, ew, F2, h2, z, t1.trans t2, S2, rw', q2⟩
  · exact .inr ⟨p, vs, i, w, rfl, rfl, ht, ew, F2, h2, z, t1.trans t2, S2, rw', q2⟩
/-- calls by values -/
structure CallQ (X : Cx) (f : Value) (q : List PV → Hq → VQ → Prop) : Prop where
  run : ∃ r, CallR X f r ∧ ∀ {T : TL} F h H xs vs Q (R : VK), HSim X.K T F h H → Reps X.K F H xs vs → q xs h Q → (∀ v H', EPost X.K T F h H Q v H' → R v H') → r vs H R
def callQ (q : List PV → Hq → VQ → Prop) (t : AQ) : TQ := fun n h Q => t n h fun xs h1 => q xs h1 Q
theorem qe_callB {x : Str} {p : Pos} {id : String} {q : List PV → Hq → VQ → Prop} (hc : CallQ X (.builtin id) q) (hg : Gl X x) (hm : X.mg x = none) (hv : bootBuiltins x = some (.builtin id)) (ha : QA X G (e :: es) tr) (hn : x ≠ "__name__" := by decide) (hdb : (x == ("__debug__" : Str)) = false := by decide)
    (he : starEach (e :: es) X.env = (false, eval e X.env) :: starEach es X.env := by rfl) (hpl : (backTo pos (starEach es X.env)).any (·.1) = false := by rfl) : QE X G (.Call (.Name x p) (e :: es) [] pos) (callQ q tr) := by
  obtain ⟨r, hr, i⟩ := hc.run
  refine QE.of (pe_callB hr hg hm hv ha.pa hn hdb he hpl) fun F h H n σ Q s S E hq => ?_
  refine ⟨F, h, n, _, s, S, E, hq, fun v1 H1 ⟨F1, h1, x, t1, S1, r1, q1⟩ => ?_⟩
  exact i F1 h1 H1 x v1 Q _ S1 r1 q1 fun v H' p => EPost.step t1 p
theorem qe_callTy {x : Str} {p : Pos} {T : String} {q : List PV → Hq → VQ → Prop} (hc : CallQ X (.type T) q) (hg : Gl X x) (hm : X.mg x = none) (hv : bootBuiltins x = some (.type T)) (ha : QA X G (e :: es) tr) (hn : x ≠ "__name__" := by decide) (hdb : (x == ("__debug__" : Str)) = false := by decide)
    (he : starEach (e :: es) X.env = (false, eval e X.env) :: starEach es X.env := by rfl) (hpl : (backTo pos (starEach es X.env)).any (·.1) = false := by rfl) : QE X G (.Call (.Name x p) (e :: es) [] pos) (callQ q tr) := by
  obtain ⟨r, hr, i⟩ := hc.run
  refine QE.of (pe_callTy hr hg hm hv ha.pa hn hdb he hpl) fun F h H n σ Q s S E hq => ?_
  refine ⟨F, h, n, _, s, S, E, hq, fun v1 H1 ⟨F1, h1, x, t1, S1, r1, q1⟩ => ?_⟩
  exact i F1 h1 H1 x v1 Q _ S1 r1 q1 fun v H' p => EPost.step t1 p
theorem Reps.inv1 {K : PySem.W.Frag} {F : Addr → Prop} {H : Hp} {x : PV} {vs : List V} (r : Reps K F H [x] vs) : ∃ v, vs = [v] ∧ Rep K F H x v := by
  cases r with
  | cons a b => cases b; exact ⟨_, rfl, a⟩
theorem Reps.inv2 {K : PySem.W.Frag} {F : Addr → Prop} {H : Hp} {x y : PV} {vs : List V} (r : Reps K F H [x, y] vs) : ∃ v w, vs = [v, w] ∧ Rep K F H x v ∧ Rep K F H y w := by
  cases r with
  | cons a b =>
    obtain ⟨w, rfl, c⟩ := b.inv1
    exact ⟨_, _, rfl, a, c⟩
/-- len -/
theorem cq_len : CallQ X (.builtin "len") (fun xs h Q => ∃ x ys, xs = [x] ∧ seqOf h x = some ys ∧ Q (.int ys.length) h) := by
  refine ⟨_, call_len, fun F h H xs vs Q R S r ⟨x, ys, ex, ey, q⟩ k => ?_⟩
  subst ex
  obtain ⟨v, rfl, r1⟩ := r.inv1
  obtain ⟨a, ws, rfl, hs, rs⟩ := seqOf_rep S ey r1
  refine ⟨_, ws.length, rfl, ?_, k _ _ ⟨F, h, _, .refl _ _ _, S, ?_, q⟩⟩
  · rcases hs with hs | hs
    · exact .inl ⟨ws, hs, rfl⟩
    · exact .inr ⟨ws, hs, rfl⟩
  · rw [rs.length]; exact .int _
theorem cq_abs : CallQ X (.builtin "abs") (fun xs h Q => ∃ i, xs = [.int i] ∧ Q (.int (i.natAbs : Nat)) h) := by
  refine ⟨_, call_abs, fun F h H xs vs Q R S r ⟨i, ex, q⟩ k => ?_⟩
  subst ex
  obtain ⟨v, rfl, r1⟩ := r.inv1
  cases r1
  refine ⟨i, rfl, k _ _ ⟨F, h, _, .refl _ _ _, S, ?_, q⟩⟩
  have e : ((i.natAbs : Nat) : Int) = if i < 0 then -i else i := by split <;> omega
  rw [e]
  exact .int _
theorem cq_min (hc : X.calm = true) : CallQ X (.builtin "min") (fun xs h Q => ∃ i j, xs = [.int i, .int j] ∧ Q (.int (min i j)) h) := by
  refine ⟨_, call_min2 hc, fun F h H xs vs Q R S r ⟨i, j, ex, q⟩ k => ?_⟩
  subst ex
  obtain ⟨v, w, rfl, r1, r2⟩ := r.inv2
  cases r1
  cases r2
  refine ⟨i, j, rfl, k _ _ ⟨F, h, _, .refl _ _ _, S, ?_, q⟩⟩
  have e : min i j = if j < i then j else i := by rw [Int.min_def]; split <;> split <;> omega
  rw [e]
  exact .int _
theorem cq_max (hc : X.calm = true) : CallQ X (.builtin "max") (fun xs h Q => ∃ i j, xs = [.int i, .int j] ∧ Q (.int (max i j)) h) := by
  refine ⟨_, call_max2 hc, fun F h H xs vs Q R S r ⟨i, j, ex, q⟩ k => ?_⟩
  subst ex
  obtain ⟨v, w, rfl, r1, r2⟩ := r.inv2
  cases r1
  cases r2
  refine ⟨i, j, rfl, k _ _ ⟨F, h, _, .refl _ _ _, S, ?_, q⟩⟩
  have e : max i j = if j > i then j else i := by rw [Int.max_def]; split <;> split <;> omega
  rw [e]
  exact .int _
def intOf : PV → Option Int
  | .int i => some i
  | .bl k => some (if k then 1 else 0)
  | _ => none
theorem cq_int : CallQ X (.type "int") (fun xs h Q => ∃ x i, xs = [x] ∧ intOf x = some i ∧ Q (.int i) h) := by
  refine ⟨_, call_int1, fun F h H xs vs Q R S r ⟨x, i, ex, ei, q⟩ k => ?_⟩
  subst ex
  obtain ⟨v, rfl, r1⟩ := r.inv1
  cases r1 with
  | int j => cases ei; exact .inl ⟨_, rfl, k _ _ ⟨F, h, _, .refl _ _ _, S, .int _, q⟩⟩
  | bl j => cases ei; exact .inr ⟨_, rfl, k _ _ ⟨F, h, _, .refl _ _ _, S, .int _, q⟩⟩
  | _ => cases ei
/-- tuple(xs) -/
theorem cq_tuple : CallQ X (.type "tuple") (fun xs h Q => ∃ x ys, xs = [x] ∧ seqOf h x = some ys ∧ Q (.tup ys) h) := by
  refine ⟨_, call_tuple_of, fun F h H xs vs Q R S r ⟨x, ys, ex, ey, q⟩ k => ?_⟩
  subst ex
  obtain ⟨v, rfl, r1⟩ := r.inv1
  cases r1 with
  | tup t rs =>
    cases ey
    exact ⟨_, _, rfl, .inr ⟨t.seq, k _ _ ⟨F, h, _, .refl _ _ _, S, .tup t rs, q⟩⟩⟩
  | fl l rs =>
    cases ey
    refine ⟨_, _, rfl, .inl ⟨l.seq, fun p np => ?_⟩⟩
    obtain ⟨S2, t2⟩ := S.newF (o := .tup _) np
    exact k _ _ ⟨_, h, _, t2, S2, .tup (.inl ⟨.inr rfl, .inl upd_same⟩) (rs.step S t2), q⟩
  | ref a =>
    obtain ⟨a', ws, e, hs, rs⟩ := lstOf_rep (x := .ref a) S ey (.ref a)
    cases e
    refine ⟨_, _, rfl, .inl ⟨hs, fun p np => ?_⟩⟩
    obtain ⟨S2, t2⟩ := S.newF (o := .tup ws) np
    exact k _ _ ⟨_, h, _, t2, S2, .tup (.inl ⟨.inr rfl, .inl upd_same⟩) (rs.step S t2), q⟩
  | _ => cases ey
/-- list(xs) -/
theorem cq_list : CallQ X (.type "list") (fun xs h Q => ∃ x ys, xs = [x] ∧ seqOf h x = some ys ∧ ∀ p, h p = none → Q (.ref p) (up h p (.lst ys))) := by
  refine ⟨_, call_list_of, fun F h H xs vs Q R S r ⟨x, ys, ex, ey, q⟩ k => ?_⟩
  subst ex
  obtain ⟨v, rfl, r1⟩ := r.inv1
  obtain ⟨a, ws, rfl, hs, rs⟩ := seqOf_rep S ey r1
  refine ⟨a, ws, rfl, hs, fun p np => ?_⟩
  obtain ⟨S2, t2⟩ := S.newO (o := .lst ys) (u := .lst ws) np rs
  exact k _ _ ⟨F, _, _, t2, S2, .ref p, q p (S.free np)⟩
/-! ### isinstance -/
def tyOf (h : Hq) : PV → Option String
  | .non => some "NoneType"
  | .bl _ => some "bool"
  | .int _ => some "int"
  | .str _ => some "str"
  | .tup _ => some "tuple"
  | .fl _ => some "list"
  | .ref a => match h a with
    | some (.lst _) => some "list"
    | some (.dic _) => some "dict"
    | none => none
theorem tyOf_rep {K : PySem.W.Frag} {T : TL} {F : Addr → Prop} {h : Hq} {H : Hp} (S : HSim K T F h H) {x : PV} {v : V} {s : String} (r : Rep K F H x v) (e : tyOf h x = some s) : TyX K H v (.type s) := by
  cases r with
  | non => cases e; exact .base .non
  | bl b => cases e; exact .base (.bl b)
  | int b => cases e; exact .base (.int b)
  | str b => cases e; exact .base (.str b)
  | tup t rs =>
    cases e
    rcases t with ⟨_, t | ⟨o, t⟩⟩ | ⟨o, its, n, hk, hc, _⟩
    · exact .base (.tup t)
    · exact .fTuple t
    · exact .kTuple hk hc
  | fl t rs =>
    cases e
    rcases t with ⟨_, t | ⟨o, t⟩⟩
    · exact .base (.lst t)
    · exact .base (.frz t)
  | ref a =>
    have e : (match h a with | some (.lst _) => some "list" | some (.dic _) => some "dict" | none => none) = some s := e
    split at e
    · rename_i xs ea
      cases e
      obtain ⟨vs, e1, _⟩ := S.lst ea
      exact .base (.lst e1)
    · rename_i xs ea
      cases e
      obtain ⟨vs, e1, _⟩ := S.dic ea
      exact .base (.dK e1)
    · cases e
def isTy (T : String) (s : String) : Bool := s == T || (T == "int" && s == "bool")
theorem isTy_kit {T s : String} {x : PV} {h : Hq} (hT : T = "int" ∨ T = "bool" ∨ T = "str" ∨ T = "tuple" ∨ T = "list") (e : tyOf h x = some s) : kitB s T = some (isTy T s) := by
  have hs : s = "NoneType" ∨ s = "bool" ∨ s = "int" ∨ s = "str" ∨ s = "tuple" ∨ s = "list" ∨ s = "dict" := by
    cases x with
    | ref a =>
      have e : (match h a with | some (.lst _) => some "list" | some (.dic _) => some "dict" | none => none) = some s := e
      split at e <;> cases e <;> simp
    | _ => cases e <;> simp
  rcases hT with rfl | rfl | rfl | rfl | rfl <;> rcases hs with rfl | rfl | rfl | rfl | rfl | rfl | rfl <;> decide +kernel
def isiQ (T : String) (ta : TQ) : TQ := fun n h Q => ta n h fun x h1 => ∃ s, tyOf h1 x = some s ∧ Q (.bl (isTy T s)) h1
theorem qe_isi {T : String} {x y : Str} {p p2 : Pos} (hT : T = "int" ∨ T = "bool" ∨ T = "str" ∨ T = "tuple" ∨ T = "list") (hg : Gl X x) (hm : X.mg x = none) (hv : bootBuiltins x = some (.builtin "isinstance")) (hgT : Gl X y) (hmT : X.mg y = none) (hvT : bootBuiltins y = some (.type T)) (ha : QE X G a ta)
    (hn : x ≠ "__name__" := by decide) (hdb : (x == ("__debug__" : Str)) = false := by decide) (hn2 : y ≠ "__name__" := by decide) (hdb2 : (y == ("__debug__" : Str)) = false := by decide)
    (hs : starEach [a, .Name y p2] X.env = (false, eval a X.env) :: starEach [.Name y p2] X.env := by rfl) :
    QE X G (.Call (.Name x p) [a, .Name y p2] [] pos) (isiQ T ta) := by
  refine QE.of (pe_callB call_isi hg hm hv (pa_cons ha.pe (pa_cons (pe_bltn (v := .ty T) hgT hmT hvT rfl hn2 hdb2) pa_nil) hs) hn hdb hs) fun F h H n σ Q s S E hq => ?_
  refine ⟨F, h, n, _, s, S, E, hq, fun v1 H1 ⟨F1, h1, x, t1, S1, r1, s1, e1, q1⟩ => ?_⟩
  refine ⟨v1, .ty T, .type s1, .type T, isTy T s1, rfl, .ty T, tyOf_rep S1 r1 e1, kit_ty (isTy_kit hT e1), F1, h1, _, t1, S1, .bl _, q1⟩
end
end L3

/-! L3c: targets, statements, loops, comprehensions. -/
namespace L3
open PySem PySem.Spec PyProof.Rows L2

/-! ### targets -/
abbrev GQ := PV → Sq → Hq → (Sq → Hq → Prop) → Prop
abbrev GsQ := List PV → Sq → Hq → (Sq → Hq → Prop) → Prop
/-- σ' is σ but at the slots of l -/
def Off (l : List Nat) (σ σ' : L2.St) : Prop := σ'.length = σ.length ∧ ∀ i, i ∉ l → σ'[i]? = σ[i]?
theorem Off.refl (l : List Nat) (σ : L2.St) : Off l σ σ := ⟨rfl, fun _ _ => rfl⟩
structure QG (X : Cx) (G : Gr) (ws : List Nat) (tg : Expr) (t : GQ) : Prop where
  run : ∀ pins s F h H n σ x v u Q, Inv X pins σ H s → Step G.F G.h G.H F h H → HSim X.K G.T F h H → ESim X.K F H n σ → Rep X.K F H x v → RelV v u → t x n h Q →
    wpAny (model X.prog X.w) X.A (assign tg X.env u) (fun _ s' => ∃ σ' H', Inv X pins σ' H' s' ∧ Off ws σ σ' ∧ NPost X.K G.T F h H Q σ' H') X.xe s
structure QGs (X : Cx) (G : Gr) (ws : List Nat) (ts : List Expr) (t : GsQ) : Prop where
  run : ∀ pins s F h H n σ xs vs us Q, Inv X pins σ H s → Step G.F G.h G.H F h H → HSim X.K G.T F h H → ESim X.K F H n σ → Reps X.K F H xs vs → Vals vs us → t xs n h Q →
    wpAny (model X.prog X.w) X.A (assignInOrder ((assignEach ts X.env).map (·.2)) us) (fun _ s' => ∃ σ' H', Inv X pins σ' H' s' ∧ Off ws σ σ' ∧ NPost X.K G.T F h H Q σ' H') X.xe s
def lG (K : PySem.W.Frag) (G : Gr) (ws : List Nat) (t : GQ) : TG := fun v σ H Q => ∃ F h n x Q', Step G.F G.h G.H F h H ∧ HSim K G.T F h H ∧ ESim K F H n σ ∧ Rep K F H x v ∧ t x n h Q' ∧ ∀ σ' H', Off ws σ σ' → NPost K G.T F h H Q' σ' H' → Q σ' H'
def lGs (K : PySem.W.Frag) (G : Gr) (ws : List Nat) (t : GsQ) : TGs := fun v σ H Q => ∃ F h n x Q', Step G.F G.h G.H F h H ∧ HSim K G.T F h H ∧ ESim K F H n σ ∧ Reps K F H x v ∧ t x n h Q' ∧ ∀ σ' H', Off ws σ σ' → NPost K G.T F h H Q' σ' H' → Q σ' H'
section
variable {X : Cx} {G : Gr} {e a b c o i : Expr} {t ta tb to ti : TQ} {pos : Pos} {es : List Expr} {tr : AQ} {ws wt : List Nat}
theorem QG.pg {tg : Expr} {t : GQ} (q : QG X G ws tg t) : PG X tg (lG X.K G ws t) := by
  refine ⟨fun pins s σ H v u Q I r ⟨F, h, n, x, Q', a, b, c, d, f, k⟩ => ?_⟩
  exact thn (q.run pins s F h H n σ x v u Q' I a b c d r f) fun _ s' ⟨σ', H', I', o, p⟩ => ⟨σ', H', I', k _ _ o p⟩
theorem QGs.pgs {tg : List Expr} {t : GsQ} (q : QGs X G ws tg t) : PGs X tg (lGs X.K G ws t) := by
  refine ⟨fun pins s σ H v u Q I r ⟨F, h, n, x, Q', a, b, c, d, f, k⟩ => ?_⟩
  exact thn (q.run pins s F h H n σ x v u Q' I a b c d r f) fun _ s' ⟨σ', H', I', o, p⟩ => ⟨σ', H', I', k _ _ o p⟩
theorem QG.of {tg : Expr} {t : GQ} {te : TG} (p : PG X tg te) (f : ∀ F h H n σ x v Q, Step G.F G.h G.H F h H → HSim X.K G.T F h H → ESim X.K F H n σ → Rep X.K F H x v → t x n h Q → te v σ H (fun σ' H' => Off ws σ σ' ∧ NPost X.K G.T F h H Q σ' H')) : QG X G ws tg t :=
  ⟨fun pins s F h H n σ x v u Q I a b c d r q => p.run pins s σ H v u _ I r (f F h H n σ x v Q a b c d q)⟩
theorem QGs.of {tg : List Expr} {t : GsQ} {te : TGs} (p : PGs X tg te) (f : ∀ F h H n σ x v Q, Step G.F G.h G.H F h H → HSim X.K G.T F h H → ESim X.K F H n σ → Reps X.K F H x v → t x n h Q → te v σ H (fun σ' H' => Off ws σ σ' ∧ NPost X.K G.T F h H Q σ' H')) : QGs X G ws tg t :=
  ⟨fun pins s F h H n σ x v u Q I a b c d r q => p.run pins s σ H v u _ I r (f F h H n σ x v Q a b c d q)⟩
def nameG (i : Nat) : GQ := fun x n h Q => Q (n.set i (some x)) h
theorem qg_name {i : Nat} {x : Str} (hN : X.N.Nodup) (hi : X.N[i]? = some x := by rfl) (hx : Loc X.env.scope x := by first | exact Or.inl rfl | exact Or.inr rfl) (hf : X.fn x = true ∨ X.env.scope.names.lookup x = some .local := by first | exact .inl rfl | exact .inr rfl | assumption) : QG X G [i] (.Name x pos) (nameG i) :=
  QG.of (pg_name hN hi hx hf) fun F h H n σ x v Q s S E r q => ⟨⟨List.length_set, fun j hj => List.getElem?_set_ne (fun z => hj (by simp [z]))⟩, F, h, _, .refl _ _ _, S, E.set r, q⟩
def nilG : GsQ := fun xs n h Q => xs = [] ∧ Q n h
def consG (t : GQ) (u : GsQ) : GsQ := fun xs n h Q => ∃ x r, xs = x :: r ∧ t x n h fun n' h' => u r n' h' Q
theorem qgs_nil : QGs X G [] [] nilG := QGs.of pgs_nil fun F h H n σ x v Q s S E r ⟨e, q⟩ => by
  subst e
  cases r
  exact ⟨rfl, .refl _ _, F, h, _, .refl _ _ _, S, E, q⟩
theorem qgs_cons {t : GQ} {u : GsQ} (h1 : QG X G ws e t) (h2 : QGs X G wt es u) (hs : (assignEach (e :: es) X.env).map (·.2) = assign e X.env :: (assignEach es X.env).map (·.2) := by rfl) : QGs X G (ws ++ wt) (e :: es) (consG t u) :=
  QGs.of (pgs_cons h1.pg h2.pgs hs) fun F h H n σ x v Q s S E r ⟨y, ys, ex, q⟩ => by
    subst ex
    cases r with
    | cons r1 r2 =>
      refine ⟨_, _, rfl, F, h, n, y, _, s, S, E, r1, q, fun σ1 H1 o1 ⟨F1, h1, n1, t1, S1, E1, q1⟩ => ?_⟩
      refine ⟨F1, h1, n1, ys, Q, s.trans t1, S1, E1, r2.step S t1, q1, fun σ2 H2 o2 p => ⟨⟨o2.1.trans o1.1, fun j hj => ?_⟩, NPost.step t1 p⟩⟩
      rw [List.mem_append, not_or] at hj
      rw [o2.2 j hj.2, o1.2 j hj.1]
/-- (a, b, ..) = a tuple -/
def tupG (k : Nat) (t : GsQ) : GQ := fun x n h Q => ∃ xs, x = .tup xs ∧ xs.length = k ∧ t xs n h Q
theorem qg_tup {k n : Nat} {t : GsQ} (hc : X.calm = true) (h : QGs X G ws es t) (hn : (assignEach es X.env).length = n := by rfl) (hst : (assignEach es X.env).findIdx? (·.1) = none := by rfl) : QG X G ws (.Tuple es k pos) (tupG n t) :=
  QG.of (pg_tup hc h.pgs hn hst) fun F h H n σ x v Q s S E r ⟨xs, ex, hl, q⟩ => by
    subst ex
    cases r with
    | tup tp rs => exact ⟨_, _, rfl, tp.seq, by rw [← rs.length]; exact hl, F, h, n, xs, Q, s, S, E, rs, q, fun _ _ o p => ⟨o, p⟩⟩
/-- xs[i] = .. -/
def setG (to ti : TQ) : GQ := fun x n h Q => to n h fun o h1 => ti n h1 fun i h2 => ∃ a xs k j, o = .ref a ∧ i = .int k ∧ h2 a = some (.lst xs) ∧ k = ((j : Nat) : Int) ∧ j < xs.length ∧ Q n (up h2 a (.lst (xs.set j x)))
theorem qg_set (ho : QE X G o to) (hi : QE X G i ti) (ha : ∀ v, assign (.Subscript o i pos) X.env v = (do
      let ov ← holding [v] (eval o X.env)
      let iv ← holding [v, ov] (eval i X.env)
      standAt pos
      holding [v, ov, iv] (setItem ov iv v)
      release [v, ov, iv] []) := by intro _; rfl) : QG X G [] (.Subscript o i pos) (setG to ti) :=
  QG.of (pg_sub ho.pe hi.pe set_list ha) fun F h H n σ x v Q s S E r q => by
    refine ⟨F, h, n, _, s, S, E, q, fun v1 H1 ⟨F1, h1, y, t1, S1, r1, q1⟩ => ?_⟩
    refine ⟨F1, h1, n, _, s.trans t1, S1, E.step S t1, q1, fun v2 H2 ⟨F2, h2, z, t2, S2, r2, a, xs, k, j, ey, ez, ea, ek, hj, q2⟩ => ?_⟩
    have r1' := r1.step S1 t2
    subst ey ez ek
    cases r1'
    cases r2
    obtain ⟨vs, e1, rs⟩ := S2.lst ea
    refine ⟨a, vs, (j : Int), j, rfl, rfl, e1, ?_, ?_⟩
    · have hl := rs.length
      unfold ixN
      rw [if_pos (by omega), if_pos (by omega)]
      simp
    · obtain ⟨S3, t3⟩ := S2.write (o' := .lst (xs.set j x)) (u := .lst (vs.set j v)) ea (rs.set ((r.step S t1).step S1 t2) j)
      exact ⟨.refl _ _, F2, _, n, (t1.trans t2).trans t3, S3, ((E.step S t1).step S1 t2).step S2 t3, q2⟩

/-! ### statements -/
variable {st : Stmt} {rest : List Stmt} {u v : SQ}
def nextS : SQ := fun D n h => D.nx n h
def seqS (t u : SQ) : SQ := fun D n h => t { D with nx := u D } n h
theorem qss_nil : QSs X G [] nextS := QSs.of pss_nil fun F h H n σ D s S E q => ⟨F, h, n, .refl _ _ _, S, E, q⟩
theorem qss_cons (h1 : QS X G st u) (h2 : QSs X G rest v) : QSs X G (st :: rest) (seqS u v) := by
  refine QSs.of (pss_cons h1.ps h2.pss) fun F h H n σ D s S E q => ?_
  refine ⟨F, h, n, _, s, S, E, q, fun σ1 H1 ⟨F1, h1, n1, t1, S1, E1, q1⟩ => ?_, fun _ _ p => p, fun _ _ p => p, fun _ _ p => p⟩
  exact ⟨F1, h1, n1, D, s.trans t1, S1, E1, q1, DPost.le t1 D⟩
theorem EndsLe.refl (A : Ends) : EndsLe A A := ⟨fun _ _ p => p, fun _ _ p => p, fun _ _ p => p, fun _ _ p => p⟩
theorem qss_one (h1 : QS X G st u) : QSs X G [st] u := QSs.of (pss_one h1.ps) fun F h H n σ D s S E q => ⟨F, h, n, D, s, S, E, q, .refl _⟩
theorem qs_pass : QS X G (.Pass pos) nextS := QS.of ps_pass fun F h H n σ D s S E q => ⟨F, h, n, .refl _ _ _, S, E, q⟩
def brkS : SQ := fun D n h => D.bk n h
def conS : SQ := fun D n h => D.ct n h
theorem qs_break : QS X G (.Break pos) brkS := QS.of ps_break fun F h H n σ D s S E q => ⟨F, h, n, .refl _ _ _, S, E, q⟩
theorem qs_continue : QS X G (.Continue pos) conS := QS.of ps_continue fun F h H n σ D s S E q => ⟨F, h, n, .refl _ _ _, S, E, q⟩
def dropS (t : TQ) : SQ := fun D n h => t n h fun _ h1 => D.nx n h1
theorem qs_expr (he : QE X G e t) (hs : swapsWith e none pos.line X.env = pure false := by rfl) : QS X G (.Expr e pos) (dropS t) :=
  QS.of (ps_expr he.pe hs) fun F h H n σ D s S E q => ⟨F, h, n, _, s, S, E, q, fun v1 H1 ⟨F1, h1, x, t1, S1, r1, q1⟩ => ⟨F1, h1, n, t1, S1, E.step S t1, q1⟩⟩
def retS (t : TQ) : SQ := fun D n h => t n h D.rt
theorem qs_ret (he : QE X G e t) : QS X G (.Return (some e) pos) (retS t) :=
  QS.of (ps_ret he.pe) fun F h H n σ D s S E q => ⟨F, h, n, _, s, S, E, q, fun _ _ p => p⟩
def retN : SQ := fun D _ h => D.rt .non h
theorem qs_retN : QS X G (.Return none pos) retN := QS.of ps_retN fun F h H n σ D s S E q => ⟨F, h, .non, .refl _ _ _, S, .non, q⟩
def ifS (c : BQ) (t u : SQ) : SQ := fun D n h => c n h fun k h1 => if k = true then t D n h1 else u D n h1
theorem qs_if {c : Expr} {a b : List Stmt} {tc : BQ} (hc : QT X G c tc) (ha : QSs X G a u) (hb : QSs X G b v) : QS X G (.If c a b pos) (ifS tc u v) := by
  refine QS.of (ps_if hc.pt ha.pss hb.pss) fun F h H n σ D s S E q => ?_
  refine ⟨F, h, n, _, s, S, E, q, fun k H1 ⟨F1, h1, t1, S1, q1⟩ => ?_⟩
  cases k with
  | true => exact ⟨F1, h1, n, D, s.trans t1, S1, E.step S t1, q1, DPost.le t1 D⟩
  | false => exact ⟨F1, h1, n, D, s.trans t1, S1, E.step S t1, q1, DPost.le t1 D⟩
def asgS (t : TQ) (g : GQ) : SQ := fun D n h => t n h fun x h1 => g x n h1 D.nx
theorem qs_asg {tg e : Expr} {g : GQ} (he : QE X G e t) (hg : QG X G ws tg g) (hs : swapsWithSole [tg] e pos.line X.env = pure false := by rfl) (hw : swappedStores [tg] e X.env = pure none := by rfl)
    (h1 : (assignEach [tg] X.env).map (·.2) = [assign tg X.env] := by rfl) : QS X G (.Assign [tg] e pos) (asgS t g) := by
  refine QS.of (ps_asg he.pe hg.pg hs hw h1) fun F h H n σ D s S E q => ?_
  refine ⟨F, h, n, _, s, S, E, q, fun v1 H1 ⟨F1, h1, x, t1, S1, r1, q1⟩ => ?_⟩
  exact ⟨F1, h1, n, x, _, s.trans t1, S1, E.step S t1, r1, q1, fun _ _ _ p => NPost.step t1 p⟩
theorem qs_set {i : Nat} {x : Str} {pos' : Pos} (he : QE X G e t) (hN : X.N.Nodup) (hi : X.N[i]? = some x := by rfl) (hx : Loc X.env.scope x := by first | exact Or.inl rfl | exact Or.inr rfl) (hs : swapsWith e (some (.Name x pos')) pos.line X.env = pure false := by rfl) (hf : X.fn x = true ∨ X.env.scope.names.lookup x = some .local := by first | exact .inl rfl | exact .inr rfl | assumption) :
    QS X G (.Assign [.Name x pos'] e pos) (asgS t (nameG i)) := by
  refine QS.of (ps_set hN hi hx he.pe hs hf) fun F h H n σ D s S E q => ?_
  exact ⟨F, h, n, _, s, S, E, q, fun v1 H1 ⟨F1, h1, x, t1, S1, r1, q1⟩ => ⟨F1, h1, _, t1, S1, (E.step S t1).set r1, q1⟩⟩
/-- a, b = x, y -/
def parS (i j : Nat) (ta tb : TQ) : SQ := fun D n h => ta n h fun x h1 => tb n h1 fun y h2 => D.nx ((n.set i (some x)).set j (some y)) h2
theorem qs_par {i j : Nat} {x y : Str} {px py pt : Pos} {kt k2 pt2} (hc : X.calm = true) (hN : X.N.Nodup) (ha : QE X G a ta) (hb : QE X G b tb) (hi : X.N[i]? = some x := by rfl) (hj : X.N[j]? = some y := by rfl) (hij : i ≠ j := by decide)
    (hx : X.env.scope.names.lookup x = some .local := by rfl) (hy : X.env.scope.names.lookup y = some .local := by rfl)
    (hw : swappedStores [.Tuple [.Name x px, .Name y py] kt pt] (.Tuple [a, b] k2 pt2) X.env = pure (some [x, y]) := by rfl)
    (hs : swapsWithSole [.Tuple [.Name x px, .Name y py] kt pt] (.Tuple [a, b] k2 pt2) pos.line X.env = pure false := by rfl)
    (h1 : starEach [a, b] X.env = (false, eval a X.env) :: starEach [b] X.env := by rfl) (h2 : starEach [b] X.env = (false, eval b X.env) :: starEach [] X.env := by rfl) :
    QS X G (.Assign [.Tuple [.Name x px, .Name y py] kt pt] (.Tuple [a, b] k2 pt2) pos) (parS i j ta tb) := by
  refine QS.of (ps_par hc hN hi hj hij hx hy (pa_cons ha.pe (pa_cons hb.pe pa_nil h2) h1) hw hs) fun F h H n σ D s S E q => ?_
  refine ⟨F, h, n, _, s, S, E, q, fun v1 H1 ⟨F1, h1, x, t1, S1, r1, q1⟩ => ?_⟩
  refine ⟨F1, h1, n, _, s.trans t1, S1, E.step S t1, q1, fun v2 H2 ⟨F2, h2, y, t2, S2, r2, q2⟩ => ?_⟩
  exact ⟨_, _, rfl, F2, h2, _, t1.trans t2, S2, (((E.step S t1).step S1 t2).set (r1.step S1 t2)).set r2, q2⟩

/-! ### dicts -/
def valQ (kvs : List (Key × PV)) (k : Key) : Option PV := (kvs.find? fun kv => decide (kv.1 = k)).map (·.2)
def putQ (kvs : List (Key × PV)) (k : Key) (v : PV) : List (Key × PV) :=
  if (kvs.any fun kv => decide (kv.1 = k)) = true then kvs.map (fun kv => if kv.1 = k then (kv.1, v) else kv) else kvs ++ [(k, v)]
def keyQ : PV → Option Key
  | .int i => some (.inl i)
  | .str s => some (.inr s)
  | _ => none
end
section
variable {K : PySem.W.Frag} {F : Addr → Prop} {H : Hp}
abbrev RepKV (K : PySem.W.Frag) (F : Addr → Prop) (H : Hp) : List (Key × PV) → List (Key × V) → Prop := Paired (fun (p : Key × PV) (q : Key × V) => p.1 = q.1 ∧ Rep K F H p.2 q.2)
theorem repKV_val {k : Key} : ∀ {kvs : List (Key × PV)} {vs : List (Key × V)}, RepKV K F H kvs vs → (valQ kvs k = none ∧ valV vs k = none) ∨ ∃ x v, valQ kvs k = some x ∧ valV vs k = some v ∧ Rep K F H x v
  | _, _, .nil => .inl ⟨rfl, rfl⟩
  | (k1, x) :: r, (k2, y) :: r2, .cons ⟨e, rp⟩ t => by
    have e : k1 = k2 := e
    subst e
    by_cases hk : k1 = k
    · exact .inr ⟨x, y, by simp [valQ, hk], by simp [valV, hk], rp⟩
    · have ih := repKV_val (k := k) t
      simpa [valQ, valV, hk] using ih
theorem repKV_any {k : Key} : ∀ {kvs : List (Key × PV)} {vs : List (Key × V)}, RepKV K F H kvs vs → (kvs.any fun kv => decide (kv.1 = k)) = (vs.any fun kv => decide (kv.1 = k))
  | _, _, .nil => rfl
  | (k1, x) :: r, (k2, y) :: r2, .cons ⟨e, _⟩ t => by
    have e : k1 = k2 := e
    subst e
    simp [repKV_any (k := k) t]
theorem repKV_map {k : Key} {x : PV} {v : V} (rx : Rep K F H x v) : ∀ {kvs : List (Key × PV)} {vs : List (Key × V)}, RepKV K F H kvs vs → RepKV K F H (kvs.map (fun kv => if kv.1 = k then (kv.1, x) else kv)) (vs.map (fun kv => if kv.1 = k then (kv.1, v) else kv))
  | _, _, .nil => .nil
  | (k1, x1) :: r, (k2, y) :: r2, .cons ⟨e, rp⟩ t => by
    have e : k1 = k2 := e
    subst e
    refine .cons ?_ (repKV_map rx t)
    by_cases hk : k1 = k
    · simp only [hk, if_true]; exact ⟨trivial, rx⟩
    · simp only [hk, if_false]; exact ⟨trivial, rp⟩
theorem repKV_app : ∀ {a b : List (Key × PV)} {c d : List (Key × V)}, RepKV K F H a c → RepKV K F H b d → RepKV K F H (a ++ b) (c ++ d)
  | _, _, _, _, .nil, s => s
  | _, _, _, _, .cons r t, s => .cons r (repKV_app t s)
theorem repKV_put {k : Key} {x : PV} {v : V} (rx : Rep K F H x v) {kvs : List (Key × PV)} {vs : List (Key × V)} (r : RepKV K F H kvs vs) : RepKV K F H (putQ kvs k x) (putK vs k v) := by
  unfold putQ putK
  rw [repKV_any r]
  split
  · exact repKV_map rx r
  · exact repKV_app r (.cons ⟨rfl, rx⟩ .nil)
theorem keyQ_kV {y : PV} {w : V} {k : Key} (e : keyQ y = some k) (r : Rep K F H y w) : w = kV k := by
  cases r <;> cases e <;> rfl
end
section
variable {X : Cx} {G : Gr} {e a b c o i : Expr} {t ta tb to ti tv : TQ} {pos : Pos} {es : List Expr} {tr : AQ} {st : Stmt} {rest : List Stmt} {u v : SQ}
def dgetQ : O2 := fun x y h Q => ∃ p kvs k z, x = .ref p ∧ h p = some (.dic kvs) ∧ keyQ y = some k ∧ valQ kvs k = some z ∧ Q z h
theorem qe_dget (hu : X.A.units + 1 < cLine) (ho : QE X G o to) (hi : QE X G i ti) (hs : NoSl i := by exact fun _ _ => rfl) : QE X G (.Subscript o i pos) (opQ dgetQ to ti) := by
  refine QE.of (pe_dget hu ho.pe hi.pe hs) fun F h H n σ Q s S E hq => ?_
  refine ⟨F, h, n, _, s, S, E, hq, fun v1 H1 ⟨F1, h1, x, t1, S1, r1, q1⟩ => ?_⟩
  refine ⟨F1, h1, n, _, s.trans t1, S1, E.step S t1, q1, fun v2 H2 ⟨F2, h2, y, t2, S2, r2, p, kvs, k, z, ex, ep, ek, ez, q2⟩ => ?_⟩
  have r1' := r1.step S1 t2
  subst ex
  cases r1'
  obtain ⟨vs, e1, rs⟩ := S2.dic ep
  have ew := keyQ_kV ek r2
  subst ew
  rcases repKV_val (k := k) rs with ⟨z1, _⟩ | ⟨x', v', z1, z2, rz⟩
  · rw [z1] at ez; cases ez
  · rw [z1] at ez; cases ez
    exact ⟨p, v', rfl, by rw [← z2]; exact DGet.k e1, F2, h2, z, t1.trans t2, S2, rz, q2⟩
def dputS (to ti tv : TQ) : SQ := fun D n h => tv n h fun x h1 => to n h1 fun o h2 => ti n h2 fun y h3 => ∃ p kvs k, o = .ref p ∧ h3 p = some (.dic kvs) ∧ keyQ y = some k ∧ kvs.length < sizeLine ∧ D.nx n (up h3 p (.dic (putQ kvs k x)))
theorem repKV_len {K : PySem.W.Frag} {F : Addr → Prop} {H : Hp} : ∀ {kvs : List (Key × PV)} {vs : List (Key × V)}, RepKV K F H kvs vs → kvs.length = vs.length
  | _, _, .nil => rfl
  | _, _, .cons _ t => by rw [List.length_cons, List.length_cons, repKV_len t]
theorem qs_dput {value : Expr} {pos' : Pos} (hu : X.A.units + 1 < cLine) (ho : QE X G o to) (hi : QE X G i ti) (hv : QE X G value tv) (hs : swapsWith value (some (.Subscript o i pos')) pos.line X.env = pure false := by rfl) :
    QS X G (.Assign [.Subscript o i pos'] value pos) (dputS to ti tv) := by
  refine QS.of (ps_dput hu ho.pe hi.pe hv.pe hs) fun F h H n σ D s S E q => ?_
  refine ⟨F, h, n, _, s, S, E, q, fun v0 H0 ⟨F0, h0, x, t0, S0, r0, q0⟩ => ?_⟩
  refine ⟨F0, h0, n, _, s.trans t0, S0, E.step S t0, q0, fun v1 H1 ⟨F1, h1, oo, t1, S1, r1, q1⟩ => ?_⟩
  refine ⟨F1, h1, n, _, (s.trans t0).trans t1, S1, (E.step S t0).step S0 t1, q1, fun v2 H2 ⟨F2, h2, y, t2, S2, r2, p, kvs, k, ex, ep, ek, hl, q2⟩ => ?_⟩
  have r1' := r1.step S1 t2
  have r0' := (r0.step S0 t1).step S1 t2
  subst ex
  cases r1'
  obtain ⟨vs, e1, rs⟩ := S2.dic ep
  have ew := keyQ_kV ek r2
  subst ew
  obtain ⟨S3, t3⟩ := S2.write (o' := .dic (putQ kvs k x)) (u := .dK (putK vs k v0)) ep (repKV_put r0' rs)
  exact ⟨p, _, rfl, DPut.k e1 (by rw [← repKV_len rs]; exact hl), F2, _, n, ((t0.trans t1).trans t2).trans t3, S3, (((E.step S t0).step S0 t1).step S1 t2).step S2 t3, q2⟩
/-! {"a": .., "b": ..} -/
def pairsQ : List (TQ × TQ) → Sq → Hq → (List (PV × PV) → Hq → Prop) → Prop
  | [], _, h, Q => Q [] h
  | (tk, tv) :: r, n, h, Q => tk n h fun k h1 => tv n h1 fun v h2 => pairsQ r n h2 fun ps h3 => Q ((k, v) :: ps) h3
def keysQ : List (PV × PV) → Option (List (Key × PV))
  | [] => some []
  | (k, v) :: r => match keyQ k, keysQ r with
    | some k, some r => some ((k, v) :: r)
    | _, _ => none
def mergeQ (kvs more : List (Key × PV)) : List (Key × PV) := more.foldl (fun acc kv => putQ acc kv.1 kv.2) kvs
def dispQ (ps : List (TQ × TQ)) : TQ := fun n h Q => pairsQ ps n h fun xs h1 => ∃ kvs, keysQ xs = some kvs ∧ kvs.length ≤ 15 ∧ ∀ p, h1 p = none → Q (.ref p) (up h1 p (.dic (mergeQ [] kvs)))
inductive QPs (X : Cx) (G : Gr) (pos : Pos) : List (Option Expr) → List Expr → List (TQ × TQ) → Prop
  | nil : QPs X G pos [] [] []
  | cons {k v : Expr} {ks : List (Option Expr)} {vs : List Expr} {tk tv : TQ} {trs : List (TQ × TQ)} : QE X G k tk → QE X G v tv → QPs X G pos ks vs trs → QPs X G pos (some k :: ks) (v :: vs) ((tk, tv) :: trs)
theorem QPs.pps {ks : List (Option Expr)} {vs : List Expr} {trs : List (TQ × TQ)} : QPs X G pos ks vs trs → PPs X pos ks vs (trs.map fun p => (lE X.K G p.1, lE X.K G p.2))
  | .nil => pps_nil
  | .cons a b r => pps_cons a.pe b.pe r.pps
abbrev RepVV (K : PySem.W.Frag) (F : Addr → Prop) (H : Hp) : List (PV × PV) → List (V × V) → Prop := Paired (fun (p : PV × PV) (q : V × V) => Rep K F H p.1 q.1 ∧ Rep K F H p.2 q.2)
theorem pairs_run {n : Sq} {σ : L2.St} : ∀ (trs : List (TQ × TQ)) (F : Addr → Prop) (h : Hq) (H : Hp) (Q : List (PV × PV) → Hq → Prop) (R : List (V × V) → Hp → Prop), Step G.F G.h G.H F h H → HSim X.K G.T F h H → ESim X.K F H n σ → pairsQ trs n h Q →
    (∀ F' h' H' xs vs, Step F h H F' h' H' → HSim X.K G.T F' h' H' → RepVV X.K F' H' xs vs → Q xs h' → R vs H') → tPairs (trs.map fun p => (lE X.K G p.1, lE X.K G p.2)) σ H R
  | [], F, h, H, Q, R, s, S, E, q, k => k F h H [] [] (.refl _ _ _) S .nil q
  | (tk, tv) :: r, F, h, H, Q, R, s, S, E, q, k => by
    refine ⟨F, h, n, _, s, S, E, q, fun v1 H1 ⟨F1, h1, x, t1, S1, r1, q1⟩ => ?_⟩
    refine ⟨F1, h1, n, _, s.trans t1, S1, E.step S t1, q1, fun v2 H2 ⟨F2, h2, y, t2, S2, r2, q2⟩ => ?_⟩
    refine pairs_run r F2 h2 H2 _ _ ((s.trans t1).trans t2) S2 ((E.step S t1).step S1 t2) q2 fun F3 h3 H3 xs vs t3 S3 rv q3 => ?_
    exact k F3 h3 H3 _ _ ((t1.trans t2).trans t3) S3 (.cons ⟨(r1.step S1 t2).step S2 t3, r2.step S2 t3⟩ rv) q3
theorem keys_rep {K : PySem.W.Frag} {F : Addr → Prop} {H : Hp} : ∀ {xs : List (PV × PV)} {vs : List (V × V)} {kvs : List (Key × PV)}, RepVV K F H xs vs → keysQ xs = some kvs → ∃ kws : List (Key × V), vs = kws.map (fun kv => (kV kv.1, kv.2)) ∧ RepKV K F H kvs kws
  | _, _, _, .nil, e => by cases e; exact ⟨[], rfl, .nil⟩
  | (k, v) :: r, (k2, v2) :: r2, kvs, .cons ⟨rk, rv⟩ t, e => by
    unfold keysQ at e
    split at e
    · rename_i k' r' e1 e2
      cases e
      obtain ⟨kws, e3, q⟩ := keys_rep t e2
      have ew := keyQ_kV e1 rk
      have ew : k2 = kV k' := ew
      subst ew
      exact ⟨(k', v2) :: kws, by rw [e3]; rfl, .cons ⟨rfl, rv⟩ q⟩
    · cases e
theorem merge_rep {K : PySem.W.Frag} {F : Addr → Prop} {H : Hp} : ∀ {more : List (Key × PV)} {mv : List (Key × V)} {kvs : List (Key × PV)} {vs : List (Key × V)}, RepKV K F H more mv → RepKV K F H kvs vs → RepKV K F H (mergeQ kvs more) (mergeK vs mv)
  | _, _, _, _, .nil, r => r
  | (k1, x) :: m, (k2, y) :: m2, kvs, vs, .cons ⟨e, rx⟩ t, r => by
    have e : k1 = k2 := e
    subst e
    exact merge_rep (kvs := putQ kvs k1 x) (vs := putK vs k1 y) t (repKV_put rx r)
theorem qe_disp {keys : List (Option Expr)} {values : List Expr} {trs : List (TQ × TQ)} (hp : QPs X G pos keys values trs) (hall : keys.all (·.isSome) = true := by rfl) (hl : keys.length = values.length := by rfl) (h0 : keys ≠ [] := by exact fun z => nomatch z)
    (h15 : keys.length ≤ 15 := by decide) : QE X G (.Dict keys values pos) (dispQ trs) := by
  refine QE.of (pe_disp hp.pps hall hl h0 h15) fun F h H n σ Q s S E q => ?_
  intro p np
  have nf : ¬ F p := fun f => by
    obtain ⟨o, e, _⟩ := S.fz p f
    rw [np] at e; cases e
  have sp : Step G.F G.h G.H F h (upd H p (.dK [])) := s.poke fun u i e m => by
    have := (s.kp p u i e m).1
    rw [np] at this; cases this
  refine pairs_run trs F h _ _ _ sp (S.poke nf (S.free np) fun u e => by rw [np] at e; cases e) (E.poke nf) q fun F1 h1 H1 xs vs t1 S1 rv ⟨kvs, ek, hk, q1⟩ => ?_
  obtain ⟨e1, n1, nf1⟩ := t1.hid upd_same (S.free np) nf
  obtain ⟨kws, ev, rk⟩ := keys_rep rv ek
  refine ⟨e1, kws, ev, by rw [← repKV_len rk]; exact hk, ?_⟩
  have S2 := S1.show (p := p) (x := .dic (mergeQ [] kvs)) (u := .dK (mergeK [] kws)) nf1 (merge_rep rk .nil) fun u e => by rw [e1] at e; cases e; rfl
  refine ⟨F1, _, .ref p, ?_, S2, .ref p, q1 p n1⟩
  exact Step.show (t1.pre np) np
end
end L3

/-! L3d: what is walked, for, while, comprehensions. -/
namespace L3
open PySem PySem.Spec PyProof.Rows L2

/-- what is walked: its items, and what must stand at each turn -/
structure LIt where
  items : List PV
  st : Hq → Prop
/-- from any state behind F0, h0, H0: turn i yields item i -/
def ItOk (K : PySem.W.Frag) (T : TL) (J : It) (L : LIt) (F0 : Addr → Prop) (h0 : Hq) (H0 : Hp) : Prop :=
  ∀ i F h H, Step F0 h0 H0 F h H → HSim K T F h H → L.st h →
    (∀ x, L.items[i]? = some x → J.go i H ∧ ∀ v H', J.yld i H v H' → ∃ F', Step F h H F' h H' ∧ HSim K T F' h H' ∧ Rep K F' H' x v) ∧ (L.items.length ≤ i → J.stop i H)
abbrev IQ := Sq → Hq → (LIt → Hq → Prop) → Prop
def IPost (K : PySem.W.Frag) (T : TL) (F : Addr → Prop) (h : Hq) (H : Hp) (R : LIt → Hq → Prop) : It → Hp → Prop := fun J H' => ∃ F' h' L, Step F h H F' h' H' ∧ HSim K T F' h' H' ∧ ItOk K T J L F' h' H' ∧ R L h'
structure QI (X : Cx) (G : Gr) (tg iter : Expr) (t : IQ) : Prop where
  run : ∀ pins s F h H n σ R, Inv X pins σ H s → Step G.F G.h G.H F h H → HSim X.K G.T F h H → ESim X.K F H n σ → t n h R →
    wpAny (model X.prog X.w) X.A (eval iter X.env) (fun v s1 => wpAny (model X.prog X.w) X.A (pyIter v) (PIE X pins σ tg (IPost X.K G.T F h H R)) X.xe s1) X.xe s
def lI (K : PySem.W.Frag) (G : Gr) (t : IQ) : TI := fun σ H R => ∃ F h n R', Step G.F G.h G.H F h H ∧ HSim K G.T F h H ∧ ESim K F H n σ ∧ t n h R' ∧ ∀ J H', IPost K G.T F h H R' J H' → R J H'
section
variable {X : Cx} {G : Gr} {e a b c o i tg iter : Expr} {t ta tb to ti tv : TQ} {pos : Pos} {es : List Expr} {tr : AQ}
theorem QI.pi {t : IQ} (q : QI X G tg iter t) : PI X tg iter (lI X.K G t) := by
  refine ⟨fun pins s σ H R I ⟨F, h, n, R', a, b, c, d, k⟩ => ?_⟩
  refine thn (q.run pins s F h H n σ R' I a b c d) fun v s1 w => thn w fun itv s2 ⟨it, fp, tn, J, H', e1, I', T, z, f, p⟩ => ?_
  exact ⟨it, fp, tn, J, H', e1, I', T, z, f, k _ _ p⟩
theorem QI.of {t : IQ} {wi : TI} (p : PI X tg iter wi) (f : ∀ F h H n σ R, Step G.F G.h G.H F h H → HSim X.K G.T F h H → ESim X.K F H n σ → t n h R → wi σ H (IPost X.K G.T F h H R)) : QI X G tg iter t :=
  ⟨fun pins s F h H n σ R I a b c d => p.run pins s σ H _ I (f F h H n σ R a b c d)⟩
/-- over a list or a tuple -/
def stOf (x : PV) (xs : List PV) : Hq → Prop := fun h => seqOf h x = some xs
def lstI (t : TQ) : IQ := fun n h R => t n h fun x h1 => ∃ xs, lstOf h1 x = some xs ∧ R ⟨xs, fun h => lstOf h x = some xs⟩ h1
def tupI (t : TQ) : IQ := fun n h R => t n h fun x h1 => ∃ xs, x = .tup xs ∧ R ⟨xs, fun _ => True⟩ h1
theorem qi_list (he : QE X G e t) : QI X G tg e (lstI t) := by
  refine QI.of (pi_list he.pe) fun F h H n σ R s S E hq => ?_
  refine ⟨F, h, n, _, s, S, E, hq, fun v1 H1 ⟨F1, h1, x, t1, S1, r1, xs, ex, q1⟩ => ?_⟩
  obtain ⟨a, vs, rfl, hs, rs⟩ := lstOf_rep S1 ex r1
  refine ⟨a, rfl, ⟨vs, hs⟩, F1, h1, _, t1, S1, fun i F2 h2 H2 t2 S2 st => ?_, q1⟩
  obtain ⟨a', ws, e', hs2, rs2⟩ := lstOf_rep S2 st (r1.step S1 t2)
  cases e'
  refine ⟨fun y ey => ?_, fun hl => ⟨ws, hs2, by rw [← rs2.length]; exact hl⟩⟩
  obtain ⟨w, ew, rw'⟩ := rs2.get ey
  refine ⟨⟨ws, w, hs2, ew⟩, fun v H' ⟨eH, hv⟩ => ?_⟩
  subst eH
  have := hv ws hs2
  rw [ew] at this
  cases this
  exact ⟨F2, .refl _ _ _, S2, rw'⟩
theorem qi_tup (he : QE X G e t) : QI X G tg e (tupI t) := by
  refine QI.of (pi_tup he.pe) fun F h H n σ R s S E hq => ?_
  refine ⟨F, h, n, _, s, S, E, hq, fun v1 H1 ⟨F1, h1, x, t1, S1, r1, xs, ex, q1⟩ => ?_⟩
  subst ex
  cases r1 with
  | tup tp rs =>
    refine ⟨_, rfl, ⟨_, tp.seq⟩, F1, h1, _, t1, S1, fun i F2 h2 H2 t2 S2 st => ?_, q1⟩
    have rs2 := rs.step S1 t2
    have hs2 := (tp.step S1 t2).seq
    refine ⟨fun y ey => ?_, fun hl => ⟨_, hs2, by rw [← rs2.length]; exact hl⟩⟩
    obtain ⟨w, ew, rw'⟩ := rs2.get ey
    refine ⟨⟨_, w, hs2, ew⟩, fun v H' ⟨eH, hv⟩ => ?_⟩
    subst eH
    have := hv _ hs2
    rw [ew] at this
    cases this
    exact ⟨F2, .refl _ _ _, S2, rw'⟩
/-- over range(b), range(a, b) -/
def rgItems (lo : Int) (k : Nat) : List PV := (List.range k).map fun i => PV.int (lo + (i : Nat))
theorem itOk_rg (K : PySem.W.Frag) (T : TL) (lo : Int) (k : Nat) (F : Addr → Prop) (h : Hq) (H : Hp) : ItOk K T (Itr lo k) ⟨rgItems lo k, fun _ => True⟩ F h H := by
  intro i F2 h2 H2 t2 S2 _
  refine ⟨fun y ey => ?_, fun hl => by have hl : (rgItems lo k).length ≤ i := hl; rw [rgItems, List.length_map, List.length_range] at hl; exact hl⟩
  have ey : ((List.range k).map fun i => PV.int (lo + (i : Nat)))[i]? = some y := ey
  rw [List.getElem?_map] at ey
  by_cases hi : i < k
  · rw [List.getElem?_range hi] at ey
    cases ey
    refine ⟨hi, fun v H' ⟨eH, ev⟩ => ?_⟩
    subst eH ev
    exact ⟨F2, .refl _ _ _, S2, .int _⟩
  · rw [List.getElem?_eq_none (by rw [List.length_range]; omega)] at ey
    cases ey
def rg1I (t : TQ) : IQ := fun n h R => t n h fun x h1 => ∃ j, x = .int j ∧ (-(2 ^ 62) ≤ j ∧ j < 2 ^ 62) ∧ R ⟨rgItems 0 j.toNat, fun _ => True⟩ h1
def rg2I (ta tb : TQ) : IQ := fun n h R => ta n h fun x h1 => tb n h1 fun y h2 => ∃ i j, x = .int i ∧ y = .int j ∧ (-(2 ^ 62) ≤ i ∧ i < 2 ^ 62 ∧ -(2 ^ 62) ≤ j ∧ j < 2 ^ 62) ∧ R ⟨rgItems i (j - i).toNat, fun _ => True⟩ h2
theorem qi_range1 {p : Pos} (hg : Gl X "range") (hm : X.mg "range" = none) (ha : QE X G a t) (hs : starEach [a] X.env = [(false, eval a X.env)] := by rfl) : QI X G tg (.Call (.Name "range" p) [a] [] pos) (rg1I t) := by
  refine QI.of (pi_range1 hg hm (pa_cons ha.pe pa_nil hs) hs) fun F h H n σ R s S E hq => ?_
  refine ⟨F, h, n, _, s, S, E, hq, fun v1 H1 ⟨F1, h1, x, t1, S1, r1, j, ex, hj, q1⟩ => ?_⟩
  subst ex
  cases r1
  exact ⟨j, rfl, hj.1, hj.2, F1, h1, _, t1, S1, itOk_rg _ _ _ _ _ _ _, q1⟩
theorem qi_range2 {p : Pos} (hg : Gl X "range") (hm : X.mg "range" = none) (ha : QE X G a ta) (hb : QE X G b tb) (hs : starEach [a, b] X.env = [(false, eval a X.env), (false, eval b X.env)] := by rfl) (hs1 : starEach [b] X.env = [(false, eval b X.env)] := by rfl) :
    QI X G tg (.Call (.Name "range" p) [a, b] [] pos) (rg2I ta tb) := by
  refine QI.of (pi_range2 hg hm (pa_cons ha.pe (pa_cons hb.pe pa_nil (by rw [hs1]; rfl)) (by rw [hs, hs1])) hs hs1) fun F h H n σ R s S E hq => ?_
  refine ⟨F, h, n, _, s, S, E, hq, fun v1 H1 ⟨F1, h1, x, t1, S1, r1, q1⟩ => ?_⟩
  refine ⟨F1, h1, n, _, s.trans t1, S1, E.step S t1, q1, fun v2 H2 ⟨F2, h2, y, t2, S2, r2, i, j, ex, ey, hj, q2⟩ => ?_⟩
  subst ex ey
  cases r1
  cases r2
  exact ⟨i, j, rfl, hj, F2, h2, _, t1.trans t2, S2, itOk_rg _ _ _ _ _ _ _, q2⟩
end

/-! ### for, while -/
def wk (P : Sq → Hq → Prop) : Sq → Hq → Prop := fun n h => ∃ h', Sub h' h ∧ P n h'
def forQ (st : Hq → Prop) (g : GQ) (b : SQ) (D : EndQ) : List PV → Sq → Hq → Prop
  | [] => fun n h => st h ∧ D.nx n h
  | x :: r => fun n h => st h ∧ g x n h fun n1 h1 => b { D with nx := wk (forQ st g b D r), ct := wk (forQ st g b D r), bk := D.nx } n1 h1
def forS (wi : IQ) (g : GQ) (b : SQ) : SQ := fun D n h => wi n h fun L h1 => forQ L.st g b D L.items n h1
def whQ (c : BQ) (b : SQ) (D : EndQ) : Nat → Sq → Hq → Prop
  | 0 => fun _ _ => False
  | m + 1 => fun n h => c n h fun k h1 => if k = true then b { D with nx := wk (whQ c b D m), ct := wk (whQ c b D m), bk := D.nx } n h1 else D.nx n h1
def whS (c : BQ) (b : SQ) : SQ := fun D n h => ∃ m, whQ c b D m n h
section
variable {X : Cx} {G : Gr} {e a b c o i tg iter : Expr} {t ta tb to ti tv : TQ} {pos : Pos} {es : List Expr} {tr : AQ} {st : Stmt} {rest : List Stmt} {u v : SQ}
theorem qs_for {iter : Expr} {body : List Stmt} {wi : IQ} {g : GQ} (hp : PassesOwn (model X.prog X.w) X.A X.env X.xe) (hc : X.calm = true) (hi : QI X G tg iter wi) {ws : List Nat} (hg : QG X G ws tg g) (hb : QSs X G body u)
    (hs : ∀ x, foldedSetIterable iter X.env x = pure x := by intro _; rfl) : QS X G (.For tg iter body [] pos) (forS wi g u) := by
  refine QS.of (ps_for hp hc hi.pi hg.pg hb.pss hs) fun F h H n σ D s S E hq => ?_
  refine ⟨F, h, n, _, s, S, E, hq, fun J H1 ⟨F1, h1, L, t1, S1, io, q1⟩ => ?_⟩
  refine ⟨fun i m σ' H' => m = L.items.length - i ∧ i ≤ L.items.length ∧ ∃ F' h' n', Step F1 h1 H1 F' h' H' ∧ HSim X.K G.T F' h' H' ∧ ESim X.K F' H' n' σ' ∧ forQ L.st g u D (L.items.drop i) n' h', ⟨_, rfl, Nat.zero_le _, F1, h1, n, .refl _ _ _, S1, E.step S t1, q1⟩, ?_⟩
  rintro i m σ' H' ⟨rfl, hi, F', h', n', t', S', E', q'⟩
  by_cases hlt : i < L.items.length
  · rw [List.drop_eq_getElem_cons hlt] at q'
    obtain ⟨st, q'⟩ := q'
    obtain ⟨hgo, hyl⟩ := (io i F' h' H' t' S' st).1 _ (List.getElem?_eq_getElem hlt)
    refine .inr ⟨hgo, fun σ2 H2 => (L.items.length - (i + 1)) = L.items.length - (i + 1) ∧ i + 1 ≤ L.items.length ∧ ∃ F' h' n', Step F1 h1 H1 F' h' H2 ∧ HSim X.K G.T F' h' H2 ∧ ESim X.K F' H2 n' σ2 ∧ forQ L.st g u D (L.items.drop (i + 1)) n' h', fun σ2 H2 w => ⟨_, by omega, w⟩, fun x H2 hy => ?_⟩
    obtain ⟨F2, t2, S2, r2⟩ := hyl x H2 hy
    refine ⟨F2, h', n', _, _, ((s.trans t1).trans t').trans t2, S2, E'.step S' t2, r2, q', fun σ3 H3 _ ⟨F3, h3, n3, t3, S3, E3, q3⟩ => ?_⟩
    refine ⟨F3, h3, n3, _, (((s.trans t1).trans t').trans t2).trans t3, S3, E3, q3, ?_⟩
    have wkN : ∀ σ4 H4, NPost X.K G.T F3 h3 H3 (wk (forQ L.st g u D (L.items.drop (i + 1)))) σ4 H4 → (L.items.length - (i + 1)) = L.items.length - (i + 1) ∧ i + 1 ≤ L.items.length ∧ ∃ F' h' n', Step F1 h1 H1 F' h' H4 ∧ HSim X.K G.T F' h' H4 ∧ ESim X.K F' H4 n' σ4 ∧ forQ L.st g u D (L.items.drop (i + 1)) n' h' := fun σ4 H4 ⟨F4, h4, n4, t4, S4, E4, h5, sb, q5⟩ =>
      ⟨rfl, hlt, F4, h5, n4, ((((t'.trans t2).trans t3).trans t4).trans (.sub sb F4 H4)), S4.sub sb, E4, q5⟩
    exact ⟨wkN, fun _ _ p => EPost.step ((((t1.trans t').trans t2).trans t3)) p, fun _ _ p => NPost.step ((((t1.trans t').trans t2).trans t3)) p, wkN⟩
  · have e : i = L.items.length := by omega
    subst e
    rw [List.drop_length] at q'
    obtain ⟨st, q'⟩ := q'
    exact .inl ⟨(io _ F' h' H' t' S' st).2 (Nat.le_refl _), F', h', n', t1.trans t', S', E', q'⟩
theorem qs_while {c : Expr} {body : List Stmt} {tc : BQ} (hp : PassesOwn (model X.prog X.w) X.A X.env X.xe) (hc : QT X G c tc) (hb : QSs X G body u) : QS X G (.While c body [] pos) (whS tc u) := by
  refine QS.of (ps_while hp hc.pt hb.pss) fun F h H n σ D s S E ⟨m0, hq⟩ => ?_
  refine ⟨fun m σ' H' => ∃ F' h' n', Step F h H F' h' H' ∧ HSim X.K G.T F' h' H' ∧ ESim X.K F' H' n' σ' ∧ whQ tc u D m n' h', ⟨m0, F, h, n, .refl _ _ _, S, E, hq⟩, ?_⟩
  rintro m σ' H' ⟨F', h', n', t', S', E', q'⟩
  cases m with
  | zero => exact q'.elim
  | succ m =>
    refine ⟨F', h', n', _, s.trans t', S', E', q', fun k H1 ⟨F1, h1, t1, S1, q1⟩ => ?_⟩
    cases k with
    | false => exact ⟨F1, h1, n', t'.trans t1, S1, E'.step S' t1, q1⟩
    | true =>
      refine ⟨fun σ' H' => ∃ F' h' n', Step F h H F' h' H' ∧ HSim X.K G.T F' h' H' ∧ ESim X.K F' H' n' σ' ∧ whQ tc u D m n' h', fun σ2 H2 w => ⟨m, Nat.lt_succ_self m, w⟩, ?_⟩
      refine ⟨F1, h1, n', _, (s.trans t').trans t1, S1, E'.step S' t1, q1, ?_⟩
      have wkN : ∀ σ4 H4, NPost X.K G.T F1 h1 H1 (wk (whQ tc u D m)) σ4 H4 → ∃ F' h' n', Step F h H F' h' H4 ∧ HSim X.K G.T F' h' H4 ∧ ESim X.K F' H4 n' σ4 ∧ whQ tc u D m n' h' := fun σ4 H4 ⟨F4, h4, n4, t4, S4, E4, h5, sb, q5⟩ =>
        ⟨F4, h5, n4, (((t'.trans t1).trans t4).trans (.sub sb F4 H4)), S4.sub sb, E4, q5⟩
      exact ⟨wkN, fun _ _ p => EPost.step (t'.trans t1) p, fun _ _ p => NPost.step (t'.trans t1) p, wkN⟩

/-! ### comprehensions -/
def wipeQ (n : Sq) : List Nat → Sq
  | [] => n
  | v :: vs => (wipeQ n vs).set v none
end
theorem wipeQ_len (n : Sq) : ∀ vs, (wipeQ n vs).length = n.length
  | [] => rfl
  | v :: vs => by unfold wipeQ; rw [List.length_set, wipeQ_len n vs]
theorem ESim.setN {K : PySem.W.Frag} {F : Addr → Prop} {H : Hp} {n : Sq} {σ : L2.St} (E : ESim K F H n σ) {i : Nat} : ESim K F H (n.set i none) (σ.set i none) := by
  refine ⟨by rw [List.length_set, List.length_set]; exact E.len, fun j y e => ?_⟩
  by_cases hj : i = j
  · subst hj
    by_cases hi : i < n.length
    · rw [List.getElem?_set_self hi] at e; cases e
    · rw [List.getElem?_eq_none (by rw [List.length_set]; omega)] at e; cases e
  · rw [List.getElem?_set_ne hj] at e ⊢
    exact E.at_ j y e
theorem ESim.wipe {K : PySem.W.Frag} {F : Addr → Prop} {H : Hp} {n : Sq} {σ : L2.St} (E : ESim K F H n σ) : ∀ vs, ESim K F H (wipeQ n vs) (wipe σ vs)
  | [] => E
  | v :: vs => (ESim.wipe E vs).setN
def yesT : BQ := fun _ h Q => Q true h
structure QTs (X : Cx) (G : Gr) (ifs : List Expr) (t : BQ) : Prop where
  run : ∃ tt, PTs X ifs tt ∧ ∀ F h H n σ Q (R : Bool → Hp → Prop), Step G.F G.h G.H F h H → HSim X.K G.T F h H → ESim X.K F H n σ → t n h Q → (∀ b H', TPost X.K G.T F h H Q b H' → R b H') → tt σ H R
theorem qts_nil {X : Cx} {G : Gr} : QTs X G [] yesT := ⟨tYes, pts_nil, fun F h H n σ Q R s S E q k => k _ _ ⟨F, h, .refl _ _ _, S, q⟩⟩
theorem qts_one {X : Cx} {G : Gr} {c : Expr} {t : BQ} (q : QT X G c t) : QTs X G [c] t := ⟨_, pts_one q.pt, fun F h H n σ Q R s S E p k => ⟨F, h, n, Q, s, S, E, p, k⟩⟩
def lTs (K : PySem.W.Frag) (G : Gr) (t : BQ) : TT := lT K G t
theorem QTs.pts {X : Cx} {G : Gr} {ifs : List Expr} {t : BQ} (q : QTs X G ifs t) : PTs X ifs (lT X.K G t) := by
  obtain ⟨tt, p, i⟩ := q.run
  exact ⟨fun pins s σ H Q I ⟨F, h, n, Q', a, b, c, d, f⟩ => p.run pins s σ H Q I (i F h H n σ Q' Q a b c d f)⟩
/-- turn by turn: what the comprehension's list holds at the end -/
def lcQ (st : Hq → Prop) (g : GQ) (tt : BQ) (te : TQ) (n : Sq) : List PV → Hq → (List PV → Hq → Prop) → Prop
  | [], h, Q => st h ∧ Q [] h
  | x :: r, h, Q => st h ∧ g x n h fun n2 h2 => tt n2 h2 fun b h3 =>
      if b = true then te n2 h3 fun y h4 => ∃ h5, Sub h5 h4 ∧ lcQ st g tt te n r h5 fun ys h6 => Q (y :: ys) h6
      else ∃ h5, Sub h5 h3 ∧ lcQ st g tt te n r h5 Q
def lcE (wi : IQ) (g : GQ) (tt : BQ) (te : TQ) (vs : List Nat) : TQ := fun n h Q => wi n h fun L h1 => L.items.length ≤ sizeLine ∧ lcQ L.st g tt te (wipeQ n vs) L.items h1 fun ys h2 => ∀ p, h2 p = none → Q (.ref p) (up h2 p (.lst ys))
section
variable {X : Cx} {G : Gr} {elt tg iter : Expr} {ifs : List Expr} {pos : Pos}
theorem wipe_out' (σ : L2.St) : ∀ (vs : List Nat) (i : Nat), i ∉ vs → (wipe σ vs)[i]? = σ[i]?
  | [], _, _ => rfl
  | v :: vs, i, hi => by
    simp only [List.mem_cons, not_or] at hi
    unfold wipe
    rw [List.getElem?_set_ne (Ne.symm hi.1)]
    exact wipe_out' σ vs i hi.2
theorem wipe_in (σ : L2.St) : ∀ (vs : List Nat) (i : Nat), i ∈ vs → i < σ.length → (wipe σ vs)[i]? = some none
  | v :: vs, i, hi, hl => by
    unfold wipe
    by_cases e : v = i
    · subst e
      rw [List.getElem?_set_self (by rw [wipe_length]; exact hl)]
    · rw [List.getElem?_set_ne e]
      rcases List.mem_cons.mp hi with z | z
      · exact absurd z.symm e
      · exact wipe_in σ vs i z hl
theorem wipe_off {ws vs : List Nat} {σ σ' : L2.St} (o : Off ws (wipe σ vs) σ') (h : ∀ i ∈ ws, i ∈ vs) : wipe σ' vs = wipe σ vs := by
  have hl : σ'.length = σ.length := by rw [o.1, wipe_length]
  refine List.ext_getElem? fun i => ?_
  by_cases hi : i ∈ vs
  · by_cases hs : i < σ.length
    · rw [wipe_in _ _ _ hi (by omega), wipe_in _ _ _ hi hs]
    · rw [List.getElem?_eq_none (by rw [wipe_length]; omega), List.getElem?_eq_none (by rw [wipe_length]; omega)]
  · rw [wipe_out' _ _ _ hi, o.2 i fun z => hi (h i z)]
theorem lc_run {K : PySem.W.Frag} {G : Gr} {wi : IQ} {g : GQ} {tt : BQ} {te : TQ} {vs ws : List Nat} {F : Addr → Prop} {h : Hq} {H : Hp} {n : Sq} {σ : L2.St} {Q : VQ} (hw : ∀ i ∈ ws, i ∈ vs)
    (s : Step G.F G.h G.H F h H) (S : HSim K G.T F h H) (E : ESim K F H n σ) (hq : lcE wi g tt te vs n h Q) :
    tLc (lI K G wi) (lG K G ws g) (lT K G tt) (lE K G te) vs σ H (EPost K G.T F h H Q) := by
  refine ⟨F, h, n, _, s, S, E, hq, fun J H1 ⟨F1, h1, L, t1, S1, io, hL, q1⟩ => ?_⟩
  intro D nD
  have nf : ¬ F1 D := fun f => by
    obtain ⟨o, e, _⟩ := S1.fz D f
    rw [nD] at e; cases e
  refine ⟨fun i m H' => m = L.items.length - i ∧ i ≤ L.items.length ∧ ∃ F' h' acc vacc, Step F1 h1 H1 F' h' H' ∧ HSim K G.T F' h' H' ∧ ¬ F' D ∧ h' D = none ∧ H' D = some (.lst vacc) ∧ Reps K F' H' acc vacc ∧ acc.length ≤ i ∧
    lcQ L.st g tt te (wipeQ n vs) (L.items.drop i) h' (fun ys h2 => ∀ p, h2 p = none → Q (.ref p) (up h2 p (.lst (acc ++ ys)))),
    ⟨_, rfl, Nat.zero_le _, F1, h1, [], [], (Step.refl F1 h1 H1).poke (fun u _ e => by rw [nD] at e; cases e), S1.poke nf (S1.free nD) (fun u e => by rw [nD] at e; cases e), nf, S1.free nD, upd_same, .nil, Nat.le_refl _, q1⟩, ?_⟩
  rintro i m H' ⟨rfl, hi, F', h', acc, vacc, t', S', nf', nh', eD, ra, hacc, q'⟩
  by_cases hlt : i < L.items.length
  · rw [List.drop_eq_getElem_cons hlt] at q'
    obtain ⟨st, q'⟩ := q'
    obtain ⟨hgo, hyl⟩ := (io i F' h' H' t' S' st).1 _ (List.getElem?_eq_getElem hlt)
    refine .inr ⟨hgo, fun H' => ∃ F' h' acc vacc, Step F1 h1 H1 F' h' H' ∧ HSim K G.T F' h' H' ∧ ¬ F' D ∧ h' D = none ∧ H' D = some (.lst vacc) ∧ Reps K F' H' acc vacc ∧ acc.length ≤ i + 1 ∧
      lcQ L.st g tt te (wipeQ n vs) (L.items.drop (i + 1)) h' (fun ys h2 => ∀ p, h2 p = none → Q (.ref p) (up h2 p (.lst (acc ++ ys)))), fun H2 w => ⟨L.items.length - (i + 1), by omega, rfl, hlt, w⟩, fun x H2 hy => ?_⟩
    obtain ⟨F2, t2, S2, r2⟩ := hyl x H2 hy
    obtain ⟨eD2, nh2, nf2⟩ := t2.hid eD nh' nf'
    have E2 : ESim K F2 H2 (wipeQ n vs) (wipe σ vs) := ((((E.step S t1).wipe vs).step S1 t')).step S' t2
    refine ⟨F2, h', _, _, _, ((s.trans t1).trans t').trans t2, S2, E2, r2, q', fun σ3 H3 off ⟨F3, h3, n3, t3, S3, E3, q3⟩ => ⟨wipe_off off hw, ?_⟩⟩
    obtain ⟨eD3, nh3, nf3⟩ := t3.hid eD2 nh2 nf2
    refine ⟨F3, h3, n3, _, (((s.trans t1).trans t').trans t2).trans t3, S3, E3, q3, fun b H4 ⟨F4, h4, t4, S4, q4⟩ => ?_⟩
    obtain ⟨eD4, nh4, nf4⟩ := t4.hid eD3 nh3 nf3
    have ra4 := (((ra.step S' t2).step S2 t3).step S3 t4)
    have T4 := ((t'.trans t2).trans t3).trans t4
    cases b with
    | false =>
      obtain ⟨h5, sb, q5⟩ := q4
      exact ⟨F4, h5, acc, vacc, T4.trans (.sub sb F4 H4), S4.sub sb, nf4, sb.none nh4, eD4, ra4, Nat.le_succ_of_le hacc, q5⟩
    | true =>
      refine ⟨F4, h4, n3, _, ((((s.trans t1).trans t').trans t2).trans t3).trans t4, S4, E3.step S3 t4, q4, fun v5 H5 ⟨F5, h5, y, t5, S5, r5, h6, sb, q6⟩ => ?_⟩
      obtain ⟨eD5, nh5, nf5⟩ := t5.hid eD4 nh4 nf4
      have ra5 := ra4.step S4 t5
      refine ⟨vacc, eD5, ?_, F5, h6, acc ++ [y], vacc ++ [v5], ?_, (S5.poke nf5 nh5 fun u e => by rw [eD5] at e; cases e; rfl).sub sb, nf5, sb.none nh5, upd_same, (ra5.append (.one r5)).poke nf5, by rw [List.length_append, List.length_singleton]; omega, ?_⟩
      · have := ra5.length
        omega
      · exact ((T4.trans t5).trans (.sub sb F5 H5)).poke fun u _ e => by rw [nD] at e; cases e
      · simpa only [List.append_assoc, List.singleton_append] using q6
  · have e : i = L.items.length := by omega
    subst e
    rw [List.drop_length] at q'
    obtain ⟨st, q'⟩ := q'
    refine .inl ⟨(io _ F' h' H' t' S' st).2 (Nat.le_refl _), ?_⟩
    have S2 := S'.show (p := D) (x := .lst acc) (u := .lst vacc) nf' ra fun u e => by rw [eD] at e; cases e; rfl
    have eH : upd H' D (.lst vacc) = H' := by
      funext b
      unfold upd
      split
      · rename_i z; rw [z]; exact eD.symm
      · rfl
    rw [eH] at S2
    have t2 := Step.show (x := .lst acc) (u := .lst vacc) t' nD
    rw [eH] at t2
    have q2 := q' D nh'
    rw [List.append_nil] at q2
    exact ⟨F', _, .ref D, t1.trans t2, S2, .ref D, q2⟩
end
end L3

/-! L3e: comprehensions as rules, enumerate of lists and tuples, zip, methods of lists, lists' + and *. -/
namespace L3
open PySem PySem.Spec PyProof.Rows L2

section
variable {X : Cx} {G : Gr} {elt tg iter : Expr} {ifs : List Expr} {pos : Pos} {scope : Scope} {own : List (Str × Nat)} {wi : IQ} {g : GQ} {tt : BQ} {te : TQ} {ws : List Nat}
/-- [elt for tg in iter if ..] -/
theorem qe_lc (hc : X.calm = true) (hN : X.N.Nodup) (hi : QI X G tg iter wi) (ok : BlkOk X.N X.env.scope scope own) (hw : ∀ i ∈ ws, i ∈ own.map (·.2))
    (hg : ∀ (s : Shared) (H : Hp) (C : Addr) (cl : List (Str × Addr)) (fp : List Addr), QG (X.blk s H scope (compEnvC scope cl C X.env) fp) G ws tg g) (ht : ∀ (s : Shared) (H : Hp) (C : Addr) (cl : List (Str × Addr)) (fp : List Addr), QTs (X.blk s H scope (compEnvC scope cl C X.env) fp) G ifs tt)
    (he : ∀ (s : Shared) (H : Hp) (C : Addr) (cl : List (Str × Addr)) (fp : List Addr), QE (X.blk s H scope (compEnvC scope cl C X.env) fp) G elt te) (hs : ∀ x, foldedSetIterable iter X.env x = pure x := by intro _; rfl) :
    QE X G (.ListComp elt [⟨tg, iter, ifs, 0⟩] scope pos) (lcE wi g tt te (own.map (·.2))) :=
  QE.of (pe_lc (te := lE X.K G te) (g := lG X.K G ws g) (tt := lT X.K G tt) hc hN hi.pi ok (fun s H C cl fp => (hg s H C cl fp).pg) (fun s H C cl fp => (ht s H C cl fp).pts) (fun s H C cl fp => (he s H C cl fp).pe) hs) fun F h H n σ Q s S E q => lc_run hw s S E q
theorem qs_setLc {i : Nat} {y : Str} {py spos : Pos} (hc : X.calm = true) (hN : X.N.Nodup) (hi : QI X G tg iter wi) (ok : BlkOk X.N X.env.scope scope own) (hw : ∀ i ∈ ws, i ∈ own.map (·.2))
    (hg : ∀ (s : Shared) (H : Hp) (C : Addr) (cl : List (Str × Addr)) (fp : List Addr), QG (X.blk s H scope (compEnvC scope cl C X.env) fp) G ws tg g) (ht : ∀ (s : Shared) (H : Hp) (C : Addr) (cl : List (Str × Addr)) (fp : List Addr), QTs (X.blk s H scope (compEnvC scope cl C X.env) fp) G ifs tt)
    (he : ∀ (s : Shared) (H : Hp) (C : Addr) (cl : List (Str × Addr)) (fp : List Addr), QE (X.blk s H scope (compEnvC scope cl C X.env) fp) G elt te)
    (hy : X.N[i]? = some y := by rfl) (hyl : X.env.scope.names.lookup y = some .local := by rfl)
    (hsw : swapsWith (.ListComp elt [⟨tg, iter, ifs, 0⟩] scope pos) (some (.Name y py)) spos.line X.env = pure true := by exact sw_true rfl rfl rfl (by decide +kernel)) (hs : ∀ x, foldedSetIterable iter X.env x = pure x := by intro _; rfl) :
    QS X G (.Assign [.Name y py] (.ListComp elt [⟨tg, iter, ifs, 0⟩] scope pos) spos) (asgS (lcE wi g tt te (own.map (·.2))) (nameG i)) := by
  refine QS.of (ps_setLc (te := lE X.K G te) (g := lG X.K G ws g) (tt := lT X.K G tt) hc hN hy hyl hsw hi.pi ok (fun s H C cl fp => (hg s H C cl fp).pg) (fun s H C cl fp => (ht s H C cl fp).pts) (fun s H C cl fp => (he s H C cl fp).pe) hs) fun F h H n σ D s S E q => ?_
  obtain ⟨F0, h0, n0, R0, a1, a2, a3, a4, a5⟩ := lc_run (Q := fun x h1 => D.nx (n.set i (some x)) h1) hw s S E q
  refine ⟨F0, h0, n0, R0, a1, a2, a3, a4, fun J H' p => ?_⟩
  have := a5 J H' p
  intro D' hD
  obtain ⟨W, w0, wt⟩ := this D' hD
  refine ⟨W, w0, fun i' m H2 hw2 => ?_⟩
  rcases wt i' m H2 hw2 with ⟨st, F1, h1, x, t1, S1, r1, q1⟩ | z
  · exact .inl ⟨st, F1, h1, _, t1, S1, (E.step S t1).set r1, q1⟩
  · exact .inr z
end

/-! ### enumerate of a tuple -/
theorem meets_enumerate_new1 {v : Value} {o : Obj} {H : Heap → Prop} (B : Begins v o H) :
    Meets (Builtin.«enumerate.__new__» ⟨[.type "enumerate", v], []⟩) (fun _ R s => H s.heap ∧
      R (.ok (.ret (.ref (s.heap.push o).objs.size))) { s with heap := (s.heap.push o).push { cls := .type "enumerate", data := .fields #[.none, .bool false, .ref s.heap.objs.size, rawInt 0, .none, .none] } }) :=
  .of_wp fun prog w A R s h => by
    obtain ⟨hp, g, d, tk, os⟩ := s; obtain ⟨h1, h⟩ := h
    have hsub := sub_enumerate
    have q1 : ∀ {A' : Around} {E : Value → Shared → Prop} {Q : Value → Shared → Prop}, Q (.ref hp.objs.size) ⟨hp.push o, g, d, tk, os⟩ → wpAny (model prog w) A' (pyIter v) Q E ⟨hp, g, d, tk, os⟩ :=
      fun q => B.iter prog w _ _ ⟨hp, g, d, tk, os⟩ _ h1 q
    wp_walk using q1
    refine wpAny_stack_any fun st => wpAny_pure ?_
    split
    · rename_i c _ _ _ _ _
      cases (c == Value.type "enumerate")
      · wp_walk using q1
        exact ⟨_, rfl, h⟩
      · wp_walk using q1
        exact ⟨_, rfl, h⟩
    · wp_walk using q1
      exact ⟨_, rfl, h⟩
theorem enum_begins1 {prog : Program} {w : World} {A : Around} {E : Value → Shared → Prop} {s : Shared} {v : Value} {o : Obj} {H : Heap → Prop} {Q : Value → Shared → Prop} (B : Begins v o H) (h1 : H s.heap)
    (h : ∀ h', IsEnum h' (s.heap.objs.size + 1) s.heap.objs.size 0 .none → h'.get? s.heap.objs.size = some o → h'.objs.size = s.heap.objs.size + 2 →
      (∀ b o, s.heap.get? b = some o → h'.get? b = some o) → Q (.ref (s.heap.objs.size + 1)) { s with heap := h' }) :
    wpAny (model prog w) A (call (.type "enumerate") [v]) Q E s := by
  refine callType_new F.called_enumerate (by decide) (F.typeCall_enumerate_1 _) (F.newCall_enumerate_1 _) (fun obj => F.args_object_init_2 obj _) F.entry_enumerate_new
    (meets_enumerate_new1 B) ⟨h1, ?_⟩
  have hz : (s.heap.push o).objs.size = s.heap.objs.size + 1 := Heap.size_push ..
  show _ ∧ _
  rw [hz]
  have he : IsEnum ((s.heap.push o).push { cls := .type "enumerate", data := .fields #[.none, .bool false, .ref s.heap.objs.size, rawInt 0, .none, .none] }) (s.heap.objs.size + 1) s.heap.objs.size 0 .none := by
    have := Heap.get?_push_size (s.heap.push o) (o := { cls := .type "enumerate", data := .fields #[.none, .bool false, .ref s.heap.objs.size, rawInt 0, .none, .none] }) rfl
    rw [hz] at this; exact this
  refine ⟨⟨_, he, rfl⟩, h _ he (Heap.get?_push_of_some _ (Heap.get?_push_size _ B.free)) (by rw [Heap.size_push, hz]) fun b o x => Heap.get?_push_of_some _ (Heap.get?_push_of_some _ x)⟩
def Iteu (K : PySem.W.Frag) (a : Addr) : It :=
  ⟨fun i H => ∃ (xs : List V) (x : V), SqT K H a xs ∧ xs[i]? = some x, fun i H v H' => ∃ T x, v = .ref T ∧ H T = none ∧ H' = upd H T (.tup [.int (i : Nat), x]) ∧ ∀ xs, SqT K H a xs → xs[i]? = some x, fun i H => ∃ xs : List V, SqT K H a xs ∧ xs.length ≤ i⟩
theorem turn_enumT {P : Program} {w : World} {K : PySem.W.Frag} {elts : List Expr} {kk : Nat} {tpos : Pos} (a e it : Addr) (hai : a ≠ it) (hea : e ≠ a) :
    Turn P w K (.Tuple elts kk tpos) (Iteu K a) [e, it] e (fun i h => (∃ old, IsEnum h e it ((i : Nat) : Int) old) ∧ h.IsTupleIter it a i ∧ e ≠ it) where
  mem := by simp
  obj := fun i h st b hb => by
    obtain ⟨⟨old, he⟩, ⟨o, ho, hc, hd⟩, _⟩ := st
    have e' : b = e ∨ b = it := by simpa using hb
    rcases e' with z | z
    · rw [z]; exact ⟨_, he, fun v q => nomatch q⟩
    · rw [z]; exact ⟨o, ho, fun v q => by rw [hd] at q; cases q⟩
  keep := fun i h h' st k => let ⟨⟨old, he⟩, hi, hne⟩ := st; ⟨⟨old, k e (by simp) _ he⟩, hi.at fun o q => k it (by simp) o q, hne⟩
  item := by
    intro X hP hw hK hc i pins s σ H E I hf st hg
    subst hP hw hK
    obtain ⟨⟨old, he⟩, hit, hne⟩ := st
    obtain ⟨xs, x, hq, hx⟩ := hg
    obtain ⟨its, rv, p, hz⟩ := I.tuple hq
    obtain ⟨u, hu, ru⟩ := rv.get hx
    have hel : e < s.heap.objs.size := Heap.lt_size he
    have hil : it < s.heap.objs.size := by obtain ⟨_, q, _⟩ := hit; exact Heap.lt_size q
    have hpt : s.heap.IsTuple a its.toArray := by obtain ⟨o, h1, h2, n, h3⟩ := p; exact ⟨o, h1, h2, n, h3⟩
    have hh : X.A.in1.handled = none := I.ok.hd hc
    have hilt : i < its.toArray.size := by
      have := (List.getElem?_eq_some_iff.mp hu).1
      simpa using this
    have D := Draws.tuple (prog := X.prog) (w := X.w) (A := X.A.in1) hh it a hai its.toArray
    refine wpAny_pyNext_enum_itemC D he ⟨hit, hpt⟩ hilt hne (by simp; exact ⟨hne, hea⟩) fun x' h' tk hP ho hst hT hsz hk => ?_
    have ex : x' = u := by
      have hP : its.toArray[i]? = some x' := hP
      have hu' : its.toArray[i]? = some u := by simpa using hu
      rw [hu'] at hP; cases hP; rfl
    subst ex
    refine ⟨_, rfl, wpAny_letOwnedTupleGo_enum (s := { s with heap := h', toks := tk + 1 }) ho fun h'' he' sb => ?_⟩
    have hT2 : h''.get? s.heap.objs.size = some { cls := .type "tuple", data := .seq #[.int i tk, x'] } := (sb.2 _ (Nat.ne_of_gt hel)).trans hT
    have new : ObjOk X.prog X.w (upd H s.heap.objs.size (.tup [.int (i : Nat), x])) h'' s.heap.objs.size (.tup [.int (i : Nat), x]) :=
      ⟨by show 2 ≤ sizeLine; decide, [.int i tk, x'], .cons ⟨_, rfl⟩ (.cons ru .nil), ⟨_, hT2, rfl, _, rfl⟩⟩
    have I1 : Inv X pins σ (upd H s.heap.objs.size (.tup [.int (i : Nat), x])) { s with heap := h'', toks := tk + 1 } :=
      I.turnedNew (ch := [e, it]) (fun b ob hb q => (sb.2 b (fun z => hb (by simp [z]))).trans (hk b ob (fun z => hb (by simp [z])) (fun z => hb (by simp [z])) q)) hf (Nat.le_refl _) new
    refine ⟨.ref s.heap.objs.size, _, I1, rfl, ⟨_, x, rfl, I.hok.fresh (Nat.le_refl _), rfl, fun ys hy => by rw [I.tuple_inj hy hq]; exact hx⟩, ⟨⟨x', ?_⟩, hst.1.at fun o q => (sb.2 it (Ne.symm hne)).trans q, hne⟩, fun b hb => ?_⟩
    · have e1 : ((i + 1 : Nat) : Int) = (i : Int) + 1 := by omega
      rw [e1]; exact he'
    · have hb' : b < s.heap.objs.size := by
        have e' : b = e ∨ b = it := by simpa using hb
        rcases e' with z | z
        · rw [z]; exact hel
        · rw [z]; exact hil
      rw [upd_ne (Nat.ne_of_lt hb')]
      exact (hf b hb).1
  done := by
    intro X hP hw hK hc i pins s σ H E I hf st hg
    subst hP hw hK
    obtain ⟨⟨old, he⟩, hit, hne⟩ := st
    obtain ⟨xs, hq, hx⟩ := hg
    obtain ⟨its, rv, p, hz⟩ := I.tuple hq
    have hpt : s.heap.IsTuple a its.toArray := by obtain ⟨o, h1, h2, n, h3⟩ := p; exact ⟨o, h1, h2, n, h3⟩
    obtain ⟨f0, f1, f2, f3, f4, f5⟩ := hf it (by simp)
    have hl := rv.length
    have hh : X.A.in1.handled = none := I.ok.hd hc
    unfold pyNext
    have hT : s.TypeIs (.ref e) "enumerate" := ⟨_, he, rfl⟩
    refine wpAny_bind (wpAny_attempt (wpAny_callSpecial?_slot (name := Str.ofString "__next__") hT F.slot_enumerate_next
      (wpAny_call_entry F.slot_enumerate_next hT F.entry_enumerate_next ?_ (F.args_enumerate_next_1 _))))
    show wpAny _ _ (field (.ref e) 2 >>= _) _ _ _
    refine wpAny_bind (wpAny_field he rfl (x := .ref it) rfl ?_)
    refine wpAny_bind (wpAny_nextOf_tuple_end hh hit hpt (by simp; omega) fun h' x he' hx' => ?_)
    obtain ⟨o, ho, hc'⟩ := hx'
    refine wpAny_bind (wpAny_isInstance (T := "StopIteration") (b := true) ⟨o, ho, hc'⟩ isSubtype_stop ?_)
    exact wpAny_pure ⟨rfl, I.turned (t' := s.toks) (fun b o hb q => he' b o hb q) f0 f1 f3 f4 f5⟩
  self := fun A i s Q E st h => let ⟨⟨_, he⟩, _⟩ := st; wpAny_pyIter_enum he h
def iEnumT (K : PySem.W.Frag) (ta : TA) : TI := fun σ H R => ta σ H fun vs H1 => ∃ a xs, vs = [.ref a] ∧ ((SqL K H1 a xs ∧ R (Ite K a) H1) ∨ (SqT K H1 a xs ∧ R (Iteu K a) H1))
theorem pi_enumA {X : Cx} {e : Expr} {ta : TA} {p pos tpos : Pos} {elts : List Expr} {kk : Nat} (hg : Gl X "enumerate") (hm : X.mg "enumerate" = none) (ha : PA X [e] ta) (hs : starEach [e] X.env = [(false, eval e X.env)] := by rfl) :
    PI X (.Tuple elts kk tpos) (.Call (.Name "enumerate" p) [e] [] pos) (iEnumT X.K ta) := by
  refine ⟨fun pins s σ H R I h => ?_⟩
  refine Call_ (ld_blt I hg hm boot_enumerate (PyProof.Rows.callWith_type1 (thn (ha.run pos pins s σ H _ I h) fun us s1 ⟨vs, H1, I1, r1, q1⟩ => ?_) hs rfl))
  obtain ⟨a, xs, ex, q⟩ := q1
  subst ex
  cases r1 with
  | cons r rr =>
    cases rr
    cases r
    have fin : ∀ b, b ∈ [s1.heap.objs.size + 1, s1.heap.objs.size] → FpOk X pins H1 b := fun b hb => by
      have e' : b = s1.heap.objs.size + 1 ∨ b = s1.heap.objs.size := by simpa using hb
      have hle : s1.heap.objs.size ≤ b := by
        rcases e' with z | z
        · rw [z]; exact Nat.le_add_right _ _
        · rw [z]; exact Nat.le_refl _
      exact I1.fpOk hle (I1.hok.fresh hle)
    rcases q with ⟨hq, q⟩ | ⟨hq, q⟩
    · obtain ⟨its, rv, p', hz⟩ := I1.list hq
      refine call_enumerate_list p'.isList fun h' he hit hsz hk => wpAny_pyIter_enum he ?_
      have I2 : Inv X pins σ H1 { s1 with heap := h' } := I1.kept (t' := s1.toks) hk
      exact ⟨s1.heap.objs.size + 1, [s1.heap.objs.size + 1, s1.heap.objs.size], _, _, H1, rfl, I2, turn_enum a (s1.heap.objs.size + 1) s1.heap.objs.size, ⟨⟨.none, he⟩, hit, Nat.succ_ne_self _⟩, fin, q⟩
    · obtain ⟨its, rv, p', hz⟩ := I1.tuple hq
      have hpt : s1.heap.IsTuple a its.toArray := by obtain ⟨o, h1, h2, n, h3⟩ := p'; exact ⟨o, h1, h2, n, h3⟩
      have ha' : a < s1.heap.objs.size := p'.lt
      refine enum_begins1 (begins_tuple a its.toArray) hpt fun h' he hit hsz hk => wpAny_pyIter_enum he ?_
      have I2 : Inv X pins σ H1 { s1 with heap := h' } := I1.kept (t' := s1.toks) hk
      exact ⟨s1.heap.objs.size + 1, [s1.heap.objs.size + 1, s1.heap.objs.size], _, _, H1, rfl, I2, turn_enumT a (s1.heap.objs.size + 1) s1.heap.objs.size (Nat.ne_of_lt ha') (Nat.ne_of_gt (Nat.lt_succ_of_lt ha')), ⟨⟨.none, he⟩, ⟨_, hit, rfl, rfl⟩, Nat.succ_ne_self _⟩, fin, q⟩
end L3

/-! L3f: enumerate, zip as walks; methods of lists; + and * of lists; == of data. -/
namespace L3
open PySem PySem.Spec PyProof.Rows L2 RZ

def enQ : Nat → List PV → List PV
  | _, [] => []
  | i, x :: r => .tup [.int (i : Nat), x] :: enQ (i + 1) r
theorem enQ_get : ∀ (xs : List PV) (k i : Nat), (enQ k xs)[i]? = xs[i]?.map fun x => .tup [.int ((k + i : Nat)), x]
  | [], _, _ => by simp [enQ]
  | x :: r, k, 0 => by simp [enQ]
  | x :: r, k, i + 1 => by
    have := enQ_get r (k + 1) i
    simp only [enQ, List.getElem?_cons_succ]
    rw [this, show k + 1 + i = k + (i + 1) by omega]
theorem enQ_len : ∀ (xs : List PV) (k : Nat), (enQ k xs).length = xs.length
  | [], _ => rfl
  | x :: r, k => by rw [enQ, List.length_cons, List.length_cons, enQ_len r]
def zipQ : List PV → List PV → List PV
  | x :: r, y :: s => .tup [x, y] :: zipQ r s
  | _, _ => []
theorem zipQ_get : ∀ (xs ys : List PV) (i : Nat) (z : PV), (zipQ xs ys)[i]? = some z → ∃ x y, xs[i]? = some x ∧ ys[i]? = some y ∧ z = .tup [x, y]
  | x :: r, y :: s, 0, z, e => by
    simp only [zipQ, List.getElem?_cons_zero, Option.some.injEq] at e
    exact ⟨x, y, rfl, rfl, e.symm⟩
  | x :: r, y :: s, i + 1, z, e => by
    simp only [zipQ, List.getElem?_cons_succ] at e
    simpa using zipQ_get r s i z e
  | [], _, _, _, e => by simp [zipQ] at e
  | _ :: _, [], _, _, e => by simp [zipQ] at e
theorem zipQ_len : ∀ (xs ys : List PV), (zipQ xs ys).length = min xs.length ys.length
  | x :: r, y :: s => by rw [zipQ, List.length_cons, List.length_cons, List.length_cons, zipQ_len r s]; omega
  | [], ys => by simp [zipQ]
  | _ :: _, [] => by simp [zipQ]
section
variable {X : Cx} {G : Gr} {e a b c o i tg iter : Expr} {t ta tb to ti tv : TQ} {pos tpos : Pos} {es elts : List Expr} {tr : AQ} {kk : Nat}
/-- a pair that an iterator lays: frozen -/
theorem laid_pair {K : PySem.W.Frag} {T : TL} {F : Addr → Prop} {h : Hq} {H : Hp} (S : HSim K T F h H) {p : Addr} (n : H p = none) {x y : PV} {v w : V} (r : Rep K F H x v) (r2 : Rep K F H y w) :
    ∃ F', Step F h H F' h (upd H p (.tup [v, w])) ∧ HSim K T F' h (upd H p (.tup [v, w])) ∧ Rep K F' (upd H p (.tup [v, w])) (.tup [x, y]) (.ref p) := by
  obtain ⟨S2, t2⟩ := S.newF (o := .tup [v, w]) n
  exact ⟨_, t2, S2, .tup (.inl ⟨.inr rfl, .inl upd_same⟩) (.cons (r.step S t2) (.cons (r2.step S t2) .nil))⟩
def enumI (t : TQ) : IQ := fun n h R => t n h fun x h1 => match x with
  | .tup xs => R ⟨enQ 0 xs, fun _ => True⟩ h1
  | x => ∃ xs, lstOf h1 x = some xs ∧ R ⟨enQ 0 xs, fun h => lstOf h x = some xs⟩ h1
theorem enum_lst {K : PySem.W.Frag} {T : TL} {F : Addr → Prop} {h : Hq} {H : Hp} {x : PV} {xs : List PV} {a : Addr} (S1 : HSim K T F h H) (r1 : Rep K F H x (.ref a)) :
    ItOk K T (Ite K a) ⟨enQ 0 xs, fun h => lstOf h x = some xs⟩ F h H := by
  intro i F2 h2 H2 t2 S2 st
  obtain ⟨a', ws, e', hs2, rs2⟩ := lstOf_rep S2 st (r1.step S1 t2)
  cases e'
  refine ⟨fun y ey => ?_, fun hl => ⟨ws, hs2, by rw [← rs2.length]; rw [enQ_len] at hl; exact hl⟩⟩
  have ey : (enQ 0 xs)[i]? = some y := ey
  rw [enQ_get] at ey
  cases q : xs[i]? with
  | none => rw [q] at ey; cases ey
  | some z =>
    rw [q] at ey
    cases ey
    obtain ⟨w, ew, rw'⟩ := rs2.get q
    refine ⟨⟨ws, w, hs2, ew⟩, fun v H' ⟨T, x2, ev, nT, eH, hv⟩ => ?_⟩
    subst ev eH
    have := hv ws hs2
    rw [ew] at this
    cases this
    rw [Nat.zero_add]
    exact laid_pair S2 nT (.int _) rw'
theorem enum_tup {K : PySem.W.Frag} {T : TL} {F : Addr → Prop} {h : Hq} {H : Hp} {xs : List PV} {vs : List V} {a : Addr} (S1 : HSim K T F h H) (tp : Tp K F H a vs) (rs : Reps K F H xs vs) :
    ItOk K T (Iteu K a) ⟨enQ 0 xs, fun _ => True⟩ F h H := by
  intro i F2 h2 H2 t2 S2 _
  have rs2 := rs.step S1 t2
  have hs2 := (tp.step S1 t2).seq
  refine ⟨fun y ey => ?_, fun hl => ⟨vs, hs2, by rw [← rs2.length]; rw [enQ_len] at hl; exact hl⟩⟩
  have ey : (enQ 0 xs)[i]? = some y := ey
  rw [enQ_get] at ey
  cases q : xs[i]? with
  | none => rw [q] at ey; cases ey
  | some z =>
    rw [q] at ey
    cases ey
    obtain ⟨w, ew, rw'⟩ := rs2.get q
    refine ⟨⟨vs, w, hs2, ew⟩, fun v H' ⟨T, x2, ev, nT, eH, hv⟩ => ?_⟩
    subst ev eH
    have := hv vs hs2
    rw [ew] at this
    cases this
    rw [Nat.zero_add]
    exact laid_pair S2 nT (.int _) rw'
theorem qi_enum {p : Pos} (hg : Gl X "enumerate") (hm : X.mg "enumerate" = none) (ha : QE X G e t) (hs : starEach [e] X.env = [(false, eval e X.env)] := by rfl) : QI X G (.Tuple elts kk tpos) (.Call (.Name "enumerate" p) [e] [] pos) (enumI t) := by
  refine QI.of (pi_enumA hg hm (pa_cons ha.pe pa_nil hs) hs) fun F h H n σ R s S E hq => ?_
  refine ⟨F, h, n, _, s, S, E, hq, fun v1 H1 ⟨F1, h1, x, t1, S1, r1, q1⟩ => ?_⟩
  cases r1 with
  | tup tp rs => exact ⟨_, _, rfl, .inr ⟨tp.seq, F1, h1, _, t1, S1, enum_tup S1 tp rs, q1⟩⟩
  | fl l rs =>
    obtain ⟨xs, ex, q1⟩ := q1
    exact ⟨_, _, rfl, .inl ⟨l.seq, F1, h1, _, t1, S1, enum_lst S1 (.fl l rs), q1⟩⟩
  | ref a =>
    obtain ⟨xs, ex, q1⟩ := q1
    obtain ⟨a', vs, e', hs, rs⟩ := lstOf_rep (x := .ref a) S1 ex (.ref a)
    cases e'
    exact ⟨_, _, rfl, .inl ⟨hs, F1, h1, _, t1, S1, enum_lst S1 (.ref a), q1⟩⟩
  | _ => obtain ⟨xs, ex, q1⟩ := q1; cases ex
/-- zip of two lists, of two tuples -/
def zipI (ta tb : TQ) : IQ := fun n h R => ta n h fun x h1 => tb n h1 fun y h2 => match x, y with
  | .tup xs, .tup ys => R ⟨zipQ xs ys, fun _ => True⟩ h2
  | x, y => ∃ xs ys, lstOf h2 x = some xs ∧ lstOf h2 y = some ys ∧ R ⟨zipQ xs ys, fun h => lstOf h x = some xs ∧ lstOf h y = some ys⟩ h2
theorem zip_lst {K : PySem.W.Frag} {T : TL} {F : Addr → Prop} {h : Hq} {H : Hp} {x y : PV} {xs ys : List PV} {a b : Addr} (S1 : HSim K T F h H) (r1 : Rep K F H x (.ref a)) (r2 : Rep K F H y (.ref b)) :
    ItOk K T (Itz K a b) ⟨zipQ xs ys, fun h => lstOf h x = some xs ∧ lstOf h y = some ys⟩ F h H := by
  intro i F2 h2 H2 t2 S2 ⟨st, st2⟩
  obtain ⟨a', ws, e', hs2, rs2⟩ := lstOf_rep S2 st (r1.step S1 t2)
  cases e'
  obtain ⟨b', ws', e', hs3, rs3⟩ := lstOf_rep S2 st2 (r2.step S1 t2)
  cases e'
  refine ⟨fun z ez => ?_, fun hl => ⟨ws, ws', hs2, hs3, ?_⟩⟩
  · obtain ⟨u, v, eu, ev, e⟩ := zipQ_get xs ys i z ez
    subst e
    obtain ⟨w, ew, rw'⟩ := rs2.get eu
    obtain ⟨w2, ew2, rw2⟩ := rs3.get ev
    refine ⟨⟨ws, ws', w, w2, hs2, hs3, ew, ew2⟩, fun vv H' ⟨T, x2, y2, e1, nT, eH, hv, hv2⟩ => ?_⟩
    subst e1 eH
    have z1 := hv ws hs2
    have z2 := hv2 ws' hs3
    rw [ew] at z1
    rw [ew2] at z2
    cases z1
    cases z2
    exact laid_pair S2 nT rw' rw2
  · have hl : (zipQ xs ys).length ≤ i := hl
    rw [zipQ_len] at hl
    have := rs2.length
    have := rs3.length
    omega
theorem zip_tup {K : PySem.W.Frag} {T : TL} {F : Addr → Prop} {h : Hq} {H : Hp} {xs ys : List PV} {vs ws : List V} {a b : Addr} (S1 : HSim K T F h H) (tp : Tp K F H a vs) (rs : Reps K F H xs vs) (tp2 : Tp K F H b ws) (rs' : Reps K F H ys ws) :
    ItOk K T (ItzT K a b) ⟨zipQ xs ys, fun _ => True⟩ F h H := by
  intro i F2 h2 H2 t2 S2 _
  have rs2 := rs.step S1 t2
  have hs2 := (tp.step S1 t2).seq
  have rs3 := rs'.step S1 t2
  have hs3 := (tp2.step S1 t2).seq
  refine ⟨fun z ez => ?_, fun hl => ⟨vs, ws, hs2, hs3, ?_⟩⟩
  · obtain ⟨u, v, eu, ev, e⟩ := zipQ_get xs ys i z ez
    subst e
    obtain ⟨w, ew, rw'⟩ := rs2.get eu
    obtain ⟨w2, ew2, rw2⟩ := rs3.get ev
    refine ⟨⟨vs, ws, w, w2, hs2, hs3, ew, ew2⟩, fun vv H' ⟨T, x2, y2, e1, nT, eH, hv, hv2⟩ => ?_⟩
    subst e1 eH
    have z1 := hv vs hs2
    have z2 := hv2 ws hs3
    rw [ew] at z1
    rw [ew2] at z2
    cases z1
    cases z2
    exact laid_pair S2 nT rw' rw2
  · have hl : (zipQ xs ys).length ≤ i := hl
    rw [zipQ_len] at hl
    have := rs2.length
    have := rs3.length
    omega
theorem qi_zip {p : Pos} (hg : Gl X "zip") (hm : X.mg "zip" = none) (ha : QE X G a ta) (hb : QE X G b tb) (hs : starEach [a, b] X.env = (false, eval a X.env) :: starEach [b] X.env := by rfl) (hs1 : starEach [b] X.env = (false, eval b X.env) :: starEach [] X.env := by rfl)
    (hpl : (backTo pos (starEach [b] X.env)).any (·.1) = false := by rfl) : QI X G (.Tuple elts kk tpos) (.Call (.Name "zip" p) [a, b] [] pos) (zipI ta tb) := by
  refine QI.of (pi_zipA hg hm (pa_cons ha.pe (pa_cons hb.pe pa_nil hs1) hs) hs hpl) fun F h H n σ R s S E hq => ?_
  refine ⟨F, h, n, _, s, S, E, hq, fun v1 H1 ⟨F1, h1, x, t1, S1, r1, q1⟩ => ?_⟩
  refine ⟨F1, h1, n, _, s.trans t1, S1, E.step S t1, q1, fun v2 H2 ⟨F2, h2, y, t2, S2, r2, q2⟩ => ?_⟩
  have r1 := r1.step S1 t2
  have go : ∀ {x y : PV} {v1 v2 : V} {xs ys : List PV}, Rep X.K F2 H2 x v1 → Rep X.K F2 H2 y v2 → lstOf h2 x = some xs → lstOf h2 y = some ys → R ⟨zipQ xs ys, fun h => lstOf h x = some xs ∧ lstOf h y = some ys⟩ h2 →
      ∃ a b xs ys, [v1, v2] = [V.ref a, V.ref b] ∧ ((SqL X.K H2 a xs ∧ SqL X.K H2 b ys ∧ IPost X.K G.T F h H R (Itz X.K a b) H2) ∨ (SqT X.K H2 a xs ∧ SqT X.K H2 b ys ∧ IPost X.K G.T F h H R (ItzT X.K a b) H2)) := by
    intro x y v1 v2 xs ys r1 r2 ex ey q
    obtain ⟨a, vs, rfl, hs1, rs1⟩ := lstOf_rep S2 ex r1
    obtain ⟨b, ws, rfl, hs2, rs2⟩ := lstOf_rep S2 ey r2
    exact ⟨a, b, vs, ws, rfl, .inl ⟨hs1, hs2, F2, h2, _, t1.trans t2, S2, zip_lst S2 r1 r2, q⟩⟩
  cases x with
  | tup xs =>
    cases y with
    | tup ys =>
      cases r1 with
      | tup tp rs =>
        cases r2 with
        | tup tp2 rs2 => exact ⟨_, _, _, _, rfl, .inr ⟨tp.seq, tp2.seq, F2, h2, _, t1.trans t2, S2, zip_tup S2 tp rs tp2 rs2, q2⟩⟩
    | _ => obtain ⟨xs, ys, ex, ey, q2⟩ := q2; cases ex
  | fl xs => 
    cases y <;> (obtain ⟨xs, ys, ex, ey, q2⟩ := q2; exact go r1 r2 ex ey q2)
  | ref a => 
    cases y <;> (obtain ⟨xs, ys, ex, ey, q2⟩ := q2; exact go r1 r2 ex ey q2)
  | _ => 
    cases y <;> (obtain ⟨xs, ys, ex, ey, q2⟩ := q2; cases ex)

/-! ### methods of lists -/
variable {apos cpos : Pos}
def appQ : O2 := fun x y h Q => ∃ a xs, x = .ref a ∧ h a = some (.lst xs) ∧ xs.length < sizeLine ∧ Q .non (up h a (.lst (xs ++ [y])))
def isRefL (h : Hq) (x : PV) : Prop := ∃ a xs, x = .ref a ∧ h a = some (.lst xs)
def mtQ (q : O2) (ta tb : TQ) : TQ := fun n h Q => ta n h fun x h1 => isRefL h1 x ∧ tb n h1 fun y h2 => q x y h2 Q
theorem isRefL_ty {K : PySem.W.Frag} {T : TL} {F : Addr → Prop} {h : Hq} {H : Hp} (S : HSim K T F h H) {x : PV} {v : V} (r : Rep K F H x v) (i : isRefL h x) : tyV K "list" v H := by
  obtain ⟨a, xs, rfl, e⟩ := i
  cases r
  obtain ⟨vs, e1, _⟩ := S.lst e
  exact .inl ⟨rfl, vs, .of e1⟩
theorem qe_append (ho : QE X G o to) (he : QE X G e t) (hbase : attributeBase o "append" X.env (eval o X.env) = eval o X.env := by rfl)
    (hfew : ((backTo cpos (starEach [e] X.env)).all (fun x => !x.1) && (backToKw cpos (keywordEach [] X.env)).all (fun x => x.1.isSome)
      && decide (([e] : List Expr).length + ([] : List Keyword).length + (if ([] : List Keyword).isEmpty then 0 else 1) < 30)) = true := by rfl)
    (hline : (apos.endLine == cpos.line) = true := by rfl) (hs : starEach [e] X.env = (false, eval e X.env) :: starEach [] X.env := by rfl) (hplain : (backTo cpos (starEach [] X.env)).any (·.1) = false := by rfl) :
    QE X G (.Call (.Attribute o "append" apos) [e] [] cpos) (mtQ appQ to t) := by
  refine QE.of (pe_bm PySem.F.plainAttrs_list PySem.F.slot_list_append PySem.F.type_list_append mt_append ho.pe (pa_cons he.pe pa_nil hs) hbase hfew hline hs hplain) fun F h H n σ Q s S E hq => ?_
  refine ⟨F, h, n, _, s, S, E, hq, fun v1 H1 ⟨F1, h1, x, t1, S1, r1, il, q1⟩ => ⟨isRefL_ty S1 r1 il, ?_⟩⟩
  refine ⟨F1, h1, n, _, s.trans t1, S1, E.step S t1, q1, fun v2 H2 ⟨F2, h2, y, t2, S2, r2, a, xs, ex, ea, hl, q2⟩ => ?_⟩
  have r1' := r1.step S1 t2
  subst ex
  cases r1'
  obtain ⟨vs, e1, rs⟩ := S2.lst ea
  refine ⟨a, vs, v2, rfl, rfl, e1, by rw [← rs.length]; exact hl, ?_⟩
  obtain ⟨S3, t3⟩ := S2.write (o' := .lst (xs ++ [y])) (u := .lst (vs ++ [v2])) ea (rs.append (.one r2))
  exact ⟨F2, _, .non, (t1.trans t2).trans t3, S3, .non, q2⟩
def popQ : O2 := fun x y h Q => ∃ a xs k z, x = .ref a ∧ y = .int ((k : Nat) : Int) ∧ h a = some (.lst xs) ∧ k < 2 ^ 62 ∧ xs[k]? = some z ∧ Q z (up h a (.lst (xs.eraseIdx k)))
theorem qe_popAt (ho : QE X G o to) (he : QE X G e t) (hbase : attributeBase o "pop" X.env (eval o X.env) = eval o X.env := by rfl)
    (hfew : ((backTo cpos (starEach [e] X.env)).all (fun x => !x.1) && (backToKw cpos (keywordEach [] X.env)).all (fun x => x.1.isSome)
      && decide (([e] : List Expr).length + ([] : List Keyword).length + (if ([] : List Keyword).isEmpty then 0 else 1) < 30)) = true := by rfl)
    (hline : (apos.endLine == cpos.line) = true := by rfl) (hs : starEach [e] X.env = (false, eval e X.env) :: starEach [] X.env := by rfl) (hplain : (backTo cpos (starEach [] X.env)).any (·.1) = false := by rfl) :
    QE X G (.Call (.Attribute o "pop" apos) [e] [] cpos) (mtQ popQ to t) := by
  refine QE.of (pe_bm PySem.F.plainAttrs_list PySem.F.slot_list_pop PySem.F.type_list_pop mt_popAt ho.pe (pa_cons he.pe pa_nil hs) hbase hfew hline hs hplain) fun F h H n σ Q s S E hq => ?_
  refine ⟨F, h, n, _, s, S, E, hq, fun v1 H1 ⟨F1, h1, x, t1, S1, r1, il, q1⟩ => ⟨isRefL_ty S1 r1 il, ?_⟩⟩
  refine ⟨F1, h1, n, _, s.trans t1, S1, E.step S t1, q1, fun v2 H2 ⟨F2, h2, y, t2, S2, r2, a, xs, k, z, ex, ey, ea, hk, ez, q2⟩ => ?_⟩
  have r1' := r1.step S1 t2
  subst ex ey
  cases r1'
  cases r2
  obtain ⟨vs, e1, rs⟩ := S2.lst ea
  obtain ⟨w, ew, rw'⟩ := rs.get ez
  have hlt := (List.getElem?_eq_some_iff.mp ew).1
  refine ⟨a, vs, (k : Int), k, w, rfl, rfl, e1, by omega, by omega, ?_, ew, ?_⟩
  · have := seqIndex_of (k := (k : Int)) (n := vs.length) (by omega) (by omega)
    simpa using this
  · obtain ⟨S3, t3⟩ := S2.write (o' := .lst (xs.eraseIdx k)) (u := .lst (vs.eraseIdx k)) ea (rs.eraseIdx k)
    exact ⟨F2, _, z, (t1.trans t2).trans t3, S3, rw'.step S2 t3, q2⟩

/-! ### + and * of lists -/
def catQ : O2 := fun x y h Q => ∃ a b xs ys, x = .ref a ∧ y = .ref b ∧ h a = some (.lst xs) ∧ h b = some (.lst ys) ∧ xs.length + ys.length ≤ sizeLine ∧ ∀ p, h p = none → Q (.ref p) (up h p (.lst (xs ++ ys)))
theorem oq_cat : OpQ X (binaryOp .Add) catQ := by
  refine .of op_cat fun F h H x y v w Q S rx ry ⟨a, b, xs, ys, ex, ey, ea, eb, hl, q⟩ => ?_
  subst ex ey
  cases rx
  cases ry
  obtain ⟨vs, e1, r1⟩ := S.lst ea
  obtain ⟨ws, e2, r2⟩ := S.lst eb
  refine ⟨a, b, vs, ws, rfl, rfl, e1, e2, by rw [← r1.length, ← r2.length]; exact hl, fun p np => ?_⟩
  obtain ⟨S2, t2⟩ := S.newO (o := .lst (xs ++ ys)) (u := .lst (vs ++ ws)) np (r1.append r2)
  exact ⟨F, _, .ref p, t2, S2, .ref p, q p (S.free np)⟩
def repQ : O2 := fun x y h Q => ∃ a k xs, x = .ref a ∧ y = .int ((k : Nat) : Int) ∧ h a = some (.lst xs) ∧ k < 2 ^ 62 ∧ xs.length * k ≤ sizeLine ∧ ∀ p, h p = none → Q (.ref p) (up h p (.lst (List.replicate k xs).flatten))
theorem Reps.flat {K : PySem.W.Frag} {F : Addr → Prop} {H : Hp} {xs : List PV} {vs : List V} (r : Reps K F H xs vs) : ∀ k, Reps K F H (List.replicate k xs).flatten (List.replicate k vs).flatten
  | 0 => .nil
  | k + 1 => by rw [List.replicate_succ, List.replicate_succ, List.flatten_cons, List.flatten_cons]; exact r.append (Reps.flat r k)
theorem oq_rep : OpQ X (binaryOp .Mult) repQ := by
  refine .of op_rep fun F h H x y v w Q S rx ry ⟨a, k, xs, ex, ey, ea, hk, hl, q⟩ => ?_
  subst ex ey
  cases rx
  cases ry
  obtain ⟨vs, e1, r1⟩ := S.lst ea
  refine ⟨a, (k : Int), vs, rfl, rfl, e1, by omega, by omega, by rw [← r1.length]; simpa using hl, fun p np => ?_⟩
  rw [Int.toNat_natCast]
  obtain ⟨S2, t2⟩ := S.newO (o := .lst (List.replicate k xs).flatten) (u := .lst (List.replicate k vs).flatten) np (r1.flat k)
  exact ⟨F, _, .ref p, t2, S2, .ref p, q p (S.free np)⟩

/-! ### list(range(..)) -/
def lrgQ (t : TQ) : TQ := fun n h Q => t n h fun x h1 => ∃ k : Nat, x = .int k ∧ k ≤ 2 ^ 20 ∧ ∀ p, h1 p = none → Q (.ref p) (up h1 p (.lst (rgItems 0 k)))
theorem rep_rg {K : PySem.W.Frag} {F : Addr → Prop} {H : Hp} (lo : Int) : ∀ (l : List Nat), Reps K F H (l.map fun i => PV.int (lo + (i : Nat))) (l.map fun i => V.int (lo + (i : Nat)))
  | [] => .nil
  | _ :: r => .cons (.int _) (rep_rg lo r)
theorem qe_listRg {p p2 pos2 : Pos} (hc : X.calm = true) (hg : Gl X "list") (hm : X.mg "list" = none) (hg2 : Gl X "range") (hm2 : X.mg "range" = none) (ha : QE X G a t)
    (na : starEach [.Call (.Name "range" p2) [a] [] pos2] X.env = (false, eval (.Call (.Name "range" p2) [a] [] pos2) X.env) :: starEach [] X.env := by rfl) (na2 : starEach [a] X.env = (false, eval a X.env) :: starEach [] X.env := by rfl) :
    QE X G (.Call (.Name "list" p) [.Call (.Name "range" p2) [a] [] pos2] [] pos) (lrgQ t) := by
  refine QE.of (pe_listRg hc hg hm (prg_1 hg2 hm2 ha.pe na2) na) fun F h H n σ Q s S E hq => ?_
  refine ⟨F, h, n, _, s, S, E, hq, fun v1 H1 ⟨F1, h1, x, t1, S1, r1, k, ex, hk, q1⟩ => ?_⟩
  subst ex
  cases r1
  refine ⟨(k : Int), rfl, RgOk.of_le (by omega) (by omega) (by omega) (by omega), fun q nq => ?_⟩
  have e : (((k : Int) - 0).toNat) = k := by omega
  unfold rgV
  rw [e]
  obtain ⟨S2, t2⟩ := S1.newO (o := .lst (rgItems 0 k)) (u := .lst ((List.range k).map fun i => V.int (0 + (i : Nat)))) nq (rep_rg 0 (List.range k))
  exact ⟨F1, _, .ref q, t1.trans t2, S2, .ref q, q1 q (S1.free nq)⟩

/-! ### == of data -/
mutual
def datF : PV → Option PyData
  | .non => some .none
  | .bl b => some (.bool b)
  | .int i => some (.int i)
  | .str s => some (.str s)
  | .tup xs => (datFs xs).map .tuple
  | .fl xs => (datFs xs).map .list
  | .ref _ => none
def datFs : List PV → Option (List PyData)
  | [] => some []
  | x :: r => match datF x, datFs r with
    | some d, some ds => some (d :: ds)
    | _, _ => none
end
def datQ (h : Hq) : PV → Option PyData
  | .ref a => match h a with
    | some (.lst xs) => (datFs xs).map .list
    | _ => none
  | x => datF x
end
section
variable {K : PySem.W.Frag} {F : Addr → Prop} {H : Hp}
mutual
theorem datF_rep : ∀ {x : PV} {v : V} {d : PyData}, Rep K F H x v → datF x = some d → Dp K H v d
  | _, _, _, .non, e => by cases e; exact .non
  | _, _, _, .bl b, e => by cases e; exact .bl b
  | _, _, _, .int i, e => by cases e; exact .int i
  | _, _, _, .str s, e => by cases e; exact .str s
  | _, _, _, .ref a, e => by cases e
  | .tup xs, _, _, .tup tp rs, e => by
    unfold datF at e
    cases q : datFs xs with
    | none => rw [q] at e; cases e
    | some ds => rw [q] at e; cases e; exact .tup tp.seq (datFs_rep rs q)
  | .fl xs, _, _, .fl tp rs, e => by
    unfold datF at e
    cases q : datFs xs with
    | none => rw [q] at e; cases e
    | some ds => rw [q] at e; cases e; exact .lst tp.seq (datFs_rep rs q)
theorem datFs_rep : ∀ {xs : List PV} {vs : List V} {ds : List PyData}, Reps K F H xs vs → datFs xs = some ds → DpAll K H vs ds
  | _, _, _, .nil, e => by cases e; exact .nil
  | x :: r, _, _, .cons a b, e => by
    unfold datFs at e
    cases q : datF x with
    | none => rw [q] at e; cases e
    | some d =>
      cases q2 : datFs r with
      | none => rw [q, q2] at e; cases e
      | some ds => rw [q, q2] at e; cases e; exact .cons (datF_rep a q) (datFs_rep b q2)
end
theorem datQ_rep {T : TL} {h : Hq} (S : HSim K T F h H) {x : PV} {v : V} {d : PyData} (r : Rep K F H x v) (e : datQ h x = some d) : Dp K H v d := by
  cases x with
  | ref a =>
    cases r
    have e : (match h a with | some (.lst xs) => (datFs xs).map PyData.list | _ => none) = some d := e
    split at e
    · rename_i xs ea
      obtain ⟨vs, e1, rs⟩ := S.lst ea
      cases q : datFs xs with
      | none => rw [q] at e; cases e
      | some ds => rw [q] at e; cases e; exact .lst (.of e1) (datFs_rep rs q)
    · cases e
  | _ => exact datF_rep r e
end
section
variable {X : Cx}
def eqDQ (k : Bool → Bool) : O2 := fun x y h Q => ∃ d e, datQ h x = some d ∧ datQ h y = some e ∧ SeqAt.shaped d = true ∧ SeqAt.shaped e = true ∧ Q (.bl (k (PyData.eqv d e))) h
theorem oq_eqD (hu : X.A.units + 64 < cLine) : OpQ X (compareOp .Eq) (eqDQ id) :=
  .of (op_eqD hu) fun F h H x y v w Q S rx ry ⟨d, e, hd, he, sd, se, q⟩ => ⟨d, e, datQ_rep S rx hd, datQ_rep S ry he, sd, se, F, h, _, .refl _ _ _, S, .bl _, q⟩
theorem oq_neD (hu : X.A.units + 64 < cLine) : OpQ X (compareOp .NotEq) (eqDQ not) :=
  .of (op_neD hu) fun F h H x y v w Q S rx ry ⟨d, e, hd, he, sd, se, q⟩ => ⟨d, e, datQ_rep S rx hd, datQ_rep S ry he, sd, se, F, h, _, .refl _ _ _, S, .bl _, q⟩
end
end L3

/-! L3x: own exception classes (over ValueError, perhaps by way of others) whose __init__ says super().__init__("text"); self.f = f. -/
namespace PySem
namespace ExS
open PySem.W PySem.Calls PyProof.Rows PySem.HandSPX
def iA (f : Str) (p1 p2 : Pos) : Arguments := { posonlyargs := [], args := [{ arg := "self", annotation := none, pos := p1 }, { arg := f, annotation := none, pos := p2 }], vararg := none, kwonlyargs := [], kw_defaults := [], kwarg := none, defaults := [] }
def iB (f txt : Str) (a1 a2 a3 a4 a5 a6 q1 q2 q3 q4 : Pos) : List Stmt := [.Expr (.Call (.Attribute (.Call (.Name "super" a1) [] [] a2) "__init__" a3) [.Constant (.str txt) 0 a4] [] a5) a6, .Assign [.Attribute (.Name "self" q1) f q2] (.Name f q3) q4]
def iS (f : Str) : Scope := { kind := .function, names := [(PySem.Str.ofString "self", .local), (f, .local), (PySem.Str.ofString "__class__", .free), (PySem.Str.ofString "super", .globalImplicit)], isGenerator := false, isCoroutine := false, more := [] }
/-- what the written part says of the class x, at C, its field f, its __init__ at fI -/
structure XTxt (prog : Program) (K : Frag) (mg : Str → Option Value) (x f : Str) (C fI : Addr) : Prop where
  gC : mg x = some (.ref C)
  cls : ∃ nm q N bs bm sn sub ab col dd k0 k1 k2 k3 k5, K.lookup C = some (excClassObj nm q C N bs bm true sn sub ab col dd k0 k1 k2 k3 k5 "ValueError.__new__") ∧ refsVE bm = true
  sa : findIn K (.ref C) "__setattr__" = some (some (.builtin "object.__setattr__"))
  ga : findIn K (.ref C) "__getattribute__" = some (some (.builtin "BaseException.__getattribute__"))
  gg : findIn K (.ref C) "__getattr__" = some none
  noN : findIn K (.ref C) f = some none
  iC : findIn K (.ref C) "__init__" = some (some (.ref fI))
  tC : typeIn K (.ref fI) = some (.type "function")
  kC : keepIn K (.ref C) = true
  exC : subIn K (.ref C) (.type "BaseException") = some true
  tyC : typeIn K (.ref C) = some (.type "type")
  hdC : hasDictIn K C = true
  sup : ks_superIn K C C "__init__" = some (some (.builtin "ValueError.__init__"))
  subB : subIn K (.ref C) (.type "ValueError") = some true
  mroC : mroIn K C (.ref C) = some true
  noTP : nsIn K cStatics "thirdparty.any" = some none
  noS : nsIn K mainGlobals "super" = some none
  hS : mg "super" = none
  top : (prog.main.scope.names.lookup ("super" : Str)).isSome = false
  fn : ∃ (txt : Str) (oc : Value) (od : Option Addr) (doc pm : Value) (an : Option Addr) (cda : Addr) (ct : Value) (osl : Array (Option Value)) (cc : Addr) (qual : Str) (p1 p2 a1 a2 a3 a4 a5 a6 q1 q2 q3 q4 : Pos),
    K.lookup fI = some ⟨oc, od, .func (ksFn "__init__" qual (iA f p1 p2) (iB f txt a1 a2 a3 a4 a5 a6 q1 q2 q3 q4) (iS f) .none .none doc pm an (.ref cda) ct cc), osl⟩ ∧ codeIn K (.ref cda) qual = true ∧
    (∀ env : Env, ∃ pl : Sem Bool, eval (.Call (.Attribute (.Call (.Name "super" a1) [] [] a2) "__init__" a3) [.Constant (.str txt) 0 a4] [] a5) env = (do
      let ov ← attributeBase (.Call (.Name "super" a1) [] [] a2) "__init__" env (eval (.Call (.Name "super" a1) [] [] a2) env)
      standAt a3.atName
      let (f, first) ← holding [ov] (getMethod ov "__init__" pl)
      callWith a5 f first (backTo a5 (starEach [.Constant (.str txt) 0 a4] env)) [])) ∧
    (∃ cl cld csl, K.lookup cc = some ⟨cl, cld, .cell (some (.ref C)), csl⟩) ∧ ∃ ccl cdd vs ccs file tf, K.lookup cda = some ⟨ccl, cdd, .fields vs, ccs⟩ ∧ vs[2]? = some (.str file tf) ∧ ((prog.main.file : Str) == file) = true
/-- the field's name is an ordinary one -/
structure FOk (f : Str) : Prop where
  k1 : (iS f).names.lookup f = some .local
  k2 : (iS f).names.lookup ("self" : Str) = some .local
  k3 : (iS f).names.lookup ("super" : Str) = some .globalImplicit
  k4 : (iS f).names.lookup ("__class__" : Str) = some .free
  ne : f ≠ ("self" : Str)
  db : (f == ("__debug__" : Str)) = false
  cell : ∀ x ∈ (iS f).names, x.2 ≠ .cell
  bind : ∀ (txt qual : Str) (doc pm : Value) (an : Option Addr) (cda cc x : Addr) (ct v : Value) (p1 p2 a1 a2 a3 a4 a5 a6 q1 q2 q3 q4 : Pos),
    bindArgs (ksFn "__init__" qual (iA f p1 p2) (iB f txt a1 a2 a3 a4 a5 a6 q1 q2 q3 q4) (iS f) .none .none doc pm an (.ref cda) ct cc) ⟨[.ref x, v], []⟩ = pure [((PySem.Str.ofString "self" : Str), Value.ref x), (f, v)]
theorem fok_place : FOk "place" := ⟨by decide +kernel, by decide +kernel, by decide +kernel, by decide +kernel, by decide +kernel, by decide +kernel, by decide +kernel, fun _ _ _ _ _ _ _ _ _ _ _ _ _ _ _ _ _ _ _ _ _ _ => rfl⟩
theorem fok_value : FOk "value" := ⟨by decide +kernel, by decide +kernel, by decide +kernel, by decide +kernel, by decide +kernel, by decide +kernel, by decide +kernel, fun _ _ _ _ _ _ _ _ _ _ _ _ _ _ _ _ _ _ _ _ _ _ => rfl⟩
theorem one_size (v : Value) : [v].length ≤ sizeLine := by
  rw [sizeLine_eq]
  exact (by decide : 1 ≤ 16777216)
structure InitEnd (f : Str) (h h' : Heap) (x C dx t1 : Addr) (v : Value) : Prop where
  keep : ∀ b o, b ≠ x → h.get? b = some o → h'.get? b = some o
  obj : h'.get? x = some { cls := .ref C, dict := some dx, data := .fields #[.ref t1, .none, .none, .none, .bool false, .none] }
  dbig : h.objs.size ≤ dx
  dne : dx ≠ x
  ns : h'.Ns1 dx (fun y => if y = f then some v else none)
structure OwnMade (f : Str) (h h' : Heap) (e C d : Addr) (v : Value) : Prop where
  keep : ∀ b o, h.get? b = some o → h'.get? b = some o
  new : h.objs.size ≤ e
  obj : ∃ oe vs, h'.get? e = some oe ∧ oe.cls = .ref C ∧ oe.dict = some d ∧ oe.data = .fields vs ∧ vs[1]? = some .none
  dbig : h.objs.size ≤ d
  dne : d ≠ e
  ns : h'.Ns1 d (fun y => if y = f then some v else none)
section
variable {prog : Program} {w : World} {A : Around} {E : Value → Shared → Prop} {R : Result → Shared → Prop} {s : Shared} {K : Frag} {mg : Str → Option Value} {C fI : Addr} {n f : Str}
/-- super().__init__(text), bound at u -/
theorem call_mw {u e t0 : Addr} {rest : List Value} {Q : Value → Shared → Prop} {nm q : Str} {N : Addr} {bs bm : List Value} {hdct : Bool} {sn : List Str} {sub : List Value} {ab : Bool} {col : Option Bool} {dd : Option Addr} {k0 k1 k2 k3 k5 : Option Value}
    (hC : s.heap.get? C = some (excClassObj nm q C N bs bm hdct sn sub ab col dd k0 k1 k2 k3 k5 "ValueError.__new__")) (he : s.heap.get? e = some (excO C t0)) (hu : s.heap.get? u = some (kxs_mw "ValueError.__init__" e)) (hrest : rest.length ≤ sizeLine)
    (hq : ∀ h' t1, (∀ b o, b ≠ e → s.heap.get? b = some o → h'.get? b = some o) → h'.get? e = some (excO C t1) → s.heap.objs.size ≤ h'.objs.size → Q .none { s with heap := h' }) :
    wpAny (model prog w) A (call (.ref u) rest) Q E s := by
  have FB := F.excBase_ValueError
  obtain ⟨h, g, d, t, os⟩ := s
  refine wpAny_call (codeAny_of_tree ?_)
  show wpAny _ A.in1 (callAny (.ref u) ⟨rest, []⟩) _ _ _
  simp only [callAny]
  refine wpAny_bind (wpAny_load hu ?_)
  simp only [kxs_mw, show (Value.type "method-wrapper" == Value.type "method" || Value.type "method-wrapper" == Value.type "builtin_function_or_method" || Value.type "method-wrapper" == Value.type "method-wrapper") = true by decide, if_true]
  refine KFB.if_so (by decide) ?_
  refine wpAny_bind (check_bound_init FB.toExcCallFacts hC he rfl ?_)
  refine wpAny_bind (wpAny_pure (wpAny_pure ?_))
  refine ⟨plainId_quiet FB.init.plain _, codeAny_builtin FB.initEntry ?_⟩
  refine exc_init_tree (cls := .ref C) (t0 := t0) (dv := none) (c2 := .none) (c3 := .none) (b4 := .bool false) he hrest fun h' k e' t' => ?_
  exact hq h' _ k e' (Nat.le_of_lt (Heap.lt_size t'))
theorem own_init (T : XTxt prog K mg n f C fI) (O : FOk f) {x t0 : Addr} {v : Value} {mb : Str → Option Value} (X : K.In s.heap) (hg : s.heap.Ns mainGlobals mg) (hb : s.heap.Ns builtinsNs mb) (hbs : mb "super" = some (.type "super")) (hlim : s.heap.NoLimit) (hx : s.heap.get? x = some (excO C t0)) (hnx : K.lookup x = none) (hroom : A.depth < recursionLimit)
    (hq : ∀ h' tk dx t1, InitEnd f s.heap h' x C dx t1 v → R (.ok (.ret .none)) { s with heap := h', toks := tk }) :
    codeAny (model prog w) A (.call (.ref fI) ⟨[.ref x, v], []⟩) R s := by
  obtain ⟨txt, oc, od, doc, pm, an, cda, ct, osl, cc, qual, p1, p2, a1, a2, a3, a4, a5, a6, q1, q2, q3, q4, ho, hcd, hev, ⟨cl, cld, csl, hcell⟩, ccl, cdd, vs, ccs, file, tf, hcode, hvs, hfile⟩ := T.fn
  obtain ⟨nm, q, N, bs, bm, sn, sub, ab, col, dd, k0, k1, k2, k3, k5, hC, hbm⟩ := T.cls
  have hcl : clsIn K C = some { name := nm, bases := bs, mro := .ref C :: bm, ns := N, qualname := q, hasDict := true, slotNames := sn, subclasses := sub, abstract := ab, collection := col, hasDel := false } := by unfold clsIn; rw [hC] <;> rfl
  obtain ⟨oD, hD0, hDd⟩ : ∃ oD, K.lookup C = some oD ∧ oD.data = .cls { name := nm, bases := bs, mro := .ref C :: bm, ns := N, qualname := q, hasDict := true, slotNames := sn, subclasses := sub, abstract := ab, collection := col, hasDel := false } := ⟨_, hC, rfl⟩
  refine ks_codeAny_call_defAt (body := iB f txt a1 a2 a3 a4 a5 a6 q1 q2 q3 q4) (binds := [("self", .ref x), (f, v)]) hroom (X _ _ ho) rfl hlim (codeRec_of X hcd) rfl (BindsTo.of_eq (O.bind _ _ _ _ _ _ _ _ _ _ _ _ _ _ _ _ _ _ _ _ _ _)) O.cell (fun y hy => ?_) (fun h₁ hn k => ?_)
  · rcases List.mem_cons.mp hy with rfl | hy
    · exact O.k2
    · rcases List.mem_cons.mp hy with rfl | hy
      · exact O.k1
      · cases hy
  have X₁ : K.In h₁ := X.keeps k
  have hx₁ := k _ _ hx
  have lkF : ([(("self" : Str), Value.ref x), (f, v)].reverse).lookup f = some v := by
    show List.lookup f [(f, v), (("self" : Str), Value.ref x)] = some v
    simp [List.lookup]
  have lkS : ([(("self" : Str), Value.ref x), (f, v)].reverse).lookup ("self" : Str) = some (.ref x) := by
    show List.lookup ("self" : Str) [(f, v), (("self" : Str), Value.ref x)] = some (.ref x)
    have e : (("self" : Str) == f) = false := by
      rw [beq_eq_false_iff_ne]; exact Ne.symm O.ne
    simp [List.lookup, e]
  have hL : ∀ b o, s.heap.get? b = some o → b ≠ s.heap.objs.size := fun b o e => Nat.ne_of_lt (Heap.lt_size e)
  -- super().__init__(text)
  obtain ⟨pl, hpl⟩ := hev (callEnv (ksFn "__init__" qual (iA f p1 p2) (iB f txt a1 a2 a3 a4 a5 a6 q1 q2 q3 q4) (iS f) .none .none doc pm an (.ref cda) ct cc) s.heap.objs.size fI)
  refine ks_wpAt_execs_cons (ks_wpAt_Expr_any (ks_wpAt_MethodCall (pl := pl) ?_ hpl) (by rfl) (by rfl))
  refine ks_wpAt_super_base (f := fI) (cc := cda) (fd := ksFn "__init__" qual (iA f p1 p2) (iB f txt a1 a2 a3 a4 a5 a6 q1 q2 q3 q4) (iS f) .none .none doc pm an (.ref cda) ct cc) (ar := { arg := "self", annotation := none, pos := p1 }) (vs := vs) (file := file) (tf := tf) O.k3 O.k4 (by decide +kernel) rfl (X₁ _ _ ho) rfl rfl rfl (X₁ _ _ hcode) rfl hvs hfile T.top ?_
  refine ks_loadName_global rfl O.k3 (loadGlobal_builtin (hg.keeps k) T.hS (hb.keeps k) hbs ⟨rfl, ?_⟩)
  refine wpAny_loadName_free rfl O.k4 rfl ⟨_, X₁ _ _ hcell, rfl⟩ ?_
  refine wpAny_loadName_local rfl O.k2 hn lkS ?_
  refine ks_wpAny_isType_cls (X₁ _ _ hD0) hDd ⟨rfl, ?_⟩
  refine ks_wpAny_call_super (X₁ _ _ hD0) hDd hx₁ rfl (fun c e => by cases e) (looks_mroIn X₁ T.mroC) fun h₂ hso k₂ => ?_
  have X₂ : K.In h₂ := X₁.keeps k₂
  have hI : Looks (model prog w) h₂ (isInstance (.ref x) (.type "ValueError")) true := (show InstAt h₂ x (excO C t0) C none from ⟨k₂ _ _ hx₁, rfl, rfl, trivial⟩).type.andThen (looks_subIn X₂ T.subB)
  have hm := T.sup
  unfold ks_superIn at hm
  rw [hcl] at hm
  refine kxs_getMethod kxs_ValueError hso (looks_opaque X₂ T.noTP) (l₀ := .ref C :: bm) ?_ rfl X₂ hm hI (ks_ne X₂ (show InstAt h₂ x (excO C t0) C none from ⟨k₂ _ _ hx₁, rfl, rfl, trivial⟩) hcl) (by decide +kernel) ?_
  · exact fun A Q E s kk q => wpAny_bind ((looks_clsIn X₂ hcl) A _ E s kk (wpAny_pure q))
  refine kxs_callWith (i := "ValueError.__init__") (x := x) (by rfl) (evalArgs_plain ?_)
  refine Calls.spliced_cons (Calls.Constant_str (pos := a4) (k := 0) (Calls.spliced_nil ?_))
  have k₃ : ∀ b o, h₂.get? b = some o → (h₂.push (kxs_mw "ValueError.__init__" x)).get? b = some o := fun b o e => Heap.get?_push_of_some _ e
  have hu : (h₂.push (kxs_mw "ValueError.__init__" x)).get? h₂.objs.size = some (kxs_mw "ValueError.__init__" x) := Heap.get?_push_size _ rfl
  refine ⟨hu, call_mw (e := x) (k₃ _ _ (X₂ _ _ hC)) (k₃ _ _ (k₂ _ _ hx₁)) hu (one_size _) fun h₄ t1 k₄ hx₄ sz₄ => ?_⟩
  have sz₁ : s.heap.objs.size < h₁.objs.size := hn.lt
  have sz₂ : h₁.objs.size < h₂.objs.size := Heap.lt_size hso
  have old₄ : ∀ b o, b ≠ x → h₁.get? b = some o → h₄.get? b = some o := fun b o hb e => k₄ b o hb (k₃ b o (k₂ b o e))
  have X₄ : K.In h₄ := fun a o e => old₄ a o (fun z => by rw [z, hnx] at e; cases e) (X₁ a o e)
  have hxL : s.heap.objs.size ≠ x := Nat.ne_of_gt (Heap.lt_size hx)
  have hn₄ : h₄.Ns s.heap.objs.size (fun y => ([(("self" : Str), Value.ref x), (f, v)].reverse).lookup y) := by
    obtain ⟨oL, es, ep, e1, r⟩ := hn
    exact ⟨oL, es, ep, old₄ _ _ hxL e1, r⟩
  -- self.f = f
  refine ks_wpAt_execs_cons (ks_wpAt_Assign_Attr (wpAt_of_wpAny ?_) (by rfl))
  refine wpAny_Name (wpAny_loadName_local rfl O.k1 hn₄ lkF ?_) O.db
  refine wpAny_Name (wpAny_loadName_local rfl O.k2 hn₄ lkS ?_) (by decide)
  refine set_plain X₄ (ox := excO C t1) (od := none) ⟨hx₄, rfl, rfl, trivial⟩ T.sa ?_
  refine exc_osa X₄ hx₄ hcl (show refsVE (.ref C :: bm) = true from hbm) rfl T.noN (fun h₅ tk₅ dx k₅ dn dne hx₅ hn₅ => ?_)
  refine wpAt_of_wpAny (wpAny_execs_nil (hq h₅ tk₅ dx t1 ⟨fun b o hb e => k₅ b o hb (old₄ b o hb (k b o e)), hx₅, ?_, dne, hn₅⟩))
  have sz₅ : (h₂.push (kxs_mw "ValueError.__init__" x)).objs.size ≤ h₄.objs.size := sz₄
  have dn' : h₄.objs.size ≤ dx := dn
  rw [Heap.size_push] at sz₅
  omega
theorem own_made (T : XTxt prog K mg n f C fI) (O : FOk f) {v : Value} {mb : Str → Option Value} (X : K.In s.heap) (hg : s.heap.Ns mainGlobals mg) (hb : s.heap.Ns builtinsNs mb) (hbs : mb "super" = some (.type "super")) (hlim : s.heap.NoLimit) (hroom : A.depth + 1 < recursionLimit)
    (hq : ∀ h' tk e d, OwnMade f s.heap h' e C d v → R (.ok (.ret (.ref e))) { s with heap := h', toks := tk }) :
    codeAny (model prog w) A (.call (.ref C) ⟨[v], []⟩) R s := by
  obtain ⟨nm, q, N, bs, bm, sn, sub, ab, col, dd, k0, k1, k2, k3, k5, hC, hbm⟩ := T.cls
  obtain ⟨hp, g, dr, tk, os⟩ := s
  have k : ∀ b o, hp.get? b = some o → ((hp.push (kdv_tup [v])).push (excO C hp.objs.size)).get? b = some o := fun b o e => Heap.get?_push_of_some _ (Heap.get?_push_of_some _ e)
  have hget : ((hp.push (kdv_tup [v])).push (excO C hp.objs.size)).get? (hp.objs.size + 1) = some (excO C hp.objs.size) := by heap_get
  have hnx : K.lookup (hp.objs.size + 1) = none := by
    cases e : K.lookup (hp.objs.size + 1) with
    | none => rfl
    | some o =>
      have z : hp.get? (hp.objs.size + 1) = some o := X _ _ e
      exact absurd (Nat.lt_of_succ_lt (Heap.lt_size z)) (Nat.lt_irrefl _)
  refine call_own F.excBase_ValueError (fun X => refsVE_contains X bm hbm) (X _ _ hC) (looks_findIn X T.iC) (fun self => bind_fn X self T.tC) (one_size v) ?_
  refine own_init (s := ⟨(hp.push (kdv_tup [v])).push (excO C hp.objs.size), g, dr, tk, os⟩) T O (X.keeps k) (hg.keeps k) (hb.keeps k) hbs (hlim.keeps k) hget hnx ?_ fun h' tk' dx t1 ⟨k', hx, dn, dne, hns⟩ => ?_
  · show A.depth + 1 < recursionLimit
    exact hroom
  · have old : ∀ b o, hp.get? b = some o → h'.get? b = some o := fun b o e => k' b o (Nat.ne_of_lt (Nat.lt_succ_of_lt (Heap.lt_size e))) (k b o e)
    have z : hp.objs.size + 1 + 1 ≤ dx := by
      have q := dn
      rw [Heap.size_push, Heap.size_push] at q
      exact q
    exact ⟨rfl, hq h' tk' (hp.objs.size + 1) dx ⟨old, Nat.le_succ _, ⟨_, _, hx, rfl, rfl, rfl, rfl⟩, Nat.le_trans (Nat.le_trans (Nat.le_succ _) (Nat.le_succ _)) z, dne, hns⟩⟩
end
end ExS
end PySem
namespace L2
open PySem PySem.Spec PyProof.Rows
theorem relO_one {f : Str} {v : V} {v' : Value} (r : RelV v v') (g : Str) : RelO (List.lookup g [(f, v)]) (if g = f then some v' else none) := by
  by_cases hw : g = f
  · subst hw
    rw [if_pos rfl]
    have q : List.lookup g [(g, v)] = some v := by simp [List.lookup]
    rw [q]
    exact r
  · rw [if_neg hw]
    have qw : (g == f) = false := by simpa using hw
    have q2 : List.lookup g [(f, v)] = none := by simp [List.lookup, qw]
    rw [q2]
    trivial
section
variable {X : Cx} {C fI : Addr} {n f : Str}
/-- n(e) -/
def tMkX (C : Addr) (f : Str) (ta : TA) : L2.St → Hp → XK → Prop := fun σ H Q => ta σ H fun vs H1 => ∃ v, vs = [v] ∧ ∀ d, H1 d = none → Q (.ref C) (some d) (upd H1 d (.xd [(f, v)]))
theorem pmk_x {a : Expr} {ta : TA} {p pos : Pos} {k : Nat} (T : PySem.ExS.XTxt X.prog X.K X.mg n f C fI) (O : PySem.ExS.FOk f) (hr : Room k X.A) (ha : PA X [a] ta) (hg : Gl X n) (hdb : (n == ("__debug__" : Str)) = false)
    (he : starEach (a :: []) X.env = (false, eval a X.env) :: starEach [] X.env := by rfl) (hpl : (backTo pos (starEach [] X.env)).any (·.1) = false := by rfl) :
    PMk X (.Call (.Name n p) [a] [] pos) (tMkX C f ta) := by
  intro pins s σ H Q I h
  refine wpAny_Call_Name_kw (ld_glob I hg T.gC ?_ hdb)
  refine PySem.W.callWith_K (h₀ := X.base) I.ok.mod.kin T.kC (thn (ha.run pos pins s σ H _ I h) fun us s1 hh => ?_) he hpl
  obtain ⟨vs, H1, I1, r1, v, ev, q1⟩ := hh
  subst ev
  refine ⟨I1.kIn, ?_⟩
  cases r1 with
  | cons rv rn =>
    rename_i v' us'
    cases rn
    show wpAny _ _ (call (.ref C) [v']) _ _ _
    have hlim := I1.nolimit
    obtain ⟨mb, hb1, hb2⟩ := I1.mod.blt
    have hbk := I1.bk
    have hbs : mb "super" = some (.type "super") := (hb2 _ (by decide +kernel)).trans (by decide +kernel)
    obtain ⟨hp, g, dr, tk, os⟩ := s1
    refine wpAny_call (PySem.ExS.own_made T O I1.kIn (I1.mod.glob.keeps hbk) (hb1.keeps hbk) hbs hlim (by have := hr.dp; omega) fun h' tk' e d M => ?_)
    show MkP X pins σ Q (.ref e) ⟨h', g, dr, tk', os⟩
    obtain ⟨oe, fv, hoe, hc, hd, hdat, h1⟩ := M.obj
    have hns := M.ns
    obtain ⟨G', g1, g2⟩ := restrict h' fun b => decide (b ≠ e)
    have gk : ∀ b, b ≠ e → G'.get? b = h'.get? b := fun b hb => g1 b (decide_eq_true hb)
    have ge : G'.get? e = none := g2 e (by simp)
    have old : ∀ b o, hp.get? b = some o → G'.get? b = some o := fun b o q => (gk b (Nat.ne_of_lt (Nat.lt_of_lt_of_le (Heap.lt_size q) M.new))).trans (M.keep b o q)
    have ob : ObjOk X.prog X.w (upd H1 d (.xd [(f, v)])) G' d (.xd [(f, v)]) :=
      ⟨_, hns.at (fun o q => (gk d M.dne).trans q), fun f => relO_one rv f⟩
    have J : Inv X pins σ (upd H1 d (.xd [(f, v)])) ⟨G', g, dr, tk', os⟩ := I1.laid (t' := tk') old M.dbig ob
    refine ⟨e, oe, fv, ⟨G', g, dr, tk', os⟩, _, .ref C, some d, rfl, J, fun b o q => ?_, ge, hoe, ⟨hc, hd⟩, hdat, h1, ?_, rfl, I1.bare, raises_own T.exC T.tyC, q1 d (I1.hok.fresh M.dbig)⟩
    · by_cases hb : b = e
      · have q' : G'.get? b = some o := q
        rw [hb, ge] at q'; cases q'
      · exact (gk b hb).symm.trans q
    · rw [upd_ne (Ne.symm M.dne)]
      exact I1.hok.fresh M.new
/-- e.f, e the exception that the suite holds -/
def tByX (C : Addr) (f : Str) (a : Addr) (cls : Value) (d : Option Addr) (te : TE) : TE := fun σ H Q => te σ H fun x H1 => x = .ref a ∧ cls = .ref C ∧ ∃ (dd : Addr) (v : V), d = some dd ∧ H1 dd = some (.xd [(f, v)]) ∧ Q v H1
theorem pe_byX {a : Addr} {oe : Obj} {cls : Value} {d : Option Addr} {pn : List (Addr × Obj)} {e : Expr} {te : TE} {pos : Pos} (T : PySem.ExS.XTxt X.prog X.K X.mg n f C fI) (hz : Zc cls d oe) (hf : ∃ vs, oe.data = .fields vs) (he : PE (X.suite a ((a, oe) :: pn)) e te)
    (hb : attributeBase e f X.env (eval e X.env) = eval e X.env := by rfl) :
    PE (X.suite a ((a, oe) :: pn)) (.Attribute e f pos) (tByX C f a cls d te) := by
  refine ⟨fun pins s σ H Q I h => ?_⟩
  refine attr_of hb (thn (he.run pins s σ H _ I h) fun u s1 hh => ?_)
  obtain ⟨x, H1, I1, rx, ex, ec, dd, v, ed, ea, q⟩ := hh
  subst ex
  obtain rfl : u = Value.ref a := rx
  subst ec
  subst ed
  obtain ⟨ha, _⟩ := I1.pin (a, oe) (List.mem_append_left _ List.mem_cons_self)
  obtain ⟨vs, hd⟩ := hf
  have hx : ObjOk X.prog X.w H1 s1.heap dd (.xd [(f, v)]) := I1.hok dd _ ea
  obtain ⟨mA, hns, hr⟩ := hx
  obtain ⟨od, ho, hl⟩ := lookIn_ns hns
  have l : List.lookup f [(f, v)] = some v := by simp [List.lookup]
  obtain ⟨u, hu, ru⟩ := RelO.some_of (v := v) (o := mA f) (by rw [← l]; exact hr f)
  have J : PySem.W.InstAt s1.heap a oe C (some od) := ⟨ha, hz.1, by unfold PySem.W.notCls; rw [hd] <;> rfl, by rw [hz.2]; exact ho⟩
  exact HandSPX.exc_get I1.kIn J T.ga T.gg T.exC (PySem.W.findObj_own T.hdC T.noN rfl (by rw [hl, hu])) (handed_of ru) ⟨v, H1, I1.tok _, ru, q⟩
end
end L2

/-! L3y: try with several clauses, each of them "except X as n". -/
namespace L2
open PySem PySem.Spec PyProof.Rows
abbrev TSx := Addr → Value → Option Addr → TS
/-- behind a clause the name is gone -/
def endsNo (i : Nat) (D : Ends) : Ends := { nx := fun σ' H' => D.nx (σ'.set i none) H', rt := D.rt, bk := fun σ' H' => D.bk (σ'.set i none) H', ct := fun σ' H' => D.ct (σ'.set i none) H' }
def wManyAs (K : PySem.W.Frag) (Wout : WX) (D : Ends) (i : Nat) : List (Value × TSx) → WX
  | [] => Wout
  | (c, ts) :: r => fun cls d σ H => ∃ b, PySem.W.exmOne K cls c = some b ∧ (b = true → ∀ a, H a = none → ts a cls d (endsNo i D) (σ.set i (some (.ref a))) H) ∧ (b = false → wManyAs K Wout D i r cls d σ H)
inductive HdsAs (X : Cx) (n : Str) : List ExceptHandler → List (Value × TSx) → Prop
  | nil : HdsAs X n [] []
  | cons {x : Str} {c : Value} {ts : TSx} {b₀ : Stmt} {suite : List Stmt} {np pos' : Pos} {hds : List ExceptHandler} {l : List (Value × TSx)} (hc : Names X x c)
      (hsu : ∀ (a : Addr) (oe : Obj) (cls : Value) (d : Option Addr) (pn : List (Addr × Obj)), Zc cls d oe → (∃ vs, oe.data = .fields vs) → PSs (X.suite a ((a, oe) :: pn)) (b₀ :: suite) (ts a cls d)) (r : HdsAs X n hds l) :
      HdsAs X n (.ExceptHandler (some (.Name x np)) (some n) (b₀ :: suite) pos' :: hds) ((c, ts) :: l)
section
variable {X : Cx} {n : Str} {i : Nat} {body : List Stmt} {h₀ : ExceptHandler} {hds : List ExceptHandler} {l : List (Value × TSx)} {pos : Pos} {tb : WX → TS} {Wout : WX}
theorem ps_try_manyAs (hs : X.stack = X.env :: X.outer) (hf : X.env.frame = some X.env.locals) (hN : X.N.Nodup) (hi : X.N[i]? = some n) (hln : X.env.kindOf n = some .local) (tk : Takes X Wout)
    (hb : ∀ (W : WX) (pn : List (Addr × Obj)) (xe : Value → Shared → Prop), Takes (X.tr pn xe) W → PassesOwn (model X.prog X.w) X.A X.env xe → PSs (X.tr pn xe) body (tb W))
    (hh : HdsAs X n (h₀ :: hds) l) : PS X (.Try body (h₀ :: hds) [] [] pos) (fun D σ H => tb (wManyAs X.K Wout D i l) D σ H) := by
  refine ⟨fun pins s σ H D I h => ?_⟩
  have ok := I.ok
  have hfr : X.A.frames = some (X.env :: X.outer) := by rw [ok.frames, hs]
  have hloc : Loc X.env.scope n := .inl hln
  refine wpAny_Try_except ?_
  refine wpAny_mono ((hb (wManyAs X.K Wout D i l) (X.pn ++ pins) (fun e s₁ => wpAny (model X.prog X.w) X.A (noteFrame e X.env) (fun _ s₂ => wpAny (model X.prog X.w) X.A (setFlight e none) (fun _ s₃ =>
    wpAny (model X.prog X.w) X.A (handleBy e X.env (h₀ :: hds)) (SP X pins D) X.xe s₃) X.xe s₂) X.xe s₁) (fun u s' xx => ?_) PassesOwn.looking).run [] s σ H D (I.toTry _) h) (fun f s1 hsp => ?_) (fun e s1 he => he)
  · obtain ⟨a, B, sI, pins', σ', H', cls, d, rfl, J', nb, up, sky, na, os, ag, w⟩ := xx
    have J : Inv X pins σ' H' sI := J'.ofTry ok
    have sky' : Sky B (X.env :: X.outer) a (Zc cls d) X.env.locals s'.heap := by rw [← hs]; exact sky
    show wpAny (model X.prog X.w) X.A (noteFrame (.ref a) X.env) _ _ _
    refine Sky.land Zc.steady hfr hf sky' fun h3 fl3 up3 => ?_
    have J3 : Inv X pins σ' H' { s' with heap := h3 } := J.landed nb fl3.1 (up.trans up3) os ag
    obtain ⟨oe3, vs3, he3, hz3, hd3⟩ := fl3.there
    have notFr : ∀ {h : Heap} {o : Obj} {vs : Array Value}, h.FunFrames B (X.env :: X.outer) → h.get? a = some o → o.data = .fields vs → a ∉ frs (X.env :: X.outer) := fun {h o vs} ff e dd hm => by
      obtain ⟨_, o', e', hnf⟩ := ff.mem hm
      rw [e] at e'; cases e'
      exact hnf _ dd
    have nfr := notFr fl3.2.2.1 he3 hd3
    have nL : a ≠ X.env.locals := fun z => nfr (List.mem_filterMap.mpr ⟨X.env, List.mem_cons_self, by rw [hf, z]⟩)
    have nF : a ∉ X.fs := fun hm => by
      obtain ⟨e, he, q⟩ := List.mem_filterMap.mp hm
      exact nfr (List.mem_filterMap.mpr ⟨e, List.mem_cons_of_mem _ he, q⟩)
    have S3 := J3.suite he3 hd3 na nL nF
    have go : ∀ {hds' : List ExceptHandler} {l' : List (Value × TSx)}, HdsAs X n hds' l' → wManyAs X.K Wout D i l' cls d σ' H' →
        wpAny (model X.prog X.w) X.A (handleBy (.ref a) X.env hds') (SP X pins D) X.xe { s' with heap := h3 } := by
      intro hds' l' hk
      induction hk with
      | nil =>
        intro w
        refine wpAny_handleBy_nil ?_
        obtain ⟨k1, k2, k3, oe, vs, T, oT, ts', he, hz, hd, h1, hr⟩ := id fl3
        unfold PySem.passOn
        refine wpAny_bind (wpAny_field he hd h1 ?_)
        rw [if_neg (show ¬ ((Value.ref T == Value.none) = true) from by simp)]
        have fin : wpAny (model X.prog X.w) X.A (setFlight (.ref a) X.env.frame) (fun _ s4 => wpAny (model X.prog X.w) X.A (throw (.ref a) : Sem Flow) (SP X pins D) X.xe s4) X.xe { s' with heap := h3 } := by
          rw [hf]
          refine HandSPX.setFlight_upZ fl3 fun h4 hh4 up4 => wpAny_throw (tk _ _ ?_)
          exact ⟨a, B, sI, pins, σ', H', cls, d, rfl, J, nb, (up.trans up3).trans up4, .inr (.inr (by rw [hs]; exact hh4)), na, os, ag, w⟩
        first
          | exact wpAny_bind (wpAny_pure (wpAny_bind fin))
          | exact wpAny_bind fin
      | @cons x c ts b₀ suite np pos' hds2 l2 hc hsu r ih =>
        intro w
        obtain ⟨b, hb1, hyes, hno⟩ := w
        refine wpAny_handleBy_cons (codeAny_handlers_test ?_) (by intro q; cases q)
        have LT : PySem.W.Looks (model X.prog X.w) h3 (typeOf (.ref a)) cls := fun A Q E s k q => wpAny_typeOf_ref (k _ _ he3) (by rw [hz3.1]; exact q)
        have LM := PySem.W.exm_one (M := model X.prog X.w) (J3.kIn) LT hb1
        have test : ∀ {Q : Value → Shared → Prop} {E : Value → Shared → Prop}, Q c { s' with heap := h3 } → wpAny (model X.prog X.w) (X.A.mark (some (.ref a))) (eval (.Name x np) X.env) Q E { s' with heap := h3 } := fun {Q E} q => by
          obtain ⟨hg, hdbg, hm | ⟨hm, hv, hnn⟩⟩ := hc
          · exact ld_glob (X := X.suite a ((a, oe3) :: (X.pn ++ pins))) S3 hg hm q hdbg
          · exact ld_blt (X := X.suite a ((a, oe3) :: (X.pn ++ pins))) S3 hg hm hv q hnn hdbg
        refine test (LM.here ?_)
        cases b with
        | true =>
          refine codeAny_handlers_suite_as ?_
          refine HandSPX.lands_againZ fl3 fun h4 fl4 up4 => ?_
          have J4 : Inv X pins σ' H' { s' with heap := h4 } := J.landed nb fl4.1 ((up.trans up3).trans up4) os ag
          obtain ⟨oe4, vs4, he4, hz4, hd4⟩ := fl4.there
          have S4 := J4.suite he4 hd4 na nL nF
          refine store_ok (X := X.suite a ((a, oe4) :: (X.pn ++ pins))) (v := .ref a) S4 hN hi hloc rfl (fun s5 S5 => ?_) (.inr hln)
          refine wpAny_mono ((hsu a oe4 cls d (X.pn ++ pins) hz4 ⟨_, hd4⟩).run [] s5 _ H' _ S5 (hyes rfl a na)) (fun f s6 hsp => ?_) (fun _ _ z => False.elim z)
          have end_ : ∀ {σ6 : L2.St} {H6 : Hp} {Q : Shared → Prop}, Inv (X.suite a ((a, oe4) :: (X.pn ++ pins))) [] σ6 H6 s6 → (∀ s7, Inv X pins (σ6.set i none) H6 s7 → Q s7) →
              wpAny (model X.prog X.w) X.A (do bindName X.env n .none; unbindBehindTheSuite X.env n pos') (fun _ s7 => Q s7) X.xe s6 := fun {σ6 H6 Q} S6 hq => gone_ok (S6.unsuite ok) hN hi hln hq
          cases f with
          | next =>
            obtain ⟨σ6, H6, S6, q6⟩ := hsp
            exact end_ S6 fun s7 J7 => ⟨_, _, J7, q6⟩
          | brk =>
            obtain ⟨σ6, H6, S6, q6⟩ := hsp
            exact end_ S6 fun s7 J7 => ⟨_, _, J7, q6⟩
          | cont =>
            obtain ⟨σ6, H6, S6, q6⟩ := hsp
            exact end_ S6 fun s7 J7 => ⟨_, _, J7, q6⟩
          | ret u =>
            obtain ⟨v6, σ6, H6, S6, r6, q6⟩ := hsp
            exact end_ S6 fun s7 J7 => ⟨_, _, _, J7, r6, q6⟩
        | false =>
          show wpAny _ X.A (handleBy (.ref a) X.env hds2) _ _ _
          exact ih (hno rfl)
    exact go hh w
  · cases f with
    | next =>
      obtain ⟨σ', H', J', q⟩ := hsp
      exact wpAny_execs_nil ⟨σ', H', J'.ofTry ok, q⟩
    | brk =>
      obtain ⟨σ', H', J', q⟩ := hsp
      exact ⟨σ', H', J'.ofTry ok, q⟩
    | cont =>
      obtain ⟨σ', H', J', q⟩ := hsp
      exact ⟨σ', H', J'.ofTry ok, q⟩
    | ret u =>
      obtain ⟨v, σ', H', J', r, q⟩ := hsp
      exact ⟨v, σ', H', J'.ofTry ok, r, q⟩
end
end L2

/-! L3g: defs over plain data: their promises, calls, keywords, raising. -/
namespace L3
open PySem PySem.Spec PyProof.Rows L2

abbrev PQ := List PV → Hq → VQ → XQ → Prop
def lSp (K : PySem.W.Frag) (T : TL) (sp : PQ) : Sp := fun vs H Q E => ∃ F h xs Q' E', HSim K T F h H ∧ Reps K F H xs vs ∧ sp xs h Q' E' ∧ (∀ v H', EPost K T F h H Q' v H' → Q v H') ∧ (∀ c d H', XPost K T F h H E' c d H' → E c d H')
/-- what this body wants of exceptions -/
def LX (X : Cx) (G : Gr) (E : XQ) : Prop := Takes X (fun cls d _ H => XPost X.K G.T G.F G.h G.H E cls d H)
abbrev noX : XQ := fun _ _ _ => False
theorem LX.none {X : Cx} {G : Gr} : LX X G noX := Takes.imp takes0 fun c d σ H ⟨_, _, _, _, _, _, z⟩ => z
theorem LX.imp {X : Cx} {G : Gr} {E E' : XQ} (l : LX X G E') (i : ∀ c x h, E c x h → E' c x h) : LX X G E := Takes.imp l fun c d σ H p => XPost.imp i p
abbrev FnQ (P : Program) (w : World) (K : PySem.W.Frag) (mg : Str → Option Value) (base : Heap) (T : TL) (k : Nat) (f : Addr) (fd : FuncData) (ps : List Str) (sp : PQ) : Prop := FnOk P w K mg base (L2.CX P w) k f fd ps (lSp K T sp)

/-! ### the same thing seen otherwise: lists nobody changes any more are values; things nobody needs are forgotten -/
def Fz (x : PV) (h : Hq) (x' : PV) (h' : Hq) : Prop := ∀ K T F H v, HSim K T F h H → Rep K F H x v → ∃ F', Step F h H F' h' H ∧ HSim K T F' h' H ∧ Rep K F' H x' v
def FzS (x : List PV) (h : Hq) (x' : List PV) (h' : Hq) : Prop := ∀ K T F H v, HSim K T F h H → Reps K F H x v → ∃ F', Step F h H F' h' H ∧ HSim K T F' h' H ∧ Reps K F' H x' v
theorem Fz.refl (x : PV) (h : Hq) : Fz x h x h := fun K T F H v S r => ⟨F, .refl _ _ _, S, r⟩
theorem Fz.sub {x : PV} {h h' : Hq} (s : Sub h' h) : Fz x h x h' := fun K T F H v S r => ⟨F, .sub s F H, S.sub s, r⟩
theorem Fz.trans {x y z : PV} {h h1 h2 : Hq} (a : Fz x h y h1) (b : Fz y h1 z h2) : Fz x h z h2 := fun K T F H v S r =>
  let ⟨F1, t1, S1, r1⟩ := a K T F H v S r
  let ⟨F2, t2, S2, r2⟩ := b K T F1 H v S1 r1
  ⟨F2, t1.trans t2, S2, r2⟩
theorem Fz.freeze {h h' : Hq} {a : Addr} {xs : List PV} (e : h a = some (.lst xs)) (s : Sub h' h) (n : h' a = none) : Fz (.ref a) h (.fl xs) h' := fun K T F H v S r => by
  obtain ⟨st, S', r'⟩ := S.freeze e s n |>.imp (fun a => a) id |> fun ⟨a, b, c⟩ => (⟨b, a, c⟩ : _ ∧ _ ∧ _)
  cases r
  exact ⟨_, st, S', r'⟩
theorem FzS.nil (h : Hq) : FzS [] h [] h := fun K T F H v S r => ⟨F, .refl _ _ _, S, r⟩
theorem FzS.cons {x x' : PV} {xs xs' : List PV} {h h1 h2 : Hq} (a : Fz x h x' h1) (b : FzS xs h1 xs' h2) : FzS (x :: xs) h (x' :: xs') h2 := fun K T F H v S r => by
  cases r with
  | cons r rs =>
    obtain ⟨F1, t1, S1, r1⟩ := a K T F H _ S r
    obtain ⟨F2, t2, S2, r2⟩ := b K T F1 H _ S1 (rs.step S t1)
    exact ⟨F2, t1.trans t2, S2, .cons (r1.step S1 t2) r2⟩
/-- the items of a frozen list -/
theorem Fz.items {xs xs' : List PV} {h h' : Hq} (a : FzS xs h xs' h') : Fz (.fl xs) h (.fl xs') h' := fun K T F H v S r => by
  cases r with
  | fl l q =>
    obtain ⟨F1, t1, S1, r1⟩ := a K T F H _ S q
    exact ⟨F1, t1, S1, .fl (l.step S t1) r1⟩
theorem Fz.tup {xs xs' : List PV} {h h' : Hq} (a : FzS xs h xs' h') : Fz (.tup xs) h (.tup xs') h' := fun K T F H v S r => by
  cases r with
  | tup l q =>
    obtain ⟨F1, t1, S1, r1⟩ := a K T F H _ S q
    exact ⟨F1, t1, S1, .tup (l.step S t1) r1⟩
theorem EPost.fz {K : PySem.W.Frag} {T : TL} {F : Addr → Prop} {h : Hq} {H : Hp} {Q : VQ} {v : V} {H' : Hp} (p : EPost K T F h H (fun x h => ∃ x' h', Fz x h x' h' ∧ Q x' h') v H') : EPost K T F h H Q v H' := by
  obtain ⟨F1, h1, x, t1, S1, r1, x', h', z, q⟩ := p
  obtain ⟨F2, t2, S2, r2⟩ := z K T F1 _ _ S1 r1
  exact ⟨F2, h', x', t1.trans t2, S2, r2, q⟩
/-- what a body hands back may be seen otherwise -/
def rtQ (Q : VQ) : VQ := fun x h => ∃ x' h', Fz x h x' h' ∧ Q x' h'
theorem rtQ.same {Q : VQ} {x : PV} {h : Hq} (q : Q x h) : rtQ Q x h := ⟨x, h, .refl _ _, q⟩
theorem rtQ.sub {Q : VQ} {x : PV} {h h' : Hq} (s : Sub h' h) (q : Q x h') : rtQ Q x h := ⟨x, h', .sub s, q⟩
theorem rtQ.freeze {Q : VQ} {h h' : Hq} {a : Addr} {xs : List PV} (e : h a = some (.lst xs)) (s : Sub h' h) (n : h' a = none) (q : Q (.fl xs) h') : rtQ Q (.ref a) h := ⟨_, h', .freeze e s n, q⟩
def startQ (N : List Str) (xs : List PV) : Sq := xs.map some ++ List.replicate (N.length - xs.length) none
theorem esim_start {K : PySem.W.Frag} {F : Addr → Prop} {H : Hp} {N : List Str} {xs : List PV} {vs : List V} (r : Reps K F H xs vs) : ESim K F H (startQ N xs) (L2.start N vs) := by
  have hl := r.length
  refine ⟨by unfold startQ L2.start; simp [hl], fun i x e => ?_⟩
  unfold startQ at e
  unfold L2.start
  by_cases hi : i < xs.length
  · rw [List.getElem?_append_left (by simpa using hi), List.getElem?_map] at e
    cases q : xs[i]? with
    | none => rw [q] at e; cases e
    | some y =>
      rw [q] at e
      have e : some (some y) = some (some x) := e
      cases e
      obtain ⟨v, e1, e2⟩ := r.get q
      exact ⟨v, by rw [List.getElem?_append_left (by rw [List.length_map, ← hl]; exact hi), List.getElem?_map, e1]; rfl, e2⟩
  · rw [List.getElem?_append_right (by simpa using hi), List.getElem?_replicate] at e
    split at e <;> cases e

section
variable {P : Program} {w : World} {K : PySem.W.Frag} {mg : Str → Option Value} {base : Heap} {T : TL}
/-- THE RULE for a def over plain data -/
theorem fnQ_mk {x qual : Str} {st : Stmt} {f : Addr} {fd : FuncData} {N ps : List Str} {k : Nat} {sp : PQ} (Fn : Fun K x qual st f fd) (S : FnScope N ps (defScope st)) (len : ∀ xs h Q E, sp xs h Q E → xs.length = ps.length)
    (hbody : ∀ (cdv : Value) (A : Around) (outer : List Env) (s : Shared) (E0 : XK) (G : Gr) (xs : List PV) (Q : VQ) (E : XQ), G.T = T → Room k (A.deeper (envOfC qual (defScope st) s.heap.objs.size f cdv)) → sp xs G.h Q E →
      LX (cxOf (L2.CX P w) P w K mg base N qual (defScope st) f cdv A outer s G.H E0) G E →
      ∃ t, QSs (cxOf (L2.CX P w) P w K mg base N qual (defScope st) f cdv A outer s G.H E0) G (defBody st) t ∧ t { nx := fun _ h' => Q .non h', rt := rtQ Q } (startQ N xs) G.h) : FnQ P w K mg base T (k + 1) f fd ps sp := by
  refine Fn.okX S (fun vs H Q E h => ?_) (fun cdv A outer s H vs Q E hr h => ?_)
  · obtain ⟨F, h, xs, Q', E', S1, r, q, _⟩ := h
    rw [← r.length]
    exact len _ _ _ _ q
  · obtain ⟨F, h, xs, Q', E', S1, r, q, k1, k2⟩ := h
    have tk : Takes (cxOf (L2.CX P w) P w K mg base N qual (defScope st) f cdv A outer s H E) (fun cls d _ H => E cls d H) := takes_of rfl rfl rfl rfl
    obtain ⟨t, ht, hq⟩ := hbody cdv A outer s E ⟨T, F, h, H⟩ xs Q' E' rfl hr q (Takes.imp tk fun c d σ H' p => k2 _ _ _ p)
    refine ⟨_, ht.pss, F, h, startQ N xs, _, .refl _ _ _, S1, esim_start r, hq, ?_⟩
    refine ⟨fun σ H' p => ?_, fun v H' p => ?_, fun σ H' p => ?_, fun σ H' p => ?_⟩
    · obtain ⟨F', h', n, a, b, c, d⟩ := p
      exact k1 _ _ ⟨F', h', .non, a, b, .non, d⟩
    · exact k1 _ _ (EPost.fz p)
    · obtain ⟨F', h', n, a, b, c, d⟩ := p
      exact d.elim
    · obtain ⟨F', h', n, a, b, c, d⟩ := p
      exact d.elim
end

/-- a def in reach -/
structure FD (P : Program) (w : World) (K : PySem.W.Frag) (mg : Str → Option Value) (base : Heap) (T : TL) (x : Str) (f : Addr) (fd : FuncData) (k : Nat) (ps : List Str) (sp : PQ) : Prop where
  ok : FnQ P w K mg base T k f fd ps sp
  g : mg x = some (.ref f)
  kp : PySem.W.keepIn K (.ref f) = true
/-- its last parameters by their defaults -/
def BD (K : PySem.W.Frag) (fd : FuncData) (ps : List Str) (dxs : List PV) : Prop := ∃ us ds, L2.Binds K fd ps ds ∧ Vals us ds ∧ ∀ F H, Reps K F H dxs us
theorem BD.all {K : PySem.W.Frag} {fd : FuncData} {ps : List Str} (b : L2.Binds K fd ps []) : BD K fd ps [] := ⟨[], [], b, .nil, fun _ _ => .nil⟩
def pcallQ (sp : PQ) (dxs : List PV) (W : XQ) (t : AQ) : TQ := fun n h Q => t n h fun xs h1 => sp (xs ++ dxs) h1 Q W
section
variable {X : Cx} {G : Gr} {x : Str} {f : Addr} {fd : FuncData} {k : Nat} {ps : List Str} {sp : PQ} {dxs : List PV} {W : XQ} {e : Expr} {es : List Expr} {p pos : Pos} {t : AQ}
theorem callee_fits {F : Addr → Prop} {h : Hq} {H : Hp} (s : Step G.F G.h G.H F h H) (S : HSim X.K G.T F h H) {xs : List PV} {vs : List V} (r : Reps X.K F H xs vs) {Q : VQ} (q : sp xs h Q W) {R : VK} (k : ∀ v H', EPost X.K G.T F h H Q v H' → R v H') :
    lSp X.K G.T sp vs H R (fun c d H' => XPost X.K G.T G.F G.h G.H W c d H') := ⟨F, h, xs, Q, W, S, r, q, k, fun c d H' p => XPost.step s p⟩
theorem LX.passes (l : LX X G W) : Passes (L2.CX X.prog X.w) X (fun c d H' => XPost X.K G.T G.F G.h G.H W c d H') := passes_call l fun _ _ _ _ p => p
theorem qe_call (D : FD X.prog X.w X.K X.mg X.base G.T x f fd k ps sp) (b : BD X.K fd ps dxs) (hr : Room k X.A) (hg : Gl X x) (lx : LX X G W) (ha : QA X G (e :: es) t) (hdb : (x == ("__debug__" : Str)) = false := by decide)
    (he : starEach (e :: es) X.env = (false, eval e X.env) :: starEach es X.env := by rfl) (hpl : (backTo pos (starEach es X.env)).any (·.1) = false := by rfl) : QE X G (.Call (.Name x p) (e :: es) [] pos) (pcallQ sp dxs W t) := by
  obtain ⟨us, ds, bb, vd, rd⟩ := b
  refine QE.of (pe_call D.ok hr hg D.g D.kp bb vd lx.passes ha.pa hdb he hpl) fun F h H n σ Q s S E hq => ?_
  refine ⟨F, h, n, _, s, S, E, hq, fun vs H1 ⟨F1, h1, xs, t1, S1, r1, q1⟩ => ?_⟩
  exact callee_fits (s.trans t1) S1 (r1.append (rd _ _)) q1 fun v H' pp => EPost.step t1 pp
theorem qe_call0 (D : FD X.prog X.w X.K X.mg X.base G.T x f fd k ps sp) (b : BD X.K fd ps dxs) (hr : Room k X.A) (hg : Gl X x) (lx : LX X G W) (hdb : (x == ("__debug__" : Str)) = false := by decide) :
    QE X G (.Call (.Name x p) [] [] pos) (pcallQ sp dxs W nilQ) := by
  obtain ⟨us, ds, bb, vd, rd⟩ := b
  refine QE.of (pe_call0 D.ok hr hg D.g D.kp bb vd lx.passes hdb) fun F h H n σ Q s S E hq => ?_
  exact callee_fits (xs := dxs) s S (rd _ _) hq fun v H' pp => pp

/-! ### keywords -/
structure QK (X : Cx) (G : Gr) (kws : List Keyword) (t : AQ) : Prop where
  run : ∀ pos pins s F h H n σ Q, Inv X pins σ H s → Step G.F G.h G.H F h H → HSim X.K G.T F h H → ESim X.K F H n σ → t n h Q → wpAny (model X.prog X.w) X.A (evalAll ((backToKw pos (keywordEach kws X.env)).map (·.2))) (AP X pins σ (APost X.K G.T F h H Q)) X.xe s
theorem QK.pk {kws : List Keyword} (q : QK X G kws t) : PK X kws (lA X.K G t) := by
  refine ⟨fun pos pins s σ H Q I ⟨F, h, n, Q', a, b, c, d, f⟩ => ?_⟩
  exact thn (q.run pos pins s F h H n σ Q' I a b c d) fun u s' ⟨v, H', I', r, p⟩ => ⟨v, H', I', r, f _ _ p⟩
theorem QK.of {kws : List Keyword} {te : TA} (p : PK X kws te) (f : ∀ F h H n σ Q, Step G.F G.h G.H F h H → HSim X.K G.T F h H → ESim X.K F H n σ → t n h Q → te σ H (APost X.K G.T F h H Q)) : QK X G kws t :=
  ⟨fun pos pins s F h H n σ Q I a b c d => p.run pos pins s σ H _ I (f F h H n σ Q a b c d)⟩
theorem qk_nil : QK X G [] nilQ := QK.of pk_nil fun F h H n σ Q s S E hq => ⟨F, h, [], .refl _ _ _, S, .nil, hq⟩
theorem qk_cons {nm : Option Str} {kpos : Pos} {kws : List Keyword} {te : TQ} {tk : AQ} (ha : QE X G e te) (hr : QK X G kws tk) : QK X G (⟨nm, e, kpos⟩ :: kws) (consQ te tk) := by
  refine QK.of (pk_cons ha.pe hr.pk) fun F h H n σ Q s S E hq => ?_
  refine ⟨F, h, n, _, s, S, E, hq, fun v1 H1 ⟨F1, h1, x, t1, S1, r1, q1⟩ => ?_⟩
  refine ⟨F1, h1, n, _, s.trans t1, S1, E.step S t1, q1, fun v2 H2 ⟨F2, h2, y, t2, S2, r2, q2⟩ => ?_⟩
  exact ⟨F2, h2, x :: y, t1.trans t2, S2, .cons (r1.step S1 t2) r2, q2⟩
/-- how the keywords fill the places: by a list of the places -/
def pick {α : Type} (d : α) (is : List Nat) (xs : List α) : List α := is.map fun i => xs.getD i d
structure KD (K : PySem.W.Frag) (fd : FuncData) (ps ks : List Str) (is : List Nat) : Prop where
  kb : ∀ (s : Shared) (ws : List Value), ws.length = ks.length → BindsTo s fd ⟨[], ks.zip ws⟩ (ps.zip (pick .none is ws))
  lt : ∀ i ∈ is, i < ks.length
theorem pick_vals {is : List Nat} {vs : List V} {ws : List Value} (r : Vals vs ws) : (∀ i ∈ is, i < vs.length) → Vals (pick .non is vs) (pick .none is ws) := by
  induction is with
  | nil => exact fun _ => .nil
  | cons i is ih =>
    intro h
    refine .cons ?_ (ih fun j hj => h j (List.mem_cons_of_mem _ hj))
    have hi := h i List.mem_cons_self
    have aux : ∀ {vs : List V} {ws : List Value} (i : Nat), Vals vs ws → i < vs.length → RelV (vs.getD i .non) (ws.getD i .none) := by
      intro vs ws i r
      induction r generalizing i with
      | nil => intro hi; cases hi
      | cons a b ih =>
        cases i with
        | zero => exact fun _ => a
        | succ i => exact fun hi => ih i (Nat.lt_of_succ_lt_succ hi)
    exact aux i r hi
theorem pick_reps {K : PySem.W.Frag} {F : Addr → Prop} {H : Hp} {is : List Nat} {xs : List PV} {vs : List V} (r : Reps K F H xs vs) : (∀ i ∈ is, i < xs.length) → Reps K F H (pick .non is xs) (pick .non is vs) := by
  induction is with
  | nil => exact fun _ => .nil
  | cons i is ih =>
    intro h
    refine .cons ?_ (ih fun j hj => h j (List.mem_cons_of_mem _ hj))
    have hi := h i List.mem_cons_self
    obtain ⟨v, e1, e2⟩ := r.get (i := i) (x := xs.getD i .non) (by rw [List.getD_eq_getElem?_getD, List.getElem?_eq_getElem hi]; rfl)
    show Rep K F H (xs.getD i .non) (vs.getD i .non)
    rw [show vs.getD i .non = v by rw [List.getD_eq_getElem?_getD, e1]; rfl]
    exact e2
def kcallQ (sp : PQ) (m : Nat) (is : List Nat) (W : XQ) (t : AQ) : TQ := fun n h Q => t n h fun xs h1 => xs.length = m ∧ sp (pick .non is xs) h1 Q W
/-- x(k = v, ..) -/
theorem qe_callKw {ks : List Str} {is : List Nat} {kws : List Keyword} {tk : AQ} (D : FD X.prog X.w X.K X.mg X.base G.T x f fd k ps sp) (b : KD X.K fd ps ks is) (hr : Room k X.A) (hg : Gl X x) (lx : LX X G W) (hkw : QK X G kws tk) (hdb : (x == ("__debug__" : Str)) = false := by decide)
    (hall : (backToKw pos (keywordEach kws X.env)).all (·.1.isSome) = true := by rfl) (hks : (backToKw pos (keywordEach kws X.env)).filterMap (·.1) = ks := by rfl)
    (hpl : ((backTo pos (starEach [] X.env)).any (·.1) || (backToKw pos (keywordEach kws X.env)).any (·.1.isNone)) = false := by rfl) :
    QE X G (.Call (.Name x p) [] kws pos) (kcallQ sp ks.length is W tk) := by
  refine ⟨fun pins s F h H n σ Q I st S E hq => ?_⟩
  refine wpAny_Call_Name_kw (ld_glob I hg D.g ?_ hdb)
  refine PySem.W.callWith_KW0 (h₀ := X.base) I.ok.mod.kin D.kp hall ?_ hpl
  refine thn (hkw.run pos pins s F h H n σ _ I st S E hq) fun ws s2 ⟨zs, H2, I2, rz, F2, h2, xs, t2, S2, r2, hl, q2⟩ => ⟨I2.kIn, ?_⟩
  rw [hks]
  have hlt : ∀ i ∈ is, i < zs.length := fun i hi => by rw [← r2.length, hl]; exact b.lt i hi
  have hwl : ws.length = ks.length := by rw [← rz.length, ← r2.length]; exact hl
  have h0 : lSp X.K G.T sp (pick .non is zs) H2 (EPost X.K G.T F h H Q) (fun c d H' => XPost X.K G.T G.F G.h G.H W c d H') :=
    callee_fits (st.trans t2) S2 (pick_reps r2 fun i hi => by rw [hl]; exact b.lt i hi) q2 fun v H' pp => EPost.step t2 pp
  refine wpAny_call (codeAny_mono (D.ok.run X.A X.stack s2 H2 ⟨[], ks.zip ws⟩ (pick .none is ws) (pick .non is zs) _ _ hr I2.env0 (b.kb s2 ws hwl) (pick_vals rz hlt) h0) fun r s' hq => ?_)
  cases r with
  | error e => exact lx.passes pins σ H2 s2 e s' I2 hq
  | ok fl =>
    cases fl with
    | ret u => exact I2.after hq
    | next => exact False.elim hq
    | brk => exact False.elim hq
    | cont => exact False.elim hq

/-! ### raise -/
def raiseS (C : Addr) (g : Str) (W : XQ) (t : AQ) : SQ := fun D n h => t n h fun xs h1 => ∃ x, xs = [x] ∧ W (.ref C) (some (g, x)) h1
theorem qs_raise {a : Expr} {C fI : Addr} {g : Str} {pos' : Pos} (Tx : PySem.ExS.XTxt X.prog X.K X.mg x g C fI) (O : PySem.ExS.FOk g) (hc : X.calm = true) (hr : Room k X.A) (lx : LX X G W) (ha : QA X G [a] t) (hg : Gl X x) (hdb : (x == ("__debug__" : Str)) = false := by decide)
    (he : starEach (a :: []) X.env = (false, eval a X.env) :: starEach [] X.env := by rfl) (hpl : (backTo pos (starEach [] X.env)).any (·.1) = false := by rfl) :
    QS X G (.Raise (some (.Call (.Name x p) [a] [] pos)) none pos') (raiseS C g W t) := by
  refine QS.of (ps_raise hc lx (pmk_x Tx O hr ha.pa hg hdb he hpl)) fun F h H n σ D s S E hq => ?_
  refine ⟨F, h, n, _, s, S, E, hq, fun vs H1 ⟨F1, h1, xs, t1, S1, r1, y, ex, q1⟩ => ?_⟩
  subst ex
  obtain ⟨v, ev, rv⟩ := Reps.inv1 r1
  refine ⟨v, ev, fun d nd => ?_⟩
  obtain ⟨S2, t2⟩ := S1.newF (o := .xd [(g, v)]) nd
  exact ⟨_, h1, some (g, y), (s.trans t1).trans t2, S2, ⟨v, upd_same, .inr rfl, rv.step S1 t2⟩, q1⟩
end
end L3

/-! L3h: try with several clauses; lambdas handed to a def that hears what they do. -/
namespace L3
open PySem PySem.Spec PyProof.Rows L2

/-- a clause's suite, read by the exception's own address, its class and its field -/
abbrev HQ := Addr → Value → Option (Str × PV) → SQ
def endsNoQ (i : Nat) (D : EndQ) : EndQ := { nx := fun n h => D.nx (n.set i none) h, rt := D.rt, bk := fun n h => D.bk (n.set i none) h, ct := fun n h => D.ct (n.set i none) h }
def handQ (K : PySem.W.Frag) (i N : Nat) (D : EndQ) (Wout : XQ) : List (Value × HQ) → XQ
  | [] => Wout
  | (c, hq) :: r => fun cls x h => ∃ b, PySem.W.exmOne K cls c = some b ∧ (b = true → ∀ a, h a = none → hq a cls x (endsNoQ i D) ((List.replicate N none).set i (some (.ref a))) h) ∧ (b = false → handQ K i N D Wout r cls x h)
inductive HdsQ (X : Cx) (T : TL) (n : Str) : List ExceptHandler → List (Value × HQ) → Prop
  | nil : HdsQ X T n [] []
  | cons {x : Str} {c : Value} {hq : HQ} {b₀ : Stmt} {suite : List Stmt} {np pos' : Pos} {hds : List ExceptHandler} {l : List (Value × HQ)} (hc : Names X x c)
      (hsu : ∀ (a : Addr) (oe : Obj) (cls : Value) (d : Option Addr) (pn : List (Addr × Obj)) (F : Addr → Prop) (h : Hq) (H : Hp) (x' : Option (Str × PV)), Zc cls d oe → (∃ vs, oe.data = .fields vs) → HSim X.K T F h H → XRep X.K F H x' d → QSs (X.suite a ((a, oe) :: pn)) ⟨T, F, h, H⟩ (b₀ :: suite) (hq a cls x')) (r : HdsQ X T n hds l) :
      HdsQ X T n (.ExceptHandler (some (.Name x np)) (some n) (b₀ :: suite) pos' :: hds) ((c, hq) :: l)
def tsOf (K : PySem.W.Frag) (T : TL) (N : Nat) (hq : HQ) : TSx := fun a cls d D σ H => σ.length = N → ∃ F h n x' D', HSim K T F h H ∧ ESim K F H n σ ∧ XRep K F H x' d ∧ hq a cls x' D' n h ∧ EndsLe (DPost K T F h H D') D
theorem HdsQ.as {X : Cx} {T : TL} {n : Str} {hds : List ExceptHandler} {l : List (Value × HQ)} (q : HdsQ X T n hds l) : HdsAs X n hds (l.map fun p => (p.1, tsOf X.K T X.N.length p.2)) := by
  induction q with
  | nil => exact .nil
  | cons hc hsu r ih =>
    refine .cons hc (fun a oe cls d pn hz hf => ⟨fun pins s σ H D I h => ?_⟩) ih
    obtain ⟨F, h1, n1, x', D', S, E, xr, q, le⟩ := h I.len
    exact thn ((hsu a oe cls d pn F h1 H x' hz hf S xr).run pins s F h1 H n1 σ D' I (.refl _ _ _) S E q) fun u s' p => SP.le le p
theorem esim_none {K : PySem.W.Frag} {F : Addr → Prop} {H : Hp} {N i : Nat} {a : Addr} {σ : L2.St} (hl : (σ.set i (some (.ref a))).length = N) : ESim K F H ((List.replicate N none).set i (some (.ref a))) (σ.set i (some (.ref a))) := by
  rw [List.length_set] at hl
  subst hl
  refine ⟨by simp, fun j y e => ?_⟩
  by_cases hj : i = j
  · subst hj
    by_cases hi : i < σ.length
    · rw [List.getElem?_set_self (by simpa using hi)] at e
      cases e
      exact ⟨.ref a, by rw [List.getElem?_set_self hi], .ref a⟩
    · rw [List.getElem?_eq_none (by simp; omega)] at e
      cases e
  · rw [List.getElem?_set_ne hj, List.getElem?_replicate] at e
    split at e <;> cases e
theorem NPost.no {K : PySem.W.Frag} {T : TL} {F F1 : Addr → Prop} {h h1 : Hq} {H H1 : Hp} {i : Nat} {P : Sq → Hq → Prop} (t : Step F h H F1 h1 H1) {σ : L2.St} {H2 : Hp} (p : NPost K T F1 h1 H1 (fun n h => P (n.set i none) h) σ H2) : NPost K T F h H P (σ.set i none) H2 := by
  obtain ⟨F2, h2, n, a, b, c, d⟩ := p
  refine ⟨F2, h2, n.set i none, t.trans a, b, ⟨by rw [List.length_set, List.length_set]; exact c.len, fun j y e => ?_⟩, d⟩
  by_cases hj : i = j
  · subst hj
    by_cases hi : i < n.length
    · rw [List.getElem?_set_self hi] at e
      cases e
    · rw [List.getElem?_eq_none (by rw [List.length_set]; omega)] at e
      cases e
  · rw [List.getElem?_set_ne hj] at e ⊢
    exact c.at_ j y e
theorem hand_many {X : Cx} {G : Gr} {F : Addr → Prop} {h : Hq} {H : Hp} {i : Nat} {D : EndQ} {Wout : XQ} (s : Step G.F G.h G.H F h H) {cls : Value} {d : Option Addr} {σ : L2.St} {H' : Hp} : ∀ {l : List (Value × HQ)}, XPost X.K G.T F h H (handQ X.K i X.N.length D Wout l) cls d H' →
    wManyAs X.K (fun cls d _ H => XPost X.K G.T G.F G.h G.H Wout cls d H) (DPost X.K G.T F h H D) i (l.map fun p => (p.1, tsOf X.K G.T X.N.length p.2)) cls d σ H'
  | [], p => XPost.step s p
  | (c, hq) :: r, ⟨F1, h1, x, t1, S1, xr, b, eb, y, n⟩ => by
    refine ⟨b, eb, fun hb a na hl => ?_, fun hb => hand_many s (l := r) ⟨F1, h1, x, t1, S1, xr, n hb⟩⟩
    refine ⟨F1, h1, _, x, _, S1, esim_none hl, xr, y hb a (S1.free na), ?_⟩
    exact ⟨fun σ2 H2 p => NPost.no t1 p, fun v H2 p => EPost.step t1 p, fun σ2 H2 p => NPost.no t1 p, fun σ2 H2 p => NPost.no t1 p⟩
def tryS (K : PySem.W.Frag) (i N : Nat) (Wout : XQ) (l : List (Value × HQ)) (tb : XQ → SQ) : SQ := fun D n h => tb (handQ K i N D Wout l) D n h
section
variable {X : Cx} {G : Gr} {n : Str} {i : Nat} {body : List Stmt} {h₀ : ExceptHandler} {hds : List ExceptHandler} {l : List (Value × HQ)} {pos : Pos} {tb : XQ → SQ} {Wout : XQ}
theorem qs_tryAs (hs : X.stack = X.env :: X.outer) (hf : X.env.frame = some X.env.locals) (hN : X.N.Nodup) (hi : X.N[i]? = some n) (hln : X.env.kindOf n = some .local) (lx : LX X G Wout)
    (hb : ∀ (W : XQ) (F : Addr → Prop) (h : Hq) (H : Hp) (pn : List (Addr × Obj)) (xe : Value → Shared → Prop), Step G.F G.h G.H F h H → LX (X.tr pn xe) ⟨G.T, F, h, H⟩ W → QSs (X.tr pn xe) ⟨G.T, F, h, H⟩ body (tb W)) (hh : HdsQ X G.T n (h₀ :: hds) l) :
    QS X G (.Try body (h₀ :: hds) [] [] pos) (tryS X.K i X.N.length Wout l tb) := by
  refine QS.of (ps_try_manyAs hs hf hN hi hln lx
    (tb := fun W D σ H => ∃ F h n D' E, Step G.F G.h G.H F h H ∧ HSim X.K G.T F h H ∧ ESim X.K F H n σ ∧ (∀ cls d σ' H', XPost X.K G.T F h H E cls d H' → W cls d σ' H') ∧ tb E D' n h ∧ EndsLe (DPost X.K G.T F h H D') D)
    (fun W pn xe tk po => ⟨fun pins s σ H D I ⟨F, h, n, D', E, st, S, Es, hE, q, le⟩ => ?_⟩) hh.as) fun F h H n σ D s S E q => ?_
  · exact thn ((hb E F h H pn xe st (Takes.imp tk fun c d σ' H' p => hE c d σ' H' p)).run pins s F h H n σ D' I (.refl _ _ _) S Es q) fun u s' p => SP.le le p
  · exact ⟨F, h, n, D, _, s, S, E, fun cls d σ' H' p => hand_many s p, q, .refl _⟩
/-- e.g, e the exception that the suite holds -/
def byQ (C : Addr) (g : Str) (a : Addr) (cls : Value) (x' : Option (Str × PV)) (te : TQ) : TQ := fun n h Q => te n h fun z h1 => z = .ref a ∧ cls = .ref C ∧ ∃ y, x' = some (g, y) ∧ Q y h1
theorem qe_byX {a C fI : Addr} {g nm : Str} {T : TL} {F : Addr → Prop} {h : Hq} {H : Hp} {oe : Obj} {cls : Value} {d : Option Addr} {x' : Option (Str × PV)} {pn : List (Addr × Obj)} {e : Expr} {te : TQ} {pos : Pos} (Tx : PySem.ExS.XTxt X.prog X.K X.mg nm g C fI) (hz : Zc cls d oe) (hf : ∃ vs, oe.data = .fields vs)
    (S : HSim X.K T F h H) (xr : XRep X.K F H x' d) (he : QE (X.suite a ((a, oe) :: pn)) ⟨T, F, h, H⟩ e te) (hb : attributeBase e g X.env (eval e X.env) = eval e X.env := by rfl) : QE (X.suite a ((a, oe) :: pn)) ⟨T, F, h, H⟩ (.Attribute e g pos) (byQ C g a cls x' te) := by
  refine QE.of (pe_byX Tx hz hf he.pe hb) fun F1 h1 H1 n σ Q s S1 E hq => ?_
  refine ⟨F1, h1, n, _, s, S1, E, hq, fun v H2 ⟨F2, h2, z, t2, S2, r2, ez, ec, y, ex, q⟩ => ?_⟩
  subst ez
  cases r2
  subst ex
  cases d with
  | none => exact xr.elim
  | some dd =>
    obtain ⟨v, e1, e2, e3⟩ := xr
    have st := s.trans t2
    exact ⟨rfl, ec, dd, v, rfl, (st.same S e2).trans e1, F2, h2, y, t2, S2, e3.step S st, q⟩
end

/-! ### lambdas -/
/-- a lambda's body, read: W what is wanted of an exception -/
def lamT (K : PySem.W.Frag) (T : TL) (tq : XQ → TQ) : XK → TE := fun E σ H Q => ∃ F h n Q' W, HSim K T F h H ∧ ESim K F H n σ ∧ tq W n h Q' ∧ (∀ v H', EPost K T F h H Q' v H' → Q v H') ∧ (∀ c d H', XPost K T F h H W c d H' → E c d H')
theorem lam_body {X : Cx} {T : TL} {A : Around} {outer : List Env} {s : Shared} {H : Hp} {E : XK} {scope : Scope} {f c' : Addr} {body : Expr} {tq : XQ → TQ}
    (hb : ∀ (G : Gr) (W : XQ), G.T = T → LX (LamX.lamCx X A outer s H E scope f c') G W → QE (LamX.lamCx X A outer s H E scope f c') G body (tq W)) : PE (LamX.lamCx X A outer s H E scope f c') body (lamT X.K T tq E) := by
  refine ⟨fun pins s1 σ H1 Q I ⟨F, h, n, Q', W, S, Es, q, k1, k2⟩ => ?_⟩
  have tk : Takes (LamX.lamCx X A outer s H E scope f c') (fun cls d _ H => E cls d H) := takes_of rfl rfl rfl rfl
  exact thn ((hb ⟨T, F, h, H1⟩ W rfl (Takes.imp tk fun c d σ H' p => k2 _ _ _ p)).run pins s1 F h H1 n σ Q' I (.refl _ _ _) S Es q) fun u s' ⟨v, H', I', r, p⟩ => ⟨v, H', I', r, k1 _ _ p⟩
/-- what the hearing def makes of the lambda's reading: Qd, Wd the lambda's ends -/
def heardT (K : PySem.W.Frag) (T : TL) (end_ : VQ → XQ → VQ → Prop) : (XK → Hp → VK → Prop) → Hp → VK → Prop := fun tl H Q => ∃ F h Q' Wd Qd, HSim K T F h H ∧ (∀ v H', EPost K T F h H Q' v H' → Q v H') ∧
  (∀ F1 H1 E R, Step F h H F1 h H1 → HSim K T F1 h H1 → (∀ v H', EPost K T F1 h H1 Qd v H' → R v H') → (∀ c d H', XPost K T F1 h H1 Wd c d H' → E c d H') → tl E H1 R) ∧ end_ Qd Wd Q'
theorem ext_hid {K : PySem.W.Frag} {T : TL} {F : Addr → Prop} {h : Hq} {H : Hp} (S : HSim K T F h H) {c : Addr} {q : Str} (hc : H c = some (LamX.CodeO c q)) : h c = none := by
  cases e : h c with
  | none => rfl
  | some o =>
    obtain ⟨_, u, e1, r⟩ := S.at_ c o e
    rw [hc] at e1
    cases e1
    cases o <;> exact (show False from r).elim
/-- the call inside: f the lambda, h0 the view in which its body is read -/
def actQ (f : Addr) (h0 : Hq) (E'' Wd : XQ) (Qd : VQ) : TQ := fun n h' Q => n[0]? = some (some (.ref f)) ∧ Sub h0 h' ∧ (∀ c x h1, Wd c x h1 → E'' c x h1) ∧ ∀ x h1, Qd x h1 → Q x h1
theorem qe_act {Y : Cx} {f c' : Addr} {q : Str} {tl : XK → Hp → VK → Prop} {e : Expr} {T : TL} {F0 F2 : Addr → Prop} {h0 h2 : Hq} {H0 H2 : Hp} {E'' Wd : XQ} {Qd : VQ}
    (act : PE Y e (fun σZ HZ Q => σZ[0]? = some (some (.ref f)) ∧ HZ c' = some (LamX.CodeO c' q) ∧ tl (fun cls d H => XPost Y.K T F2 h2 H2 E'' cls d H) HZ Q)) (S0 : HSim Y.K T F0 h0 H0) (hc : H0 c' = some (LamX.CodeO c' q)) (st : Step F0 h0 H0 F2 h2 H2)
    (htl : ∀ F1 H1 E R, Step F0 h0 H0 F1 h0 H1 → HSim Y.K T F1 h0 H1 → (∀ v H', EPost Y.K T F1 h0 H1 Qd v H' → R v H') → (∀ c d H', XPost Y.K T F1 h0 H1 Wd c d H' → E c d H') → tl E H1 R) :
    QE Y ⟨T, F2, h2, H2⟩ e (actQ f h0 E'' Wd Qd) := by
  refine QE.of act fun F h H n σ Q s S E hq => ?_
  obtain ⟨q1, sb, q2, q3⟩ := hq
  obtain ⟨v, e1, e2⟩ := E.at_ 0 _ q1
  cases e2
  have s' : Step F0 h0 H0 F h H := st.trans s
  have sub : Step F h H F h0 H := .sub sb F H
  refine ⟨e1, (s'.kp c' _ rfl hc (ext_hid S0 hc)).1, htl F H _ _ (s'.trans sub) (S.sub sb) (fun v H' p => ?_) fun c d H' p => ?_⟩
  · exact EPost.step sub (EPost.imp q3 p)
  · exact XPost.step (s.trans sub) (XPost.imp q2 p)
/-- x(lambda: body), x a def that hears -/
def lamQ (tq : XQ → TQ) (end_ : VQ → XQ → VQ → Prop) : TQ := fun n h Q => ∃ Wd Qd, tq Wd n h Qd ∧ end_ Qd Wd Q
theorem qe_lam {X : Cx} {G : Gr} {end_ : VQ → XQ → VQ → Prop} {e : Expr} {tq : XQ → TQ} (p : PE X e (LamX.tLam G.T (heardT X.K G.T end_) (lamT X.K G.T tq))) : QE X G e (lamQ tq end_) := by
  refine QE.of p fun F h H n σ Q s S E ⟨Wd, Qd, hq, he⟩ => ?_
  refine ⟨S.tb, fun H1 eN T1 => ?_⟩
  have st : Step F h H F h H1 := ⟨fun _ z => z, fun a o i e m => ⟨eN a o e (fun ps z => by rw [z] at i; cases i), m⟩, fun _ z => .inl z⟩
  have S1 : HSim X.K G.T F h H1 := ⟨fun a o e => by
    obtain ⟨nf, u, e1, r⟩ := S.at_ a o e
    exact ⟨nf, u, eN a u e1 fun ps z => by subst z; exact (by cases o <;> exact (show False from r).elim), r.step S st⟩, fun a f => by
    obtain ⟨o, e, i⟩ := S.fz a f
    exact ⟨o, eN a o e (fun ps z => by rw [z] at i; cases i), i⟩, T1⟩
  refine ⟨F, h, Q, Wd, Qd, S1, fun v H' p => EPost.step st p, fun F1 H2 E2 R t2 S2 k1 k2 => ?_, he⟩
  exact ⟨F1, h, n, Qd, Wd, S2, (E.step S st).step S1 t2, hq, k1, k2⟩
end L3

/-! L3s: wires (a, b, (p, q)): their order, sorted(..) of a list of them. -/
namespace L3
open PySem PySem.Spec PyProof.Rows L2

abbrev Wr := (Int × Int) × (Int × Int)
def wPV (w : Wr) : PV := .tup [.int w.1.1, .int w.1.2, .tup [.int w.2.1, .int w.2.2]]
def ltW (w v : Wr) : Bool := if w.1 = v.1 then SrtO.lexB w.2 v.2 else SrtO.lexB w.1 v.1
theorem ltW_iff {w v : Wr} : ltW w v = true ↔ w.1.1 < v.1.1 ∨ (w.1.1 = v.1.1 ∧ (w.1.2 < v.1.2 ∨ (w.1.2 = v.1.2 ∧ (w.2.1 < v.2.1 ∨ (w.2.1 = v.2.1 ∧ w.2.2 < v.2.2))))) := by
  obtain ⟨⟨a, b⟩, p, q⟩ := w
  obtain ⟨⟨c, d⟩, r, s⟩ := v
  unfold ltW
  by_cases e : ((a, b) : Int × Int) = (c, d)
  · rw [if_pos e, SrtO.lexB_iff]
    obtain ⟨rfl, rfl⟩ := Prod.mk.inj e
    simp
  · rw [if_neg e, SrtO.lexB_iff]
    have e' : ¬ (a = c ∧ b = d) := fun z => e (by rw [z.1, z.2])
    show (a < c ∨ a = c ∧ b < d) ↔ (a < c ∨ (a = c ∧ (b < d ∨ (b = d ∧ (p < r ∨ (p = r ∧ q < s))))))
    omega
theorem ltW_no {w v : Wr} : ltW w v = false ↔ ¬ (w.1.1 < v.1.1 ∨ (w.1.1 = v.1.1 ∧ (w.1.2 < v.1.2 ∨ (w.1.2 = v.1.2 ∧ (w.2.1 < v.2.1 ∨ (w.2.1 = v.2.1 ∧ w.2.2 < v.2.2)))))) := by
  rw [← ltW_iff]
  cases ltW w v <;> simp
theorem ltW_swo {α : Type} (k : α → Wr) : SrtO.Swo fun v u => ltW (k v) (k u) := by
  refine ⟨fun x y h => ?_, fun x y z h1 h2 => ?_⟩
  · have a := ltW_iff.mp h
    refine ltW_no.mpr ?_
    omega
  · have a := ltW_no.mp h1
    have b := ltW_no.mp h2
    refine ltW_no.mpr ?_
    omega
/-- the thing at v is the wire w -/
def IsWire (h : Heap) (v : Value) (w : Wr) : Prop := ∃ a o t u c n, v = .ref a ∧ h.get? a = some o ∧ o.cls = .type "tuple" ∧ o.data = .seq #[.int w.1.1 t, .int w.1.2 u, .ref c] n ∧ ∃ t' u', h.IsTuple c #[.int w.2.1 t', .int w.2.2 u']
theorem IsWire.keeps {h h' : Heap} {v : Value} {w : Wr} (x : IsWire h v w) (k : ∀ b o, h.get? b = some o → o.cls = .type "tuple" → h'.get? b = some o) : IsWire h' v w := by
  obtain ⟨a, o, t, u, c, n, e, ho, hc, hd, t', u', o2, ho2, hc2, n2, hd2⟩ := x
  exact ⟨a, o, t, u, c, n, e, k _ _ ho hc, hc, hd, t', u', o2, k _ _ ho2 hc2, hc2, n2, hd2⟩
section
variable {prog : Program} {w : World} {A : Around} {s : Shared}
theorem eq_pair {c c' : Addr} {p q p' q' : Int} {t u t' u' : Tok} (hu : A.units < cLine) (h1 : s.heap.IsTuple c #[.int p t, .int q u]) (h2 : s.heap.IsTuple c' #[.int p' t', .int q' u']) : SeqAt.EqAt A s (.ref c) (.ref c') (decide (p = p' ∧ q = q')) := by
  by_cases hc : c = c'
  · subst hc
    obtain ⟨o, ho, _, n, hd⟩ := h1
    obtain ⟨o', ho', _, n', hd'⟩ := h2
    rw [ho] at ho'; cases ho'
    rw [hd] at hd'
    injection hd' with e _
    have e1 : p = p' ∧ q = q' := by
      have := congrArg Array.toList e
      simp only [List.cons.injEq, Value.int.injEq, and_true] at this
      exact ⟨this.1.1, this.2.1⟩
    rw [decide_eq_true e1]
    exact SeqAt.EqAt.same _
  · have := SeqAt.EqAt.of_refs hc (SeqAt.RcAt.tuples (e := fun j => if j = 0 then p == p' else q == q') h1 h2 hu fun j j1 j2 => by
      match j, j1, j2 with
      | 0, _, _ => exact SeqAt.EqAt.int_int p t p' t'
      | 1, _, _ => exact SeqAt.EqAt.int_int q u q' u'
      | j + 2, h, _ => exact absurd h (by simp))
    have e : ((List.range (min (#[Value.int p t, .int q u] : Array Value).size (#[Value.int p' t', .int q' u'] : Array Value).size)).all (fun j => if j = 0 then p == p' else q == q') && (#[Value.int p t, .int q u] : Array Value).size == (#[Value.int p' t', .int q' u'] : Array Value).size) = decide (p = p' ∧ q = q') := by
      show ((if (0 : Nat) = 0 then p == p' else q == q') && ((if (1 : Nat) = 0 then p == p' else q == q') && true) && true) = _
      rw [if_pos rfl, if_neg (by decide)]
      by_cases a : p = p' <;> by_cases b : q = q' <;> simp [a, b]
    rw [e] at this
    exact this
theorem lt_pair {c c' : Addr} {p q p' q' : Int} {t u t' u' : Tok} (hu : A.units < cLine) (h1 : s.heap.IsTuple c #[.int p t, .int q u]) (h2 : s.heap.IsTuple c' #[.int p' t', .int q' u']) : Ob.RcOp .Lt A s (.ref c) (.ref c') (SrtO.lexB (p, q) (p', q')) := by
  have := Ob.RcOp.tuples_lt (e := fun j => if j = 0 then p == p' else q == q') (r := fun j => if j = 0 then decide (p < p') else decide (q < q')) h1 h2 hu (fun j j1 j2 => by
      match j, j1, j2 with
      | 0, _, _ => exact SeqAt.EqAt.int_int p t p' t'
      | 1, _, _ => exact SeqAt.EqAt.int_int q u q' u'
      | j + 2, h, _ => exact absurd h (by simp)) fun j j1 j2 _ => by
      match j, j1, j2 with
      | 0, _, _ => exact Ob.RcOp.lt_int p p' t t'
      | 1, _, _ => exact Ob.RcOp.lt_int q q' u u'
      | j + 2, h, _ => exact absurd h (by simp)
  have e : Ob.lexAt (fun j => if j = 0 then p == p' else q == q') (fun j => if j = 0 then decide (p < p') else decide (q < q')) (decide ((#[Value.int p t, .int q u] : Array Value).size < (#[Value.int p' t', .int q' u'] : Array Value).size)) 0 (min (#[Value.int p t, .int q u] : Array Value).size (#[Value.int p' t', .int q' u'] : Array Value).size) = SrtO.lexB (p, q) (p', q') := by
    show (if (p == p') = true then (if (q == q') = true then false else decide (q < q')) else decide (p < p')) = if p = p' then decide (q < q') else decide (p < p')
    by_cases a : p = p' <;> by_cases b : q = q' <;> simp [a, b]
  rw [e] at this
  exact this
theorem wire_cmp {vs : List Value} {k : Value → Wr} (hu : A.units < cLine) (hp : ∀ v ∈ vs, IsWire s.heap v (k v)) : SrtO.Cmp prog w A s (tuples' true) (fun p => p.1 ∈ vs) (SrtO.lt2 fun v u => ltW (k v) (k u)) := by
  intro p q hm hm'
  have h1 := hp _ hm
  have h2 := hp _ hm'
  show wpAny (model prog w) A (keyLt' (tuples' true) p.1 q.1) (fun r s' => s' = s ∧ r = ltW (k p.1) (k q.1)) (fun _ _ => False) s
  generalize k p.1 = x at h1 ⊢
  generalize k q.1 = y at h2 ⊢
  obtain ⟨⟨x1, x2⟩, x3, x4⟩ := x
  obtain ⟨⟨y1, y2⟩, y3, y4⟩ := y
  obtain ⟨a, o, t, u, c, n, e, ho, hc, hd, t1, u1, hT⟩ := h1
  obtain ⟨a', o', t', u', c', n', e', ho', hc', hd', t1', u1', hT'⟩ := h2
  rw [e, e']
  refine PySem.W.kat_lt ho hd ho' hd' ?_
  show PySem.W.KatLex prog w A true (decide (3 < 3)) _ [(.int x1 t, .int y1 t'), (.int x2 u, .int y2 u'), (.ref c, .ref c')] 0 s
  have fin : ∀ b : Bool, (b = true ↔ (x1 < y1 ∨ (x1 = y1 ∧ (x2 < y2 ∨ (x2 = y2 ∧ (x3 < y3 ∨ (x3 = y3 ∧ x4 < y4))))))) → b = ltW ((x1, x2), x3, x4) ((y1, y2), y3, y4) := fun b hb => by
    have := ltW_iff (w := ((x1, x2), x3, x4)) (v := ((y1, y2), y3, y4))
    cases b with
    | true => exact (this.mpr (hb.mp rfl)).symm
    | false =>
      refine (ltW_no.mpr fun z => ?_).symm
      have := hb.mpr z
      cases this
  refine PySem.W.kat_cons (SeqAt.EqAt.int_int x1 t y1 t' prog w _ _ ?_)
  refine PySem.W.kat_go (fun e1 => ?_) (fun e1 => ?_)
  · have ex : x1 = y1 := by simpa using e1
    refine PySem.W.kat_yes (PySem.W.kat_cons (SeqAt.EqAt.int_int x2 u y2 u' prog w _ _ ?_))
    refine PySem.W.kat_go (fun e2 => ?_) (fun e2 => ?_)
    · have ey : x2 = y2 := by simpa using e2
      refine PySem.W.kat_yes (PySem.W.kat_cons (eq_pair hu hT hT' prog w _ _ ?_))
      refine PySem.W.kat_go (fun e3 => ?_) (fun e3 => ?_)
      · have ez : x3 = y3 ∧ x4 = y4 := by simpa using e3
        refine PySem.W.kat_yes (PySem.W.kat_nil ⟨rfl, fin _ ?_⟩)
        obtain ⟨e5, e6⟩ := ez
        refine ⟨fun z => by simp at z, fun z => ?_⟩
        omega
      · refine PySem.W.kat_no (PySem.W.kat_one _ _ (lt_pair hu hT hT' prog w _ _ ?_))
        refine ⟨rfl, fin _ ?_⟩
        rw [SrtO.lexB_iff]
        show (x3 < y3 ∨ x3 = y3 ∧ x4 < y4) ↔ _
        omega
    · have ey : ¬ x2 = y2 := by simpa using e2
      refine PySem.W.kat_no (PySem.W.kat_one _ _ (PyProof.Rows.lt_int ?_))
      refine (show s = s ∧ decide (x2 < y2) = _ from ⟨rfl, fin _ ?_⟩)
      rw [decide_eq_true_eq]
      omega
  · have ex : ¬ x1 = y1 := by simpa using e1
    refine PySem.W.kat_no (PyProof.Rows.oneLt_int ⟨rfl, fin _ ?_⟩)
    rw [decide_eq_true_eq]
    omega
theorem wire_firsts {h : Heap} : ∀ {vs : List Value}, (∀ v ∈ vs, ∃ x, IsWire h v x) → ∃ fs : List Value, PySem.W.KatTups h vs fs ∧ fs.length = vs.length ∧ ∀ f ∈ fs, ∃ x t, f = Value.int x t
  | [], _ => ⟨[], PySem.W.KatTups.nil, rfl, fun _ hm => by simp at hm⟩
  | v :: vs, hp => by
    obtain ⟨fs, h1, h2, h3⟩ := wire_firsts (vs := vs) fun v' hm => hp v' (List.mem_cons_of_mem _ hm)
    obtain ⟨x, a, o, t, u, c, n, e, ho, hc, hd, _⟩ := hp v (List.mem_cons_self ..)
    subst e
    refine ⟨.int x.1.1 t :: fs, PySem.W.KatTups.cons ho hc hd rfl h1, by rw [List.length_cons, List.length_cons, h2], fun f hf => ?_⟩
    rcases List.mem_cons.mp hf with e | hf
    · exact ⟨_, _, e⟩
    · exact h3 f hf
theorem wires_sortable {a : Addr} {vs : List Value} {k : Value → Wr} (hu : A.units < cLine) (h0 : 0 < vs.length) (hp : ∀ v ∈ vs, IsWire s.heap v (k v)) (ha : ∀ o, s.heap.get? a = some o → o.cls ≠ .type "tuple") : SrtO.SortableO prog w A s a vs fun v u => ltW (k v) (k u) := by
  intro h' keep
  have hp' : ∀ v ∈ vs, IsWire h' v (k v) := fun v hm => (hp v hm).keeps fun b o e c => keep b o (fun z => by subst z; exact ha o e c) e
  obtain ⟨fs, h1, h2, h3⟩ := wire_firsts fun v hm => ⟨_, hp' v hm⟩
  refine ⟨tuples' true, fun Q E hq => ?_, wire_cmp hu hp'⟩
  refine PySem.W.kat_kind (T := .type "int") h1 (by omega) (fun f hm => ?_) (by rfl) ?_
  · obtain ⟨x, t, rfl⟩ := h3 f hm
    exact PySem.W.Looks.now
  · have e : (Value.type "int" != Value.type "tuple") = true := by first | decide +kernel | rfl | decide
    rw [e]
    exact hq
end
/-- sorted(ws): a new list, the same wires in order -/
def srtQ : List PV → Hq → VQ → Prop := fun xs h Q => ∃ (a : Addr) (ws : List Wr), xs = [.ref a] ∧ h a = some (.lst (ws.map wPV)) ∧ ∀ zs : List Wr, zs.Perm ws → (zs.Pairwise fun x y => ltW y x = false) → ∀ p, h p = none → Q (.ref p) (up h p (.lst (zs.map wPV)))
theorem v3 {x y z : V} {us : List Value} (r : Vals [x, y, z] us) : ∃ u w t, us = [u, w, t] ∧ RelV x u ∧ RelV y w ∧ RelV z t := by
  cases r with
  | cons r1 r2 =>
    obtain ⟨u, w', rfl, r3, r4⟩ := L2.vals2 r2
    exact ⟨_, u, w', rfl, r1, r3, r4⟩
theorem rep_wire {X : Cx} {pins : List (Addr × Obj)} {σ : L2.St} {H : Hp} {s : Shared} (I : Inv X pins σ H s) {F : Addr → Prop} {w : Wr} {v : V} {u : Value} (r : Rep X.K F H (wPV w) v) (ru : RelV v u) : (∃ a, v = .ref a) ∧ IsWire s.heap u w := by
  cases r with
  | tup tp rs =>
    cases rs with
    | cons r1 rs =>
    cases rs with
    | cons r2 rs =>
    cases rs with
    | cons r3 rs =>
    cases rs
    cases r1
    cases r2
    cases r3 with
    | tup tp2 rs2 =>
      cases rs2 with
      | cons q1 rs2 =>
      cases rs2 with
      | cons q2 rs2 =>
      cases rs2
      cases q1
      cases q2
      obtain ⟨its, rv, ⟨o, ho, hc, n, hd⟩, _⟩ := I.tuple tp.seq
      obtain ⟨its2, rv2, ⟨o2, ho2, hc2, n2, hd2⟩, _⟩ := I.tuple tp2.seq
      obtain ⟨u1, u2, u3, rfl, ⟨t1, rfl⟩, ⟨t2, rfl⟩, e3⟩ := v3 rv
      obtain ⟨w1, w2, rfl, ⟨t3, rfl⟩, ⟨t4, rfl⟩⟩ := L2.vals2 rv2
      obtain rfl : u = .ref _ := ru
      obtain rfl : u3 = .ref _ := e3
      exact ⟨⟨_, rfl⟩, _, o, t1, t2, _, n, rfl, ho, hc, hd, t3, t4, o2, ho2, hc2, n2, hd2⟩
theorem IsWire.inj {h : Heap} {v : Value} {w w' : Wr} (x : IsWire h v w) (y : IsWire h v w') : w = w' := by
  obtain ⟨⟨x1, x2⟩, x3, x4⟩ := w
  obtain ⟨⟨y1, y2⟩, y3, y4⟩ := w'
  obtain ⟨a, o, t, u, c, n, e, ho, hc, hd, t1, u1, o2, ho2, hc2, n2, hd2⟩ := x
  obtain ⟨a', o', t', u', c', n', e', ho', hc', hd', t1', u1', o2', ho2', hc2', n2', hd2'⟩ := y
  subst e
  cases e'
  rw [ho] at ho'; cases ho'
  rw [hd] at hd'
  injection hd' with e _
  have := congrArg Array.toList e
  simp only [List.cons.injEq, Value.int.injEq, Value.ref.injEq, and_true] at this
  obtain ⟨⟨e1, _⟩, ⟨e2, _⟩, e3⟩ := this
  subst e3
  rw [ho2] at ho2'; cases ho2'
  rw [hd2] at hd2'
  injection hd2' with e _
  have := congrArg Array.toList e
  simp only [List.cons.injEq, Value.int.injEq, and_true] at this
  obtain ⟨⟨e3, _⟩, e4, _⟩ := this
  have e1 : x1 = y1 := e1
  have e2 : x2 = y2 := e2
  have e3 : x3 = y3 := e3
  have e4 : x4 = y4 := e4
  rw [e1, e2, e3, e4]
theorem reps_of_mem {K : PySem.W.Frag} {F : Addr → Prop} {H : Hp} {k : V → Wr} : ∀ {vs : List V}, (∀ v ∈ vs, Rep K F H (wPV (k v)) v) → Reps K F H ((vs.map k).map wPV) vs
  | [], _ => .nil
  | v :: vs, h => .cons (h v List.mem_cons_self) (reps_of_mem fun u hu => h u (List.mem_cons_of_mem _ hu))
theorem reps_mem {K : PySem.W.Frag} {F : Addr → Prop} {H : Hp} : ∀ {ws : List Wr} {vs : List V}, Reps K F H (ws.map wPV) vs → ∀ v ∈ vs, ∃ w, Rep K F H (wPV w) v
  | [], _, .nil, v, hv => by simp at hv
  | w :: ws, v' :: vs, .cons a b, v, hv => by
    rcases List.mem_cons.mp hv with e | hv
    · rw [e]; exact ⟨w, a⟩
    · exact reps_mem (ws := ws) b v hv
/-- the raw rule: xs a list of wires -/
def rSrtW (K : PySem.W.Frag) : List V → Hp → VK → Prop := fun vs H Q => ∃ (T : TL) (F : Addr → Prop) (h : Hq) (a : Addr) (ws : List Wr) (Q' : VQ), HSim K T F h H ∧ vs = [.ref a] ∧ h a = some (.lst (ws.map wPV)) ∧ (∀ zs : List Wr, zs.Perm ws → (zs.Pairwise fun x y => ltW y x = false) → ∀ p, h p = none → Q' (.ref p) (up h p (.lst (zs.map wPV)))) ∧ ∀ v H', EPost K T F h H Q' v H' → Q v H'
theorem cr_srtW {X : Cx} (hu : X.A.units + 64 < cLine) : CallR X (.builtin "sorted") (rSrtW X.K) := by
  intro pins s σ H vs us Q I r hh
  obtain ⟨T, F, h, a, ws, Q', S, rfl, ha, q, kk⟩ := hh
  obtain ⟨xs, e1, rs⟩ := S.lst ha
  obtain ⟨its, rv, hl, hz⟩ := I.list (.inl (.inl e1))
  obtain ⟨u, rfl, ru⟩ := vals1 r
  obtain rfl : u = Value.ref a := ru
  have hw := reps_mem rs
  have pick : ∃ k : V → Wr, ∀ v ∈ xs, Rep X.K F H (wPV (k v)) v := by
    classical
    refine ⟨fun v => if hv : ∃ w, Rep X.K F H (wPV w) v then hv.choose else ((0, 0), 0, 0), fun v hv => ?_⟩
    have := hw v hv
    show Rep X.K F H (wPV (if hv : ∃ w, Rep X.K F H (wPV w) v then hv.choose else ((0, 0), 0, 0))) v
    rw [dif_pos this]
    exact this.choose_spec
  obtain ⟨k, hk⟩ := pick
  have isr : ∀ x ∈ xs, ∃ a, x = V.ref a := fun x hx => by
    obtain ⟨w, hx⟩ := hw x hx
    cases hx with
    | tup _ _ => exact ⟨_, rfl⟩
  obtain ⟨e2, e3⟩ := refs_back rv isr
  have uw : ∀ v ∈ its, IsWire s.heap v (k (backV v)) := fun v hv => by
    obtain ⟨t, rfl⟩ := e3 v hv
    have hm : V.ref t ∈ xs := by rw [e2]; exact List.mem_map.mpr ⟨_, hv, rfl⟩
    exact (rep_wire I (hk _ hm) (show RelV (.ref t) (.ref t) from rfl)).2
  have hu2 : X.A.in1.in1.units < cLine := by
    show X.A.units + 1 + 1 < cLine
    omega
  refine SrtO.sorted_ord (ltv := fun v u => ltW (k (backV v)) (k (backV u))) (ltW_swo fun v => k (backV v)) hl.isList (by rw [← rv.length]; exact hz) (fun h2 h₁ a' ha' kk' => ?_) fun out h1 h2 => ?_
  · refine wires_sortable (s := { s with heap := h₁ }) (k := fun v => k (backV v)) hu2 (by omega) (fun v hm => (uw v hm).keeps fun b o e _ => (kk' b o e).2) fun o e => ?_
    have e' : some o = some (seqObj "list" its.toArray 0) := e.symm.trans ha'
    cases e'
    intro c
    exact absurd (Value.type.inj c) (by decide)
  · have h3 : ∀ u ∈ out, ∃ a, u = Value.ref a := fun u hu => e3 u (h2.perm.mem_iff.mp hu)
    obtain ⟨n, hn⟩ := PyProof.Rows.sortedAll_at s.heap its out.toArray
    have hd : s.heap.objs.size ≤ s.heap.objs.size + 1 := Nat.le_succ _
    have np := I.hok.fresh hd
    have perm : (out.map backV).Perm xs := by
      rw [e2]
      exact h2.perm.map _
    have hR : Reps X.K F H (((out.map backV).map k).map wPV) (out.map backV) := reps_of_mem fun v hv => hk v (perm.mem_iff.mp hv)
    have wsE : xs.map k = ws := by
      have aux : ∀ {ws : List Wr} {xs : List V} {its : List Value}, Reps X.K F H (ws.map wPV) xs → Vals xs its → (∀ v ∈ xs, Rep X.K F H (wPV (k v)) v) → xs.map k = ws := by
        intro ws
        induction ws with
        | nil => intro xs its r _ _; cases r; rfl
        | cons w ws ih =>
          intro xs its r rv hk
          cases r with
          | cons r1 r2 =>
            cases rv with
            | cons v1 v2 =>
              rw [List.map_cons, ih r2 v2 fun v hv => hk v (List.mem_cons_of_mem _ hv)]
              have a1 := (rep_wire I r1 v1).2
              have a2 := (rep_wire I (hk _ List.mem_cons_self) v1).2
              rw [a2.inj a1]
      exact aux rs rv hk
    have P2 : ((out.map backV).map k).Perm ws := by
      rw [← wsE]
      exact perm.map k
    have S2 : ((out.map backV).map k).Pairwise fun x y => ltW y x = false := by
      rw [List.map_map, List.pairwise_map]
      exact h1
    obtain ⟨S3, t3⟩ := S.newO (p := s.heap.objs.size + 1) (o := .lst (((out.map backV).map k).map wPV)) (u := .lst (out.map backV)) np hR
    refine ⟨.ref (s.heap.objs.size + 1), upd H _ (.lst (out.map backV)), I.laid (t' := s.toks) (fun b o e => PyProof.Rows.sortedAll_old e) hd ⟨?_, out, n, vals_back h3, hn⟩, rfl, kk _ _ ⟨F, _, .ref _, t3, S3, .ref _, q _ P2 S2 _ (S.free np)⟩⟩
    rw [List.length_map, h2.perm.length_eq, ← rv.length]
    exact hz
theorem cq_srt {X : Cx} (hu : X.A.units + 64 < cLine) : CallQ X (.builtin "sorted") srtQ := by
  refine ⟨_, cr_srtW hu, fun {T} F h H xs vs Q R S r ⟨a, ws, ex, ha, q⟩ kk => ?_⟩
  subst ex
  obtain ⟨v, ev, rv⟩ := Reps.inv1 r
  subst ev
  cases rv
  exact ⟨T, F, h, a, ws, Q, S, rfl, ha, q, kk⟩
/-- w < v of two wires -/
def ltwQ : O2 := fun x y h Q => ∃ w v, x = wPV w ∧ y = wPV v ∧ Q (.bl (ltW w v)) h
theorem oq_ltw {X : Cx} (hu : X.A.units + 64 < cLine) : OpQ X (compareOp .Lt) ltwQ := by
  refine ⟨fun {T} pins s σ F h H x y v w vv ww Q I S rx ry r1 r2 ⟨p, q, ex, ey, hq⟩ => ?_⟩
  subst ex ey
  have a1 := (rep_wire I rx r1).2
  have a2 := (rep_wire I ry r2).2
  obtain ⟨⟨x1, x2⟩, x3, x4⟩ := p
  obtain ⟨⟨y1, y2⟩, y3, y4⟩ := q
  obtain ⟨a, o, t, u, c, n, e, ho, hc, hd, t1, u1, hT⟩ := a1
  obtain ⟨a', o', t', u', c', n', e', ho', hc', hd', t1', u1', hT'⟩ := a2
  subst e e'
  have hu1 : X.A.units < cLine := by omega
  have hu2 : X.A.in1.units < cLine := by
    show X.A.units + 1 < cLine
    omega
  have key := Ob.RcOp.tuples_lt (A := X.A) (s := s) (e := fun j => if j = 0 then x1 == y1 else if j = 1 then x2 == y2 else decide (x3 = y3 ∧ x4 = y4)) (r := fun j => if j = 0 then decide (x1 < y1) else if j = 1 then decide (x2 < y2) else SrtO.lexB (x3, x4) (y3, y4))
    (l := a) (b := a') (items := #[.int x1 t, .int x2 u, .ref c]) (items2 := #[.int y1 t', .int y2 u', .ref c']) ⟨o, ho, hc, n, hd⟩ ⟨o', ho', hc', n', hd'⟩ hu1 (fun j j1 j2 => by
      match j, j1, j2 with
      | 0, _, _ => exact SeqAt.EqAt.int_int x1 t y1 t'
      | 1, _, _ => exact SeqAt.EqAt.int_int x2 u y2 u'
      | 2, _, _ => exact eq_pair hu2 hT hT'
      | j + 3, h, _ => exact absurd h (by simp)) fun j j1 j2 _ => by
      match j, j1, j2 with
      | 0, _, _ => exact Ob.RcOp.lt_int x1 y1 t t'
      | 1, _, _ => exact Ob.RcOp.lt_int x2 y2 u u'
      | 2, _, _ => exact lt_pair hu2 hT hT'
      | j + 3, h, _ => exact absurd h (by simp)
  have e : Ob.lexAt (fun j => if j = 0 then x1 == y1 else if j = 1 then x2 == y2 else decide (x3 = y3 ∧ x4 = y4)) (fun j => if j = 0 then decide (x1 < y1) else if j = 1 then decide (x2 < y2) else SrtO.lexB (x3, x4) (y3, y4)) (decide ((#[Value.int x1 t, .int x2 u, .ref c] : Array Value).size < (#[Value.int y1 t', .int y2 u', .ref c'] : Array Value).size)) 0 (min (#[Value.int x1 t, .int x2 u, .ref c] : Array Value).size (#[Value.int y1 t', .int y2 u', .ref c'] : Array Value).size) = ltW ((x1, x2), x3, x4) ((y1, y2), y3, y4) := by
    show (if (x1 == y1) = true then (if (x2 == y2) = true then (if decide (x3 = y3 ∧ x4 = y4) = true then false else SrtO.lexB (x3, x4) (y3, y4)) else decide (x2 < y2)) else decide (x1 < y1)) = _
    have L := @SrtO.lexB_iff (x3, x4) (y3, y4)
    have M := @ltW_iff ((x1, x2), x3, x4) ((y1, y2), y3, y4)
    refine Bool.eq_iff_iff.mpr ?_
    rw [M]
    show _ ↔ (x1 < y1 ∨ (x1 = y1 ∧ (x2 < y2 ∨ (x2 = y2 ∧ (x3 < y3 ∨ (x3 = y3 ∧ x4 < y4))))))
    have L : SrtO.lexB (x3, x4) (y3, y4) = true ↔ (x3 < y3 ∨ x3 = y3 ∧ x4 < y4) := L
    by_cases a : x1 = y1
    · by_cases b : x2 = y2
      · by_cases c : x3 = y3 ∧ x4 = y4
        · simp [a, b, c]
        · rw [if_pos (beq_iff_eq.mpr a), if_pos (beq_iff_eq.mpr b), if_neg (by rw [decide_eq_true_eq]; exact c), L]
          omega
      · rw [if_pos (beq_iff_eq.mpr a), if_neg (fun z => b (beq_iff_eq.mp z)), decide_eq_true_eq]
        omega
    · rw [if_neg (fun z => a (beq_iff_eq.mp z)), decide_eq_true_eq]
      omega
  rw [e] at key
  exact key X.prog X.w _ _ ⟨.bl _, H, I, rfl, F, h, _, .refl _ _ _, S, .bl _, hq⟩
end L3

/-! L3i: walking what may be a list or a tuple; constants of the module. -/
namespace L2
open PySem PySem.Spec PyProof.Rows
def iSeq (K : PySem.W.Frag) (tl : TE) : TI := fun σ H R => tl σ H fun x H1 => ∃ a, x = .ref a ∧ ((∃ xs, SqL K H1 a xs) ∧ R (Itl K a) H1 ∨ (∃ xs, SqT K H1 a xs) ∧ R (Itt K a) H1)
theorem pi_seq {X : Cx} {tg l : Expr} {tl : TE} (hl : PE X l tl) : PI X tg l (iSeq X.K tl) := by
  refine ⟨fun pins s σ H R I h => ?_⟩
  refine thn (hl.run pins s σ H _ I h) fun v s1 ⟨x, H1, I1, r1, a, ex, q1⟩ => ?_
  subst ex
  cases r1
  have fp : ∀ b ∈ [s1.heap.objs.size], FpOk X pins H1 b := fun b hb => by
    have e : b = s1.heap.objs.size := by simpa using hb
    subst e
    exact I1.fpOk (Nat.le_refl _) (I1.hok.fresh (Nat.le_refl _))
  rcases q1 with ⟨⟨xs, hq⟩, q⟩ | ⟨⟨xs, hq⟩, q⟩
  · obtain ⟨its, rv, p, hz⟩ := I1.list hq
    exact wpAny_pyIter_list p.isList ⟨s1.heap.objs.size, [s1.heap.objs.size], _, _, H1, rfl, I1.kept (t' := s1.toks) fun b o e => Heap.get?_push_of_some _ e, turn_list a _, ⟨_, Heap.get?_push_size _ rfl, rfl, rfl⟩, fp, q⟩
  · obtain ⟨its, rv, p, hz⟩ := I1.tuple hq
    exact wpAny_pyIter_tuple (show s1.heap.IsTuple a its.toArray from p) ⟨s1.heap.objs.size, [s1.heap.objs.size], _, _, H1, rfl, I1.kept (t' := s1.toks) fun b o e => Heap.get?_push_of_some _ e, turn_tuple a _, ⟨_, Heap.get?_push_size _ rfl, rfl, rfl⟩, fp, q⟩
end L2
namespace L3
open PySem PySem.Spec PyProof.Rows L2
def seqI (t : TQ) : IQ := fun n h R => t n h fun x h1 => ∃ xs, seqOf h1 x = some xs ∧ R ⟨xs, stOf x xs⟩ h1
theorem qi_seq {X : Cx} {G : Gr} {tg e : Expr} {t : TQ} (he : QE X G e t) : QI X G tg e (seqI t) := by
  refine QI.of (pi_seq he.pe) fun F h H n σ R s S E hq => ?_
  refine ⟨F, h, n, _, s, S, E, hq, fun v1 H1 ⟨F1, h1, x, t1, S1, r1, xs, ex, q1⟩ => ?_⟩
  by_cases ht : ∃ ys, x = .tup ys
  · obtain ⟨ys, et⟩ := ht
    subst et
    cases ex
    cases r1 with
    | tup tp rs =>
      refine ⟨_, rfl, .inr ⟨⟨_, tp.seq⟩, F1, h1, _, t1, S1, fun i F2 h2 H2 t2 S2 st => ?_, q1⟩⟩
      have rs2 := rs.step S1 t2
      have hs2 := (tp.step S1 t2).seq
      refine ⟨fun y ey => ?_, fun hl => ⟨_, hs2, by rw [← rs2.length]; exact hl⟩⟩
      obtain ⟨w, ew, rw'⟩ := rs2.get ey
      refine ⟨⟨_, w, hs2, ew⟩, fun v H' ⟨eH, hv⟩ => ?_⟩
      subst eH
      have := hv _ hs2
      rw [ew] at this
      cases this
      exact ⟨F2, .refl _ _ _, S2, rw'⟩
  · have same : ∀ h, seqOf h x = lstOf h x := fun h => by
      cases x with
      | tup ys => exact absurd ⟨ys, rfl⟩ ht
      | _ => rfl
    rw [same] at ex
    obtain ⟨a, vs, rfl, hs, rs⟩ := lstOf_rep S1 ex r1
    refine ⟨a, rfl, .inl ⟨⟨vs, hs⟩, F1, h1, _, t1, S1, fun i F2 h2 H2 t2 S2 st => ?_, q1⟩⟩
    have st : seqOf h2 x = some xs := st
    rw [same] at st
    obtain ⟨a', ws, e', hs2, rs2⟩ := lstOf_rep S2 st (r1.step S1 t2)
    cases e'
    refine ⟨fun y ey => ?_, fun hl => ⟨ws, hs2, by rw [← rs2.length]; exact hl⟩⟩
    obtain ⟨w, ew, rw'⟩ := rs2.get ey
    refine ⟨⟨ws, w, hs2, ew⟩, fun v H' ⟨eH, hv⟩ => ?_⟩
    subst eH
    have := hv ws hs2
    rw [ew] at this
    cases this
    exact ⟨F2, .refl _ _ _, S2, rw'⟩
def noneT (k : Bool → Bool) (ta : TQ) : BQ := fun n h Q => ta n h fun x h1 => Q (k (isN x)) h1
theorem qt_isN {X : Cx} {G : Gr} {a : Expr} {ta : TQ} {pos pos' : Pos} {j} (ha : QE X G a ta) : QT X G (.Compare a [.Is] [.Constant .none j pos'] pos) (noneT id ta) := by
  refine QT.of (pt_cmp (pc_isN ha.pe)) fun F h H n σ Q s S E hq => ?_
  refine ⟨F, h, n, _, s, S, E, hq, fun v1 H1 ⟨F1, h1, x, t1, S1, r1, q1⟩ => ?_⟩
  exact ⟨_, rfl, F1, h1, t1, S1, by rw [r1.isN]; exact q1⟩
theorem qt_notN {X : Cx} {G : Gr} {a : Expr} {ta : TQ} {pos pos' : Pos} {j} (ha : QE X G a ta) : QT X G (.Compare a [.IsNot] [.Constant .none j pos'] pos) (noneT not ta) := by
  refine QT.of (pt_cmp (pc_notN ha.pe)) fun F h H n σ Q s S E hq => ?_
  refine ⟨F, h, n, _, s, S, E, hq, fun v1 H1 ⟨F1, h1, x, t1, S1, r1, q1⟩ => ?_⟩
  exact ⟨_, rfl, F1, h1, t1, S1, by rw [r1.isN]; exact q1⟩
structure GC (K : PySem.W.Frag) (mg : Str → Option Value) (x : Str) (y : PV) : Prop where
  ex : ∃ v u, mg x = some u ∧ RelV v u ∧ ∀ F H, Rep K F H y v
theorem qe_gc {X : Cx} {G : Gr} {x : Str} {y : PV} {pos : Pos} (c : GC X.K X.mg x y) (hg : Gl X x) (hd : (x == ("__debug__" : Str)) = false := by decide) : QE X G (.Name x pos) (cQ y) := by
  obtain ⟨v, u, h1, h2, h3⟩ := c.ex
  exact qe_glob hg h1 h2 h3 hd
theorem gc_int {K : PySem.W.Frag} {mg : Str → Option Value} {x : Str} {i : Int} {t : Tok} (h : mg x = some (.int i t)) : GC K mg x (.int i) := ⟨.int i, _, h, ⟨t, rfl⟩, fun _ _ => .int i⟩
end L3

/-! L3j: the rules as the printer names them. -/
namespace L3
open PySem PySem.Spec PyProof.Rows L2

/-- a def in reach, as it is called -/
structure FB (P : Program) (w : World) (K : PySem.W.Frag) (mg : Str → Option Value) (base : Heap) (T : TL) (x : Str) (k : Nat) (ps : List Str) (dn : Nat) (kl : List (List Str × List Nat)) (sp : PQ) : Prop where
  ex : ∃ f fd, FD P w K mg base T x f fd k ps sp ∧ (∀ m ≤ dn, BD K fd ps (List.replicate m .non)) ∧ ∀ q ∈ kl, KD K fd ps q.1 q.2
def lenQ : List PV → Hq → VQ → Prop := fun xs h Q => ∃ x ys, xs = [x] ∧ seqOf h x = some ys ∧ Q (.int ys.length) h
def absQ : List PV → Hq → VQ → Prop := fun xs h Q => ∃ i, xs = [.int i] ∧ Q (.int (i.natAbs : Nat)) h
def minQ : List PV → Hq → VQ → Prop := fun xs h Q => ∃ i j, xs = [.int i, .int j] ∧ Q (.int (min i j)) h
def maxQ : List PV → Hq → VQ → Prop := fun xs h Q => ∃ i j, xs = [.int i, .int j] ∧ Q (.int (max i j)) h
def intQ : List PV → Hq → VQ → Prop := fun xs h Q => ∃ x i, xs = [x] ∧ intOf x = some i ∧ Q (.int i) h
def tupleQ : List PV → Hq → VQ → Prop := fun xs h Q => ∃ x ys, xs = [x] ∧ seqOf h x = some ys ∧ Q (.tup ys) h
def listQ : List PV → Hq → VQ → Prop := fun xs h Q => ∃ x ys, xs = [x] ∧ seqOf h x = some ys ∧ ∀ p, h p = none → Q (.ref p) (up h p (.lst ys))
section
variable {X : Cx} {G : Gr} {x : Str} {e a b : Expr} {es : List Expr} {p pos : Pos} {t : AQ} {ta tb : TQ}
theorem c_len (hm : X.mg "len" = none) (hg : Gl X "len") (ha : QA X G [a] t) (he : starEach (a :: []) X.env = (false, eval a X.env) :: starEach [] X.env := by rfl) (hpl : (backTo pos (starEach [] X.env)).any (·.1) = false := by rfl) : QE X G (.Call (.Name "len" p) [a] [] pos) (callQ lenQ t) := qe_callB cq_len hg hm (by decide +kernel) ha (by decide) (by decide) he hpl
theorem c_abs (hm : X.mg "abs" = none) (hg : Gl X "abs") (ha : QA X G [a] t) (he : starEach (a :: []) X.env = (false, eval a X.env) :: starEach [] X.env := by rfl) (hpl : (backTo pos (starEach [] X.env)).any (·.1) = false := by rfl) : QE X G (.Call (.Name "abs" p) [a] [] pos) (callQ absQ t) := qe_callB cq_abs hg hm (by decide +kernel) ha (by decide) (by decide) he hpl
theorem c_min (hm : X.mg "min" = none) (hc : X.calm = true) (hg : Gl X "min") (ha : QA X G [a, b] t) (he : starEach (a :: [b]) X.env = (false, eval a X.env) :: starEach [b] X.env := by rfl) (hpl : (backTo pos (starEach [b] X.env)).any (·.1) = false := by rfl) : QE X G (.Call (.Name "min" p) [a, b] [] pos) (callQ minQ t) := qe_callB (cq_min hc) hg hm (by decide +kernel) ha (by decide) (by decide) he hpl
theorem c_max (hm : X.mg "max" = none) (hc : X.calm = true) (hg : Gl X "max") (ha : QA X G [a, b] t) (he : starEach (a :: [b]) X.env = (false, eval a X.env) :: starEach [b] X.env := by rfl) (hpl : (backTo pos (starEach [b] X.env)).any (·.1) = false := by rfl) : QE X G (.Call (.Name "max" p) [a, b] [] pos) (callQ maxQ t) := qe_callB (cq_max hc) hg hm (by decide +kernel) ha (by decide) (by decide) he hpl
theorem c_sorted (hm : X.mg "sorted" = none) (hu : X.A.units + 64 < cLine) (hg : Gl X "sorted") (ha : QA X G [a] t) (he : starEach (a :: []) X.env = (false, eval a X.env) :: starEach [] X.env := by rfl) (hpl : (backTo pos (starEach [] X.env)).any (·.1) = false := by rfl) : QE X G (.Call (.Name "sorted" p) [a] [] pos) (callQ srtQ t) := qe_callB (cq_srt hu) hg hm (by decide +kernel) ha (by decide) (by decide) he hpl
theorem c_int (hm : X.mg "int" = none) (hg : Gl X "int") (ha : QA X G [a] t) (he : starEach (a :: []) X.env = (false, eval a X.env) :: starEach [] X.env := by rfl) (hpl : (backTo pos (starEach [] X.env)).any (·.1) = false := by rfl) : QE X G (.Call (.Name "int" p) [a] [] pos) (callQ intQ t) := qe_callTy cq_int hg hm (by decide +kernel) ha (by decide) (by decide) he hpl
theorem c_tuple (hm : X.mg "tuple" = none) (hg : Gl X "tuple") (ha : QA X G [a] t) (he : starEach (a :: []) X.env = (false, eval a X.env) :: starEach [] X.env := by rfl) (hpl : (backTo pos (starEach [] X.env)).any (·.1) = false := by rfl) : QE X G (.Call (.Name "tuple" p) [a] [] pos) (callQ tupleQ t) := qe_callTy cq_tuple hg hm (by decide +kernel) ha (by decide) (by decide) he hpl
theorem c_list (hm : X.mg "list" = none) (hg : Gl X "list") (ha : QA X G [a] t) (he : starEach (a :: []) X.env = (false, eval a X.env) :: starEach [] X.env := by rfl) (hpl : (backTo pos (starEach [] X.env)).any (·.1) = false := by rfl) : QE X G (.Call (.Name "list" p) [a] [] pos) (callQ listQ t) := qe_callTy cq_list hg hm (by decide +kernel) ha (by decide) (by decide) he hpl
theorem c_isi {T y : String} {p2 : Pos} (hm : X.mg "isinstance" = none) (hmT : X.mg (y : Str) = none) (hT : T = "int" ∨ T = "bool" ∨ T = "str" ∨ T = "tuple" ∨ T = "list") (hvT : bootBuiltins (y : Str) = some (.type T)) (hn2 : (y : Str) ≠ "__name__") (hdb2 : ((y : Str) == ("__debug__" : Str)) = false) (hg : Gl X "isinstance") (hgT : Gl X (y : Str)) (ha : QE X G a ta)
    (hs : starEach [a, .Name (y : Str) p2] X.env = (false, eval a X.env) :: starEach [.Name (y : Str) p2] X.env := by rfl) : QE X G (.Call (.Name "isinstance" p) [a, .Name (y : Str) p2] [] pos) (isiQ T ta) :=
  qe_isi hT hg hm (by decide +kernel) hgT hmT hvT ha (by decide) (by decide) hn2 hdb2 hs
theorem i_int (hm : X.mg "isinstance" = none) (hmT : X.mg "int" = none) {p2 : Pos} (hg : Gl X "isinstance") (hgT : Gl X "int") (ha : QE X G a ta) (hs : starEach [a, .Name "int" p2] X.env = (false, eval a X.env) :: starEach [.Name "int" p2] X.env := by rfl) : QE X G (.Call (.Name "isinstance" p) [a, .Name "int" p2] [] pos) (isiQ "int" ta) := c_isi (y := "int") hm hmT (by simp) (by decide +kernel) (by decide) (by decide) hg hgT ha hs
theorem i_bool (hm : X.mg "isinstance" = none) (hmT : X.mg "bool" = none) {p2 : Pos} (hg : Gl X "isinstance") (hgT : Gl X "bool") (ha : QE X G a ta) (hs : starEach [a, .Name "bool" p2] X.env = (false, eval a X.env) :: starEach [.Name "bool" p2] X.env := by rfl) : QE X G (.Call (.Name "isinstance" p) [a, .Name "bool" p2] [] pos) (isiQ "bool" ta) := c_isi (y := "bool") hm hmT (by simp) (by decide +kernel) (by decide) (by decide) hg hgT ha hs
theorem i_str (hm : X.mg "isinstance" = none) (hmT : X.mg "str" = none) {p2 : Pos} (hg : Gl X "isinstance") (hgT : Gl X "str") (ha : QE X G a ta) (hs : starEach [a, .Name "str" p2] X.env = (false, eval a X.env) :: starEach [.Name "str" p2] X.env := by rfl) : QE X G (.Call (.Name "isinstance" p) [a, .Name "str" p2] [] pos) (isiQ "str" ta) := c_isi (y := "str") hm hmT (by simp) (by decide +kernel) (by decide) (by decide) hg hgT ha hs
theorem i_tuple (hm : X.mg "isinstance" = none) (hmT : X.mg "tuple" = none) {p2 : Pos} (hg : Gl X "isinstance") (hgT : Gl X "tuple") (ha : QE X G a ta) (hs : starEach [a, .Name "tuple" p2] X.env = (false, eval a X.env) :: starEach [.Name "tuple" p2] X.env := by rfl) : QE X G (.Call (.Name "isinstance" p) [a, .Name "tuple" p2] [] pos) (isiQ "tuple" ta) := c_isi (y := "tuple") hm hmT (by simp) (by decide +kernel) (by decide) (by decide) hg hgT ha hs
theorem i_list (hm : X.mg "isinstance" = none) (hmT : X.mg "list" = none) {p2 : Pos} (hg : Gl X "isinstance") (hgT : Gl X "list") (ha : QE X G a ta) (hs : starEach [a, .Name "list" p2] X.env = (false, eval a X.env) :: starEach [.Name "list" p2] X.env := by rfl) : QE X G (.Call (.Name "isinstance" p) [a, .Name "list" p2] [] pos) (isiQ "list" ta) := c_isi (y := "list") hm hmT (by simp) (by decide +kernel) (by decide) (by decide) hg hgT ha hs
variable {k : Nat} {ps : List Str} {dn : Nat} {kl : List (List Str × List Nat)} {sp : PQ} {W : XQ}
/-- x(e, ..), m of the defaults taken -/
def fcQ (sp : PQ) (m : Nat) (W : XQ) (t : AQ) : TQ := fun n h Q => t n h fun xs h1 => sp (xs ++ List.replicate m .non) h1 Q W
theorem qe_fc (D : FB X.prog X.w X.K X.mg X.base G.T x k ps dn kl sp) (m : Nat) (hm : m ≤ dn) (hr : Room k X.A) (hg : Gl X x) (lx : LX X G W) (ha : QA X G (e :: es) t) (hdb : (x == ("__debug__" : Str)) = false := by decide)
    (he : starEach (e :: es) X.env = (false, eval e X.env) :: starEach es X.env := by rfl) (hpl : (backTo pos (starEach es X.env)).any (·.1) = false := by rfl) : QE X G (.Call (.Name x p) (e :: es) [] pos) (fcQ sp m W t) := by
  obtain ⟨f, fd, d, b, _⟩ := D.ex
  exact qe_call d (b m hm) hr hg lx ha hdb he hpl
theorem qe_fk {ks : List Str} {is : List Nat} {kws : List Keyword} (D : FB X.prog X.w X.K X.mg X.base G.T x k ps dn kl sp) (hq : (ks, is) ∈ kl) (hr : Room k X.A) (hg : Gl X x) (lx : LX X G W) (hkw : QK X G kws t) (hdb : (x == ("__debug__" : Str)) = false := by decide)
    (hall : (backToKw pos (keywordEach kws X.env)).all (·.1.isSome) = true := by rfl) (hks : (backToKw pos (keywordEach kws X.env)).filterMap (·.1) = ks := by rfl)
    (hpl : ((backTo pos (starEach [] X.env)).any (·.1) || (backToKw pos (keywordEach kws X.env)).any (·.1.isNone)) = false := by rfl) :
    QE X G (.Call (.Name x p) [] kws pos) (kcallQ sp ks.length is W t) := by
  obtain ⟨f, fd, d, _, kd⟩ := D.ex
  exact qe_callKw d (kd (ks, is) hq) hr hg lx hkw hdb hall hks hpl
end
end L3

/-! L3k: the hearing def, its calls; defs whose code object is known. -/
namespace L3
open PySem PySem.Spec PyProof.Rows L2

/-- how a hearing def ends: hs its clauses (class, field, tag) -/
def heardE (hs : List (String × String × String)) (c : Str → Addr) : VQ → XQ → VQ → Prop := fun Qd Wd Q' => (∀ x h1, Qd x h1 → ∀ p, h1 p = none → Q' (.ref p) (up h1 p (.lst [.str "told", x]))) ∧
  ∀ cl x h1, Wd cl x h1 → ∃ q ∈ hs, cl = .ref (c q.1) ∧ ∃ y, x = some ((q.2.1 : Str), y) ∧ ∀ p, h1 p = none → Q' (.ref p) (up h1 p (.lst [.str q.2.2, y]))
/-- the name that a def's lambda bears -/
def lamName (qual : Str) : Str := (envOfC qual { kind := .function, names := [], isGenerator := false, isCoroutine := false } 0 0 .none).qual ++ "<lambda>"
theorem sz2 (a b : PV) : [a, b].length ≤ sizeLine := by
  show 2 ≤ sizeLine
  decide
theorem FB.cast {P : Program} {w : World} {K : PySem.W.Frag} {mg : Str → Option Value} {base : Heap} {T T' : TL} {x : Str} {k : Nat} {ps : List Str} {dn : Nat} {kl : List (List Str × List Nat)} {sp : PQ} (D : FB P w K mg base T x k ps dn kl sp) (h : T' = T) : FB P w K mg base T' x k ps dn kl sp := by
  rw [h]; exact D
structure HF (K : PySem.W.Frag) (mg : Str → Option Value) (st : Stmt) : Prop where
  ex : ∃ g oc od dV kV doc pm an cdv ct osl, mg "_law_heard" = some (.ref g) ∧ PySem.W.keepIn K (.ref g) = true ∧ K.lookup g = some ⟨oc, od, .func (PySem.W.fnOf "_law_heard" "_law_heard" (defArgs st) (defBody st) (defScope st) dV kV doc pm an cdv ct), osl⟩ ∧ PySem.W.codeIn K cdv "_law_heard" = true ∧
    L2.Binds K (PySem.W.fnOf "_law_heard" "_law_heard" (defArgs st) (defBody st) (defScope st) dV kV doc pm an cdv ct) ["call"] []
theorem qe_heard {X : Cx} {G : Gr} {st : Stmt} {k : Nat} {Pt cm : Addr} {Ng : List Str} {params : Arguments} {body : Expr} {scope : Scope} {tq : XQ → TQ} {p lpos pos : Pos} {end_ : VQ → XQ → VQ → Prop} (Hf : HF X.K X.mg st) (hg : Gl X "_law_heard") (Sg : FnScope Ng ["call"] (defScope st)) (hNg : Ng[0]? = some ("call" : Str)) (hva : Vis (defScope st) "call")
    (hG : ∀ g cdg, LamX.GivesTo X Ng "_law_heard" (defScope st) g cdg (defBody st) "call" (X.env.qual ++ "<lambda>") (heardT X.K G.T end_)) (hT : G.T = [(Pt, X.env.qual ++ "<lambda>")])
    (TB : LamX.TabB X.base X.mg cm Pt) (hcode : X.env.code = .ref cm) (hr : Room (k + 2) X.A) (L : LamX.LamS X.env.scope scope) (hdef : defaultsOf params X.env = ([], []))
    (hbind : ∀ (q : Str) (cl : List (Str × Addr)) (pm cv ctv : Value), bindArgs (PySem.W.kla_fn "<lambda>" q params body scope cl pm cv ctv) ⟨[], []⟩ = pure [])
    (hbody : ∀ (A : Around) (outer : List Env) (s : Shared) (H : Hp) (E : XK) (f c' : Addr), Room k (A.deeper (LamX.lamEnv X scope s.heap.objs.size f c')) → PE (LamX.lamCx X A outer s H E scope f c') body (lamT X.K G.T tq E)) :
    QE X G (.Call (.Name "_law_heard" p) [.Lambda params body scope lpos] [] pos) (lamQ tq end_) := by
  obtain ⟨g, oc, od, dV, kV, doc, pm, an, cdv, ct, osl, hm, hk, lk, hcg, hb⟩ := Hf.ex
  exact qe_lam (LamX.pe_lamcall hg hm hk lk hcg hb Sg hNg hva (hG g cdv) TB hcode (by rw [hT]; exact List.mem_singleton.mpr rfl) (fun q hq e => by rw [hT] at hq; rw [List.mem_singleton.mp hq]) hr L hdef hbind hbody)
section
variable {P : Program} {w : World} {K : PySem.W.Frag} {mg : Str → Option Value} {base : Heap} {T : TL}
/-- as fnQ_mk, its code object known -/
theorem fnQ_mkC {qual : Str} {st : Stmt} {f : Addr} {nm : Str} {oc : Value} {od an : Option Addr} {osl : Array (Option Value)} {kV doc pm cdv ct : Value} {N ps : List Str} {k : Nat} {sp : PQ}
    (lk : K.lookup f = some ⟨oc, od, .func (PySem.W.fnOf nm qual (defArgs st) (defBody st) (defScope st) .none kV doc pm an cdv ct), osl⟩) (hcd : PySem.W.codeIn K cdv qual = true) (S : FnScope N ps (defScope st)) (len : ∀ xs h Q E, sp xs h Q E → xs.length = ps.length)
    (hbody : ∀ (A : Around) (outer : List Env) (s : Shared) (E0 : XK) (G : Gr) (xs : List PV) (Q : VQ) (E : XQ), G.T = T → Room k (A.deeper (envOfC qual (defScope st) s.heap.objs.size f cdv)) → sp xs G.h Q E →
      LX (cxOf (L2.CX P w) P w K mg base N qual (defScope st) f cdv A outer s G.H E0) G E →
      ∃ t, QSs (cxOf (L2.CX P w) P w K mg base N qual (defScope st) f cdv A outer s G.H E0) G (defBody st) t ∧ t { nx := fun _ h' => Q .non h', rt := rtQ Q } (startQ N xs) G.h) : FnQ P w K mg base T (k + 1) f (PySem.W.fnOf nm qual (defArgs st) (defBody st) (defScope st) .none kV doc pm an cdv ct) ps sp := by
  refine fn_of lk hcd S (fun vs H Q E h => ?_) fun A outer s H vs Q E hr h => ?_
  · obtain ⟨F, h, xs, Q', E', S1, r, q, _⟩ := h
    rw [← r.length]
    exact len _ _ _ _ q
  · obtain ⟨F, h, xs, Q', E', S1, r, q, k1, k2⟩ := h
    have tk : Takes (cxOf (L2.CX P w) P w K mg base N qual (defScope st) f cdv A outer s H E) (fun cls d _ H => E cls d H) := takes_of rfl rfl rfl rfl
    obtain ⟨t, ht, hq⟩ := hbody A outer s E ⟨T, F, h, H⟩ xs Q' E' rfl hr q (Takes.imp tk fun c d σ H' p => k2 _ _ _ p)
    refine ⟨_, ht.pss, F, h, startQ N xs, _, .refl _ _ _, S1, esim_start r, hq, ?_⟩
    refine ⟨fun σ H' p => ?_, fun v H' p => ?_, fun σ H' p => ?_, fun σ H' p => ?_⟩
    · obtain ⟨F', h', n, a, b, c, d⟩ := p
      exact k1 _ _ ⟨F', h', .non, a, b, .non, d⟩
    · exact k1 _ _ (EPost.fz p)
    · obtain ⟨F', h', n, a, b, c, d⟩ := p
      exact d.elim
    · obtain ⟨F', h', n, a, b, c, d⟩ := p
      exact d.elim
end
end L3

/-! L4q: plain facts on fractions: Rat's own numerator and denominator, and how large they may become. -/
namespace L4
theorem gcd_sym (a b : Int) : Int.gcd a b = Int.gcd b a := Int.gcd_comm a b
theorem ratio_pos {p q : Int} (h : 0 < q) : (Rat.divInt p q).num = p / ((Int.gcd p q : Nat) : Int) ∧ ((Rat.divInt p q).den : Int) = q / ((Int.gcd p q : Nat) : Int) := by
  have hq : q ≠ 0 := by omega
  refine ⟨?_, ?_⟩
  · rw [Rat.num_divInt, Int.sign_eq_one_of_pos h, Int.one_mul, Int.gcd_comm]
  · rw [Rat.den_divInt, if_neg hq, Int.gcd_comm, Int.natCast_ediv]
    congr 1
    omega
theorem ratio_neg {p q : Int} (h : q < 0) : (Rat.divInt p q).num = (-p) / ((Int.gcd p q : Nat) : Int) ∧ ((Rat.divInt p q).den : Int) = (-q) / ((Int.gcd p q : Nat) : Int) := by
  have hq : q ≠ 0 := by omega
  refine ⟨?_, ?_⟩
  · rw [Rat.num_divInt, Int.sign_eq_neg_one_of_neg h, Int.gcd_comm]
    congr 1
    omega
  · rw [Rat.den_divInt, if_neg hq, Int.gcd_comm, Int.natCast_ediv]
    congr 1
    omega
theorem den_pos' (a : Rat) : (0 : Int) < (a.den : Int) := by
  have := a.den_nz
  omega
theorem add_eq (a b : Rat) : a + b = Rat.divInt (a.num * b.den + b.num * a.den) (a.den * b.den) := by
  have h1 := den_pos' a
  have h2 := den_pos' b
  have := Rat.divInt_add_divInt a.num b.num (d₁ := (a.den : Int)) (d₂ := (b.den : Int)) (by omega) (by omega)
  rw [Rat.num_divInt_den, Rat.num_divInt_den] at this
  exact this
theorem mul_eq (a b : Rat) : a * b = Rat.divInt (a.num * b.num) (a.den * b.den) := by
  have := Rat.divInt_mul_divInt a.num b.num (d₁ := (a.den : Int)) (d₂ := (b.den : Int))
  rw [Rat.num_divInt_den, Rat.num_divInt_den] at this
  exact this
theorem div_eq (a b : Rat) : a / b = Rat.divInt (a.num * b.den) (a.den * b.num) := by
  rw [Rat.div_def, Rat.inv_def]
  have := Rat.divInt_mul_divInt a.num (b.den : Int) (d₁ := (a.den : Int)) (d₂ := b.num)
  rw [Rat.num_divInt_den] at this
  exact this

/-- q times D is whole -/
def InZ (D : Nat) (q : Rat) : Prop := ∃ k : Int, q * (D : Rat) = (k : Rat)
theorem InZ.add {D : Nat} {a b : Rat} (x : InZ D a) (y : InZ D b) : InZ D (a + b) := by
  obtain ⟨k, hk⟩ := x
  obtain ⟨l, hl⟩ := y
  exact ⟨k + l, by rw [Rat.add_mul, hk, hl, Rat.intCast_add]⟩
theorem InZ.mul {D E : Nat} {a b : Rat} (x : InZ D a) (y : InZ E b) : InZ (D * E) (a * b) := by
  obtain ⟨k, hk⟩ := x
  obtain ⟨l, hl⟩ := y
  refine ⟨k * l, ?_⟩
  rw [Rat.intCast_mul, ← hk, ← hl, Rat.natCast_mul]
  grind
theorem InZ.dvd {D E : Nat} {a : Rat} (x : InZ D a) (h : D ∣ E) : InZ E a := by
  obtain ⟨k, hk⟩ := x
  obtain ⟨m, rfl⟩ := h
  refine ⟨k * (m : Int), ?_⟩
  rw [Rat.natCast_mul, Rat.intCast_mul, ← hk, ← Rat.mul_assoc]
  rfl
theorem InZ.int (D : Nat) (k : Int) : InZ D (k : Rat) := ⟨k * (D : Int), by rw [Rat.intCast_mul]; rfl⟩
theorem InZ.zero (D : Nat) : InZ D 0 := InZ.int D 0
theorem InZ.one (D : Nat) : InZ D 1 := InZ.int D 1
theorem inZ_den (q : Rat) : InZ q.den q := ⟨q.num, by
  have h := Rat.num_divInt_den q
  have hz := q.den_nz
  have e : q = (q.num : Rat) / (q.den : Rat) := by
    rw [div_eq, Rat.num_intCast, Rat.den_intCast, Rat.num_natCast, Rat.den_natCast]
    simp only [Int.natCast_one, Int.mul_one, Int.one_mul]
    exact h.symm
  have hz' : (q.den : Rat) ≠ 0 := by
    intro z
    exact hz (by exact_mod_cast z)
  calc q * (q.den : Rat) = (q.num : Rat) / (q.den : Rat) * (q.den : Rat) := by rw [← e]
    _ = (q.num : Rat) := Rat.div_mul_cancel hz'⟩
theorem InZ.den_dvd {D : Nat} {q : Rat} (x : InZ D q) : q.den ∣ D := by
  obtain ⟨k, hk⟩ := x
  obtain ⟨m, hm⟩ : ∃ m : Int, q.num * (D : Int) = m * (q.den : Int) := by
    refine ⟨k, ?_⟩
    have h2 : q * (q.den : Rat) = (q.num : Rat) := by
      obtain ⟨l, hl⟩ := inZ_den q
      have e : q = (q.num : Rat) / (q.den : Rat) := by
        rw [div_eq, Rat.num_intCast, Rat.den_intCast, Rat.num_natCast, Rat.den_natCast]
        simp only [Int.natCast_one, Int.mul_one, Int.one_mul]
        exact (Rat.num_divInt_den q).symm
      have hz' : (q.den : Rat) ≠ 0 := by
        intro z
        exact q.den_nz (by exact_mod_cast z)
      calc q * (q.den : Rat) = (q.num : Rat) / (q.den : Rat) * (q.den : Rat) := by rw [← e]
        _ = (q.num : Rat) := Rat.div_mul_cancel hz'
    have h3 : ((q.num * (D : Int) : Int) : Rat) = ((k * (q.den : Int) : Int) : Rat) := by
      rw [Rat.intCast_mul, Rat.intCast_mul, ← h2, ← hk]
      show q * (q.den : Rat) * (D : Rat) = q * (D : Rat) * (q.den : Rat)
      grind
    exact_mod_cast h3
  have h1 : (q.den : Int) ∣ q.num * (D : Int) := ⟨m, by rw [hm, Int.mul_comm]⟩
  have h2 : q.den ∣ q.num.natAbs * D := by
    have := Int.natAbs_dvd_natAbs.mpr h1
    rw [Int.natAbs_mul] at this
    simpa using this
  exact Nat.Coprime.dvd_of_dvd_mul_left (Nat.Coprime.symm q.reduced) h2
theorem InZ.den_le {D : Nat} {q : Rat} (x : InZ D q) (h : 0 < D) : q.den ≤ D := Nat.le_of_dvd h x.den_dvd
end L4

/-! L4m: readings, unfolded by simp. -/
namespace L3
open PySem PySem.Spec PyProof.Rows L2
section
variable {n : Sq} {h : Hq} {Q : VQ} {B : Bool → Hq → Prop} {D : EndQ} {A : List PV → Hq → Prop} {R : LIt → Hq → Prop} {N : Sq → Hq → Prop} {t ta tb to ti tv : TQ} {u v : SQ} {b c : BQ} {q : O2} {r : AQ} {x y : PV} {xs ys : List PV} {i j : Nat} {W : XQ} {sp : PQ} {g : GQ} {gs : GsQ} {m : Nat}
@[simp] theorem s_var : varQ i n h Q = ∃ x, n[i]? = some (some x) ∧ Q x h := rfl
@[simp] theorem s_c : cQ x n h Q = Q x h := rfl
@[simp] theorem s_op : opQ q ta tb n h Q = ta n h fun x h1 => tb n h1 fun y h2 => q x y h2 Q := rfl
@[simp] theorem s_b : bQ t n h B = t n h fun x h1 => ∃ k, x = .bl k ∧ B k h1 := rfl
@[simp] theorem s_neg : negQ t n h Q = t n h fun x h1 => ∃ i, x = .int i ∧ Q (.int (-i)) h1 := rfl
@[simp] theorem s_I2 {C : Int → Int → Prop} {f : Int → Int → PV} {i j : Int} : I2 C f (.int i) (.int j) h Q = (C i j ∧ Q (f i j) h) := by
  show (∃ i' j', PV.int i = .int i' ∧ PV.int j = .int j' ∧ C i' j' ∧ Q (f i' j') h) = _
  apply propext
  constructor
  · rintro ⟨_, _, ⟨⟩, ⟨⟩, z⟩
    exact z
  · exact fun z => ⟨_, _, rfl, rfl, z⟩
@[simp] theorem s_I20 {f : Int → Int → PV} {i j : Int} : I20 f (.int i) (.int j) h Q = Q (f i j) h := by
  show (∃ i' j', PV.int i = .int i' ∧ PV.int j = .int j' ∧ Q (f i' j') h) = _
  apply propext
  constructor
  · rintro ⟨_, _, ⟨⟩, ⟨⟩, z⟩
    exact z
  · exact fun z => ⟨_, _, rfl, rfl, z⟩
@[simp] theorem s_none {k : Bool → Bool} : noneQ k t n h Q = t n h fun x h1 => Q (.bl (k (isN x))) h1 := rfl
@[simp] theorem s_noneT {k : Bool → Bool} : noneT k t n h B = t n h fun x h1 => B (k (isN x)) h1 := rfl
@[simp] theorem isN_non : isN .non = true := rfl
@[simp] theorem isN_bl {k : Bool} : isN (.bl k) = false := rfl
@[simp] theorem isN_int {k : Int} : isN (.int k) = false := rfl
@[simp] theorem isN_str {k : Str} : isN (.str k) = false := rfl
@[simp] theorem isN_tup {k : List PV} : isN (.tup k) = false := rfl
@[simp] theorem isN_fl {k : List PV} : isN (.fl k) = false := rfl
@[simp] theorem isN_ref {k : Addr} : isN (.ref k) = false := rfl
@[simp] theorem s_andT : andT b c n h B = b n h fun k h1 => if k = true then c n h1 B else B false h1 := rfl
@[simp] theorem s_orT : orT b c n h B = b n h fun k h1 => if k = true then B true h1 else c n h1 B := rfl
@[simp] theorem s_notT : notT b n h B = b n h fun k h1 => B (!k) h1 := rfl
@[simp] theorem s_andV : andV ta tb n h Q = ta n h fun x h1 => ∃ c, x = .bl c ∧ if c = true then tb n h1 Q else Q (.bl false) h1 := rfl
@[simp] theorem s_orV : orV ta tb n h Q = ta n h fun x h1 => ∃ c, x = .bl c ∧ if c = true then Q (.bl true) h1 else tb n h1 Q := rfl
@[simp] theorem s_notV : notV ta n h Q = ta n h fun x h1 => ∃ c, x = .bl c ∧ Q (.bl (!c)) h1 := rfl
@[simp] theorem s_if : ifQ b ta tb n h Q = b n h fun c h1 => if c = true then ta n h1 Q else tb n h1 Q := rfl
@[simp] theorem s_nil : nilQ n h A = A [] h := rfl
@[simp] theorem s_cons : consQ ta r n h A = ta n h fun x h1 => r n h1 fun xs h2 => A (x :: xs) h2 := rfl
@[simp] theorem s_tup : tupQ r n h Q = r n h fun xs h1 => xs.length ≤ sizeLine ∧ Q (.tup xs) h1 := rfl
@[simp] theorem s_lst : lstQ r n h Q = r n h fun xs h1 => xs.length ≤ sizeLine ∧ ∀ p, h1 p = none → Q (.ref p) (up h1 p (.lst xs)) := rfl
@[simp] theorem s_ix {i : Int} : ixQ x (.int i) h Q = ∃ xs z, seqOf h x = some xs ∧ atQ xs i = some z ∧ Q z h := by
  show (∃ xs i' z, seqOf h x = some xs ∧ PV.int i = .int i' ∧ atQ xs i' = some z ∧ Q z h) = _
  apply propext
  constructor
  · rintro ⟨xs, _, z, e, ⟨⟩, e2, w⟩
    exact ⟨xs, z, e, e2, w⟩
  · rintro ⟨xs, z, e, e2, w⟩
    exact ⟨xs, i, z, e, rfl, e2, w⟩
@[simp] theorem s_call {f : List PV → Hq → VQ → Prop} : callQ f r n h Q = r n h fun xs h1 => f xs h1 Q := rfl
@[simp] theorem s_fc : fcQ sp m W r n h Q = r n h fun xs h1 => sp (xs ++ List.replicate m .non) h1 Q W := rfl
@[simp] theorem s_kc {is : List Nat} : kcallQ sp m is W r n h Q = r n h fun xs h1 => xs.length = m ∧ sp (pick .non is xs) h1 Q W := rfl
@[simp] theorem s_isi {s : String} : isiQ s t n h Q = t n h fun x h1 => ∃ k, tyOf h1 x = some k ∧ Q (.bl (isTy s k)) h1 := rfl
@[simp] theorem s_next : nextS D n h = D.nx n h := rfl
@[simp] theorem s_seq : seqS u v D n h = u { D with nx := v D } n h := rfl
@[simp] theorem s_drop : dropS t D n h = t n h fun _ h1 => D.nx n h1 := rfl
@[simp] theorem s_ret : retS t D n h = t n h D.rt := rfl
@[simp] theorem s_ifS : ifS b u v D n h = b n h fun k h1 => if k = true then u D n h1 else v D n h1 := rfl
@[simp] theorem s_asg : asgS t g D n h = t n h fun x h1 => g x n h1 D.nx := rfl
@[simp] theorem s_par : parS i j ta tb D n h = ta n h fun x h1 => tb n h1 fun y h2 => D.nx ((n.set i (some x)).set j (some y)) h2 := rfl
@[simp] theorem s_name : nameG i x n h N = N (n.set i (some x)) h := rfl
@[simp] theorem s_nilG : nilG xs n h N = (xs = [] ∧ N n h) := rfl
@[simp] theorem s_consG : consG g gs (x :: xs) n h N = g x n h fun n' h' => gs xs n' h' N := by
  show (∃ y r, x :: xs = y :: r ∧ g y n h fun n' h' => gs r n' h' N) = _
  apply propext
  constructor
  · rintro ⟨_, _, ⟨⟩, z⟩
    exact z
  · exact fun z => ⟨_, _, rfl, z⟩
@[simp] theorem s_tupG : tupG m gs (.tup xs) n h N = (xs.length = m ∧ gs xs n h N) := by
  show (∃ ys, PV.tup xs = .tup ys ∧ ys.length = m ∧ gs ys n h N) = _
  apply propext
  constructor
  · rintro ⟨_, ⟨⟩, z⟩
    exact z
  · exact fun z => ⟨_, rfl, z⟩
@[simp] theorem s_raise {C : Addr} {f : Str} : raiseS C f W r D n h = r n h fun xs h1 => ∃ x, xs = [x] ∧ W (.ref C) (some (f, x)) h1 := rfl
@[simp] theorem s_len : lenQ [x] h Q = ∃ ys, seqOf h x = some ys ∧ Q (.int ys.length) h := by
  show (∃ x' ys, [x] = [x'] ∧ seqOf h x' = some ys ∧ Q (.int ys.length) h) = _
  apply propext
  constructor
  · rintro ⟨_, _, ⟨⟩, z⟩
    exact ⟨_, z⟩
  · rintro ⟨_, z⟩
    exact ⟨_, _, rfl, z⟩
@[simp] theorem s_abs {i : Int} : absQ [.int i] h Q = Q (.int (i.natAbs : Nat)) h := by
  show (∃ j, [PV.int i] = [PV.int j] ∧ Q (.int (j.natAbs : Nat)) h) = _
  apply propext
  constructor
  · rintro ⟨_, ⟨⟩, z⟩
    exact z
  · exact fun z => ⟨_, rfl, z⟩
@[simp] theorem s_min {i j : Int} : minQ [.int i, .int j] h Q = Q (.int (min i j)) h := by
  show (∃ k l, [PV.int i, PV.int j] = [PV.int k, PV.int l] ∧ Q (.int (min k l)) h) = _
  apply propext
  constructor
  · rintro ⟨_, _, ⟨⟩, z⟩
    exact z
  · exact fun z => ⟨_, _, rfl, z⟩
@[simp] theorem s_max {i j : Int} : maxQ [.int i, .int j] h Q = Q (.int (max i j)) h := by
  show (∃ k l, [PV.int i, PV.int j] = [PV.int k, PV.int l] ∧ Q (.int (max k l)) h) = _
  apply propext
  constructor
  · rintro ⟨_, _, ⟨⟩, z⟩
    exact z
  · exact fun z => ⟨_, _, rfl, z⟩
@[simp] theorem s_int {i : Int} : intQ [.int i] h Q = Q (.int i) h := by
  show (∃ x' j, [PV.int i] = [x'] ∧ intOf x' = some j ∧ Q (.int j) h) = _
  apply propext
  constructor
  · rintro ⟨_, _, ⟨⟩, ⟨⟩, z⟩
    exact z
  · exact fun z => ⟨_, _, rfl, rfl, z⟩
@[simp] theorem s_intB {k : Bool} : intQ [.bl k] h Q = Q (.int (if k then 1 else 0)) h := by
  show (∃ x' j, [PV.bl k] = [x'] ∧ intOf x' = some j ∧ Q (.int j) h) = _
  apply propext
  constructor
  · rintro ⟨_, _, ⟨⟩, ⟨⟩, z⟩
    exact z
  · exact fun z => ⟨_, _, rfl, rfl, z⟩
@[simp] theorem s_tuple : tupleQ [x] h Q = ∃ ys, seqOf h x = some ys ∧ Q (.tup ys) h := by
  show (∃ x' ys, [x] = [x'] ∧ seqOf h x' = some ys ∧ Q (.tup ys) h) = _
  apply propext
  constructor
  · rintro ⟨_, _, ⟨⟩, z⟩
    exact ⟨_, z⟩
  · rintro ⟨_, z⟩
    exact ⟨_, _, rfl, z⟩
@[simp] theorem s_seqtup : seqOf h (.tup xs) = some xs := rfl
@[simp] theorem s_seqfl : seqOf h (.fl xs) = some xs := rfl
@[simp] theorem s_for {wi : IQ} : forS wi g u D n h = wi n h fun L h1 => forQ L.st g u D L.items n h1 := rfl
@[simp] theorem s_forN {st : Hq → Prop} : forQ st g u D [] n h = (st h ∧ D.nx n h) := rfl
@[simp] theorem s_seqI : seqI t n h R = t n h fun x h1 => ∃ xs, seqOf h1 x = some xs ∧ R ⟨xs, stOf x xs⟩ h1 := rfl
@[simp] theorem s_stT : stOf (.tup xs) ys h = (xs = ys) := by
  show (some xs = some ys) = _
  rw [Option.some.injEq]
@[simp] theorem s_stF : stOf (.fl xs) ys h = (xs = ys) := by
  show (some xs = some ys) = _
  rw [Option.some.injEq]
@[simp] theorem s_rg1 : rg1I t n h R = t n h fun x h1 => ∃ j, x = .int j ∧ (-(2 ^ 62) ≤ j ∧ j < 2 ^ 62) ∧ R ⟨rgItems 0 j.toNat, fun _ => True⟩ h1 := rfl
@[simp] theorem s_at0 : atQ (x :: xs) 0 = some x := rfl
@[simp] theorem s_at1 : atQ (x :: y :: xs) 1 = some y := rfl
@[simp] theorem s_at2 {z : PV} : atQ (x :: y :: z :: xs) 2 = some z := rfl
theorem s_forC {st : Hq → Prop} : forQ st g u D (x :: xs) n h = (st h ∧ g x n h fun n1 h1 => u { D with nx := wk (forQ st g u D xs), ct := wk (forQ st g u D xs), bk := D.nx } n1 h1) := rfl
theorem wk_same {P : Sq → Hq → Prop} (p : P n h) : wk P n h := ⟨h, Sub.refl h, p⟩
theorem s_eqD {k : Bool → Bool} {d e : PyData} (h1 : datQ h x = some d) (h2 : datQ h y = some e) (h3 : SeqAt.shaped d = true) (h4 : SeqAt.shaped e = true) (q : Q (.bl (k (PyData.eqv d e))) h) : eqDQ k x y h Q := ⟨d, e, h1, h2, h3, h4, q⟩
@[simp] theorem s_eqI {k : Bool → Bool} {i j : Int} : eqDQ k (.int i) (.int j) h Q = Q (.bl (k (i == j))) h := by
  show (∃ d e, some (PyData.int i) = some d ∧ some (PyData.int j) = some e ∧ _ ∧ _ ∧ _) = _
  apply propext
  constructor
  · rintro ⟨_, _, ⟨⟩, ⟨⟩, _, _, z⟩
    exact z
  · exact fun z => ⟨_, _, rfl, rfl, rfl, rfl, z⟩
@[simp] theorem st1 {x : PV} {N : List Str} {a : Str} : startQ [a] [x] = [some x] := rfl
@[simp] theorem st_cons {a : Str} {N : List Str} : startQ (a :: N) (x :: xs) = some x :: startQ N xs := by
  unfold startQ
  simp
@[simp] theorem st_nil {a : Str} {N : List Str} : startQ (a :: N) [] = none :: startQ N [] := by
  unfold startQ
  simp [List.replicate_succ]
@[simp] theorem st_nn : startQ [] [] = [] := rfl
end
end L3

/-! L4s: what each def promises (law k60). -/
namespace L3
open PySem PySem.Spec PyProof.Rows L2 L4

def frac (q : Rat) : PV := .tup [.int q.num, .int q.den]
/-- small enough to be reckoned with -/
def Fits (q : Rat) : Prop := q.num.natAbs < 2 ^ 20000 ∧ q.den < 2 ^ 9000
abbrev W3 := Nat × Nat × Rat
def wW (w : W3) : Wr := (((w.1 : Int), (w.2.1 : Int)), (w.2.2.num, (w.2.2.den : Int)))
def wP (w : W3) : PV := wPV (wW w)
def netP (n p : Nat) (ws : List W3) : PV := .tup [.int n, .int p, .tup (ws.map wP)]
structure GoodNet (n p : Nat) (ws : List W3) : Prop where
  n48 : n ≤ 48
  pn : p ≤ n
  p8 : p ≤ 8
  len : ws.length ≤ 40
  ok : ∀ w ∈ ws, w.1 < w.2.1 ∧ w.2.1 < n ∧ 0 < w.2.2
  srt : ws.Pairwise fun x y => ltW (wW y) (wW x) = false
def SzNet (ws : List W3) : Prop := ∀ w ∈ ws, w.2.2.num.natAbs ≤ 10 ^ 6 ∧ w.2.2.den ≤ 10 ^ 6
def touch (v : Nat) (w : W3) : Bool := w.1 == v || w.2.1 == v
def wt (ws : List W3) (v : Nat) : Rat := ((ws.filter (touch v)).map (·.2.2)).sum
/-- what comes to v along the wires of ws, if f u is at u by strength -/
def inflow (ws : List W3) (f : Nat → Rat) (v : Nat) : Rat := (ws.map fun w => if w.1 = v then f w.2.1 * w.2.2 else if w.2.1 = v then f w.1 * w.2.2 else 0).sum
def stepR (ws : List W3) (c : Nat → Rat) (v : Nat) : Rat := (if wt ws v = 0 then c v else 0) + inflow ws (fun u => c u / wt ws u) v
def walkR (ws : List W3) (a : Nat) : Nat → Nat → Rat
  | 0 => fun v => if v = a then 1 else 0
  | k + 1 => stepR ws (walkR ws a k)
/-- the shares of a step have the denominator D -/
structure DenOk (n : Nat) (ws : List W3) (D : Nat) : Prop where
  pos : 0 < D
  den : ∀ v < n, ∀ w ∈ ws, touch v w = true → InZ D (w.2.2 / wt ws v)
def fracs (n : Nat) (f : Nat → Rat) : List PV := (List.range n).map fun v => frac (f v)

/-! ### values that aren't whole -/
def noRef : PV → Bool
  | .ref _ => false
  | _ => true
def loQ : PV → Int → Bool
  | .int k, i => decide (k ≤ i)
  | _, _ => true
def hiQ : PV → Int → Bool
  | .int k, i => decide (i ≤ k)
  | _, _ => true
def bdQ : PV → Bool
  | .int _ => true
  | .non => true
  | _ => false
def wholeQ (l m : PV) : PV → Bool
  | .int i => loQ l i && hiQ m i
  | _ => false
def rowQ (n : PV) : PV → Bool
  | .tup xs => match n with
    | .int k => decide ((xs.length : Int) = k)
    | _ => true
  | _ => false

/-! ### the program's defs -/
section
def sp_is_whole (c : Str → Addr) : PQ := fun xs h Q E => ∃ x l m, xs = [x, l, m] ∧ noRef x = true ∧ bdQ l = true ∧ bdQ m = true ∧ Q (.bl (wholeQ l m x)) h
def sp_is_row (c : Str → Addr) : PQ := fun xs h Q E => ∃ x n, xs = [x, n] ∧ noRef x = true ∧ bdQ n = true ∧ Q (.bl (rowQ n x)) h
def sp_gcd (c : Str → Addr) : PQ := fun xs h Q E => ∃ a b : Int, xs = [.int a, .int b] ∧ Q (.int (Int.gcd a b : Nat)) h
def sp_is_fraction (c : Str → Addr) : PQ := fun xs h Q E => ∃ q : Rat, xs = [frac q] ∧ Q (.bl true) h
def sp_ratio (c : Str → Addr) : PQ := fun xs h Q E => ∃ a b : Int, xs = [.int a, .int b] ∧ b ≠ 0 ∧ b.natAbs < 2 ^ 9000 ∧ Q (frac (Rat.divInt a b)) h
def sp_ratio_sum (c : Str → Addr) : PQ := fun xs h Q E => ∃ a b : Rat, xs = [frac a, frac b] ∧ Fits a ∧ Fits b ∧ a.den * b.den < 2 ^ 9000 ∧ Q (frac (a + b)) h
def sp_ratio_times (c : Str → Addr) : PQ := fun xs h Q E => ∃ a b : Rat, xs = [frac a, frac b] ∧ Fits a ∧ Fits b ∧ a.den * b.den < 2 ^ 9000 ∧ Q (frac (a * b)) h
def sp_ratio_over (c : Str → Addr) : PQ := fun xs h Q E => ∃ a b : Rat, xs = [frac a, frac b] ∧ Fits a ∧ Fits b ∧ b ≠ 0 ∧ a.den * b.num.natAbs < 2 ^ 9000 ∧ Q (frac (a / b)) h
/-- the sums that arise one after another fit -/
def SumsFit (qs : List Rat) : Prop := ∀ k q, qs[k]? = some q → Fits (qs.take k).sum ∧ Fits q ∧ (qs.take k).sum.den * q.den < 2 ^ 9000
def sp_ratio_total (c : Str → Addr) : PQ := fun xs h Q E => ∃ x qs, xs = [x] ∧ seqOf h x = some (qs.map frac) ∧ SumsFit qs ∧ Q (frac qs.sum) h
def sp_is_wire (c : Str → Addr) : PQ := fun xs h Q E => ∃ (n : Nat) (w : W3), xs = [.int n, wP w] ∧ Q (.bl (decide (w.1 < w.2.1 ∧ w.2.1 < n ∧ 0 < w.2.2))) h
def faultOf (net place : PV) : Prop := (net = .non ∧ place = .str "form") ∨ (∃ n p ws, net = netP n p ws ∧ 48 < n ∧ place = .str "nodes") ∨ (∃ n p ws, net = netP n p ws ∧ n ≤ 48 ∧ (n < p ∨ 8 < p) ∧ place = .str "ports") ∨
  (∃ n p w, net = netP n p [w] ∧ n ≤ 48 ∧ p ≤ n ∧ p ≤ 8 ∧ w.2.2 ≤ 0 ∧ place = .int 0)
def sp_net_fault (c : Str → Addr) : PQ := fun xs h Q E => ∃ net, xs = [net] ∧ ((∃ n p ws, net = netP n p ws ∧ GoodNet n p ws ∧ Q (.tup []) h) ∨ (∃ place, faultOf net place ∧ Q (.tup [place]) h))
def sp_need_net (c : Str → Addr) : PQ := fun xs h Q E => ∃ net, xs = [net] ∧ ((∃ n p ws, net = netP n p ws ∧ GoodNet n p ws ∧ Q net h) ∨ (∃ place, faultOf net place ∧ E (.ref (c "BadNet")) (some ("place", place)) h))
def at' (ws : List W3) (v : Nat) : List PV := ((List.range ws.length).filter fun i => touch v (ws.getD i (0, 0, 0))).map fun i => PV.int (i : Nat)
def sp_wires_at (c : Str → Addr) : PQ := fun xs h Q E => ∃ n p ws, xs = [netP n p ws] ∧ GoodNet n p ws ∧ Q (.fl ((List.range n).map fun v => .fl (at' ws v))) h
def sp_weights_of (c : Str → Addr) : PQ := fun xs h Q E => ∃ n p ws, xs = [netP n p ws] ∧ GoodNet n p ws ∧ SzNet ws ∧ Q (.fl (fracs n (wt ws))) h
def sp_node_weights (c : Str → Addr) : PQ := fun xs h Q E => ∃ net, xs = [net] ∧ ((∃ n p ws, net = netP n p ws ∧ GoodNet n p ws ∧ SzNet ws ∧ Q (.tup (fracs n (wt ws))) h) ∨ (∃ place, faultOf net place ∧ E (.ref (c "BadNet")) (some ("place", place)) h))
def sp_need_node (c : Str → Addr) : PQ := fun xs h Q E => ∃ n p ws x, xs = [netP n p ws, x] ∧ noRef x = true ∧ (wholeQ (.int 0) (.int ((n : Int) - 1)) x = true → Q x h) ∧ (wholeQ (.int 0) (.int ((n : Int) - 1)) x = false → E (.ref (c "BadNodes")) (some ("value", x)) h)
/-- chances at the nodes, all of the denominator e -/
structure Chs (n e : Nat) (f : Nat → Rat) : Prop where
  pos : 0 < e
  ge : ∀ v < n, 0 ≤ f v
  le : ∀ v < n, f v ≤ 1
  den : ∀ v < n, InZ e (f v)
def StepFits (D e : Nat) : Prop := e * D * (e * D) < 2 ^ 9000 ∧ e * 2 ^ 1000 < 2 ^ 9000
def sp_stepped_chances (c : Str → Addr) : PQ := fun xs h Q E => ∃ n p ws wx cx f D e, xs = [netP n p ws, wx, cx] ∧ GoodNet n p ws ∧ SzNet ws ∧ lstOf h wx = some (fracs n (wt ws)) ∧ lstOf h cx = some (fracs n f) ∧ DenOk n ws D ∧ Chs n e f ∧ StepFits D e ∧ Q (.fl (fracs n (stepR ws f))) h
def WalkFits (D k : Nat) : Prop := D ^ k * D ^ k < 2 ^ 9000 ∧ D ^ k * 2 ^ 1000 < 2 ^ 9000
def sp_chances_after (c : Str → Addr) : PQ := fun xs h Q E => ∃ net x y, xs = [net, x, y] ∧ noRef x = true ∧ noRef y = true ∧
  ((∃ n p ws a k D, net = netP n p ws ∧ GoodNet n p ws ∧ SzNet ws ∧ a < n ∧ x = .int (a : Nat) ∧ y = .int (k : Nat) ∧ k ≤ 60 ∧ DenOk n ws D ∧ WalkFits D k ∧ Q (.tup (fracs n (walkR ws a k))) h) ∨
   (∃ place, faultOf net place ∧ E (.ref (c "BadNet")) (some ("place", place)) h) ∨
   (∃ n p ws, net = netP n p ws ∧ GoodNet n p ws ∧ wholeQ (.int 0) (.int ((n : Int) - 1)) x = false ∧ E (.ref (c "BadNodes")) (some ("value", x)) h) ∨
   (∃ n p ws, net = netP n p ws ∧ GoodNet n p ws ∧ wholeQ (.int 0) (.int ((n : Int) - 1)) x = true ∧ wholeQ (.int 0) (.int 60) y = false ∧ E (.ref (c "BadNumber")) (some ("value", y)) h))
def sp_step_chances (c : Str → Addr) : PQ := fun xs h Q E => ∃ net x, xs = [net, x] ∧ sp_chances_after c [net, x, .int 1] h Q E

/-! ### the law's draws -/
/-- the draws' state: m the dict, ag its great cells; at most k draws so far -/
def DS (h : Hq) (m ag : Addr) (k : Nat) : Prop := ∃ (cs gs : List Int) (s : Int), h m = some (.dic [(.inr "cells", .fl (cs.map .int)), (.inr "great", .ref ag), (.inr "spot", .int s)]) ∧ h ag = some (.lst (gs.map .int)) ∧ m ≠ ag ∧ cs.length = 64 ∧ (∀ c ∈ cs, 0 ≤ c ∧ c < 2 ^ 31) ∧ gs.length ≤ 63 ∧ 0 ≤ s ∧ s ≤ k
/-- what may have changed since h: the draws' state -/
structure Mv (h h' : Hq) (m ag : Addr) (k : Nat) : Prop where
  ds : DS h' m ag k
  kp : ∀ b o, b ≠ m → b ≠ ag → h b = some o → h' b = some o
def sp_law_mixed (c : Str → Addr) : PQ := fun xs h Q E => ∃ (cell n : Int), xs = [.int cell, .int n] ∧ cell.natAbs < 2 ^ 100 ∧ 0 ≤ n ∧ n < 2 ^ 61 ∧ ∀ r : Int, 0 ≤ r → r < 2 ^ 31 → Q (.int r) h
def sp_law_folded (c : Str → Addr) : PQ := fun xs h Q E => ∃ (x : PV) (ns : List Int), xs = [x] ∧ lstOf h x = some (ns.map .int) ∧ ns.length ≤ 63 ∧ ∀ cs : List Int, cs.length = 64 → (∀ c ∈ cs, 0 ≤ c ∧ c < 2 ^ 31) → Q (.fl (cs.map .int)) h
def sp_law_draw (c : Str → Addr) : PQ := fun xs h Q E => ∃ (m ag : Addr) (k : Nat) (lim : Int), xs = [.ref m, .int lim] ∧ DS h m ag k ∧ k < 2 ^ 60 ∧ 0 < lim ∧ lim < 2 ^ 60 ∧ ∀ (i : Nat) h', (i : Int) < lim → Mv h h' m ag (k + 1) → Q (.int (i : Nat)) h'
def sp_law_begun (c : Str → Addr) : PQ := fun xs h Q E => ∃ (x : PV) (ns : List Int), xs = [x] ∧ lstOf h x = some (ns.map .int) ∧ ns.length ≤ 63 ∧ ∀ m ag h', DS h' m ag 0 → (∀ b o, h b = some o → b ≠ m ∧ b ≠ ag ∧ h' b = some o) → Q (.ref m) h'
def sp_law_of (c : Str → Addr) : PQ := fun xs h Q E => ∃ m ag k p ys, xs = [.ref m, .ref p] ∧ DS h m ag k ∧ k < 2 ^ 60 ∧ p ≠ m ∧ p ≠ ag ∧ h p = some (.lst ys) ∧ 0 < ys.length ∧ ys.length < 2 ^ 60 ∧ ∀ y ∈ ys, ∀ h', Mv h h' m ag (k + 1) → Q y h'
/-! ### alike -/
def scal : PV → Bool
  | .non => true
  | .bl _ => true
  | .int _ => true
  | .str s => SeqAt.shaped (.str s)
  | _ => false
def isTup : PV → Bool
  | .tup _ => true
  | _ => false
def lk (h : Hq) : Nat → PV → PV → Prop
  | 0, _, _ => False
  | d + 1, got, due => (got = due ∧ scal due = true) ∨ (∃ (xs ys : List PV), seqOf h got = some xs ∧ seqOf h due = some ys ∧ isTup got = isTup due ∧ xs.length = ys.length ∧ ys.length < 2 ^ 60 ∧ ∀ (i : Nat) (x y : PV), xs[i]? = some x → ys[i]? = some y → lk h d x y)
def sp_law_like (c : Str → Addr) (d : Nat) : PQ := fun xs h Q E => ∃ got due, xs = [got, due] ∧ lk h d got due ∧ Q (.bl true) h
def sp_law_order (c : Str → Addr) : PQ := fun xs h Q E => ∃ (m ag : Addr) (k : Nat) (n : Nat), xs = [.ref m, .int n] ∧ DS h m ag k ∧ k + n < 2 ^ 60 ∧ n ≤ 2 ^ 20 ∧ ∀ (l : List Nat) h', l.Perm (List.range n) → Mv h h' m ag (k + n) → Q (.fl (l.map fun i => .int (i : Nat))) h'
def sp_law_common (c : Str → Addr) : PQ := sp_gcd c
def sp_law_ratio (c : Str → Addr) : PQ := fun xs h Q E => ∃ a b : Int, xs = [.int a, .int b] ∧ 0 < b ∧ b.natAbs < 2 ^ 9000 ∧ Q (frac (Rat.divInt a b)) h
def sp_law_sum (c : Str → Addr) : PQ := fun xs h Q E => ∃ x qs, xs = [x] ∧ seqOf h x = some (qs.map frac) ∧ SumsFit qs ∧ Q (frac qs.sum) h
def ProdsFit (qs : List Rat) : Prop := ∀ k q, qs[k]? = some q → Fits ((qs.take k).foldl (· * ·) 1) ∧ Fits q ∧ ((qs.take k).foldl (· * ·) 1).den * q.den < 2 ^ 9000
def sp_law_times (c : Str → Addr) : PQ := fun xs h Q E => ∃ (x : PV) (a b : Rat), xs = [x] ∧ seqOf h x = some [frac a, frac b] ∧ Fits a ∧ Fits b ∧ a.den * b.den < 2 ^ 9000 ∧ Q (frac (a * b)) h
def sp_law_over (c : Str → Addr) : PQ := fun xs h Q E => ∃ a b : Rat, xs = [frac a, frac b] ∧ Fits a ∧ Fits b ∧ 0 < b ∧ a.den * b.num.natAbs < 2 ^ 9000 ∧ Q (frac (a / b)) h
def StrOk (s : Rat) : Prop := 0 < s ∧ s.num.natAbs ≤ 10 ^ 6 ∧ s.den ≤ 10 ^ 6
def sp_law_strength (c : Str → Addr) : PQ := fun xs h Q E => ∃ m ag k, xs = [.ref m] ∧ DS h m ag k ∧ k + 3 < 2 ^ 60 ∧ ∀ s h', StrOk s → Mv h h' m ag (k + 3) → Q (frac s) h'
def sp_law_net (c : Str → Addr) : PQ := fun xs h Q E => ∃ (m ag : Addr) (k : Nat) (n p w : Nat), xs = [.ref m, .int n, .int p, .int w] ∧ DS h m ag k ∧ k + 1000 < 2 ^ 60 ∧ 0 < n ∧ n ≤ 48 ∧ p ≤ n ∧ p ≤ 8 ∧ w ≤ 40 ∧ ∀ ws h', GoodNet n p ws → SzNet ws → ws.length ≤ w → Mv h h' m ag (k + 1000) → Q (netP n p ws) h'
def sp_law_held (c : Str → Addr) : PQ := fun xs h Q E => ∃ (m ag : Addr) (k : Nat) (n p w : Nat), xs = [.ref m, .int n, .int p, .int w] ∧ DS h m ag k ∧ k + 1000 < 2 ^ 60 ∧ 0 < p ∧ n ≤ 48 ∧ p ≤ n ∧ p ≤ 8 ∧ n - p ≤ w ∧ w ≤ 40 ∧ ∀ ws h', GoodNet n p ws → SzNet ws → ws.length ≤ w → Mv h h' m ag (k + 1000) → Q (netP n p ws) h'
def sp_law_weights (c : Str → Addr) : PQ := fun xs h Q E => ∃ n p ws, xs = [netP n p ws] ∧ GoodNet n p ws ∧ SzNet ws ∧ Q (.fl (fracs n (wt ws))) h
def sp_law_any_net (c : Str → Addr) : PQ := fun xs h Q E => ∃ m ag k, xs = [.ref m] ∧ DS h m ag k ∧ k + 2000 < 2 ^ 60 ∧ ∀ n p ws h', 0 < n → n ≤ 6 → GoodNet n p ws → SzNet ws → ws.length ≤ 9 → Mv h h' m ag (k + 2000) → Q (netP n p ws) h'
def sp_law_great_net (c : Str → Addr) : PQ := fun xs h Q E => ∃ m ag k, xs = [.ref m] ∧ DS h m ag k ∧ k + 2000 < 2 ^ 60 ∧ ∀ n p ws h', 0 < n → n ≤ 12 → GoodNet n p ws → (∀ w ∈ ws, w.2.2.num.natAbs ≤ 4 ∧ w.2.2.den ≤ 4) → ws.length ≤ 17 → Mv h h' m ag (k + 2000) → Q (netP n p ws) h'
def sp_law_shared (c : Str → Addr) : PQ := fun xs h Q E => ∃ n p ws cx f D e, xs = [netP n p ws, cx] ∧ GoodNet n p ws ∧ SzNet ws ∧ lstOf h cx = some (fracs n f) ∧ DenOk n ws D ∧ Chs n e f ∧ StepFits D e ∧ Q (.fl (fracs n (stepR ws f))) h
def sp_law_after (c : Str → Addr) : PQ := fun xs h Q E => ∃ (n p : Nat) (ws : List W3) (a k D : Nat), xs = [netP n p ws, .int a, .int k] ∧ GoodNet n p ws ∧ SzNet ws ∧ a < n ∧ k ≤ 60 ∧ DenOk n ws D ∧ WalkFits D k ∧ Q (.tup (fracs n (walkR ws a k))) h
def sp_law_heard (c : Str → Addr) : PQ := fun xs h Q E => False
def sp_law_right (c : Str → Addr) : PQ := fun xs h Q E => ∃ m ag k n p ws D, xs = [.ref m, netP n p ws] ∧ DS h m ag k ∧ k + 3 < 2 ^ 60 ∧ 0 < n ∧ GoodNet n p ws ∧ SzNet ws ∧ DenOk n ws D ∧ (∀ j ≤ 9, WalkFits D j) ∧ ∀ h', Mv h h' m ag (k + 3) → Q (.bl true) h'
def sp_law_refused_right (c : Str → Addr) : PQ := fun xs h Q E => ∃ m ag k n p ws, xs = [.ref m, netP n p ws] ∧ DS h m ag k ∧ k + 3 < 2 ^ 60 ∧ 0 < n ∧ GoodNet n p ws ∧ SzNet ws ∧ ∀ h', Mv h h' m ag (k + 3) → Q (.bl true) h'
def sp_law (c : Str → Addr) : PQ := fun xs h Q E => ∃ (x : PV) (ns : List Int), xs = [x] ∧ lstOf h x = some (ns.map .int) ∧ ns.length ≤ 63 ∧ ∀ h', Q (.bl true) h'
end
end L3

/-! L4l: how many arguments each promise takes. -/
namespace L3
open PySem PySem.Spec PyProof.Rows L2 L4
theorem len_is_whole (c : Str → Addr) (xs : List PV) (h : Hq) (Q : VQ) (E : XQ) (z : sp_is_whole c xs h Q E) : xs.length = 3 := by
  revert z
  unfold sp_is_whole
  simp only [forall_exists_index, and_imp]
  intros
  subst_vars
  rfl
theorem len_is_row (c : Str → Addr) (xs : List PV) (h : Hq) (Q : VQ) (E : XQ) (z : sp_is_row c xs h Q E) : xs.length = 2 := by
  revert z
  unfold sp_is_row
  simp only [forall_exists_index, and_imp]
  intros
  subst_vars
  rfl
theorem len_gcd (c : Str → Addr) (xs : List PV) (h : Hq) (Q : VQ) (E : XQ) (z : sp_gcd c xs h Q E) : xs.length = 2 := by
  revert z
  unfold sp_gcd
  simp only [forall_exists_index, and_imp]
  intros
  subst_vars
  rfl
theorem len_is_fraction (c : Str → Addr) (xs : List PV) (h : Hq) (Q : VQ) (E : XQ) (z : sp_is_fraction c xs h Q E) : xs.length = 1 := by
  revert z
  unfold sp_is_fraction
  simp only [forall_exists_index, and_imp]
  intros
  subst_vars
  rfl
theorem len_ratio (c : Str → Addr) (xs : List PV) (h : Hq) (Q : VQ) (E : XQ) (z : sp_ratio c xs h Q E) : xs.length = 2 := by
  revert z
  unfold sp_ratio
  simp only [forall_exists_index, and_imp]
  intros
  subst_vars
  rfl
theorem len_ratio_sum (c : Str → Addr) (xs : List PV) (h : Hq) (Q : VQ) (E : XQ) (z : sp_ratio_sum c xs h Q E) : xs.length = 2 := by
  revert z
  unfold sp_ratio_sum
  simp only [forall_exists_index, and_imp]
  intros
  subst_vars
  rfl
theorem len_ratio_times (c : Str → Addr) (xs : List PV) (h : Hq) (Q : VQ) (E : XQ) (z : sp_ratio_times c xs h Q E) : xs.length = 2 := by
  revert z
  unfold sp_ratio_times
  simp only [forall_exists_index, and_imp]
  intros
  subst_vars
  rfl
theorem len_ratio_over (c : Str → Addr) (xs : List PV) (h : Hq) (Q : VQ) (E : XQ) (z : sp_ratio_over c xs h Q E) : xs.length = 2 := by
  revert z
  unfold sp_ratio_over
  simp only [forall_exists_index, and_imp]
  intros
  subst_vars
  rfl
theorem len_ratio_total (c : Str → Addr) (xs : List PV) (h : Hq) (Q : VQ) (E : XQ) (z : sp_ratio_total c xs h Q E) : xs.length = 1 := by
  revert z
  unfold sp_ratio_total
  simp only [forall_exists_index, and_imp]
  intros
  subst_vars
  rfl
theorem len_is_wire (c : Str → Addr) (xs : List PV) (h : Hq) (Q : VQ) (E : XQ) (z : sp_is_wire c xs h Q E) : xs.length = 2 := by
  revert z
  unfold sp_is_wire
  simp only [forall_exists_index, and_imp]
  intros
  subst_vars
  rfl
theorem len_net_fault (c : Str → Addr) (xs : List PV) (h : Hq) (Q : VQ) (E : XQ) (z : sp_net_fault c xs h Q E) : xs.length = 1 := by
  revert z
  unfold sp_net_fault
  simp only [forall_exists_index, and_imp]
  intros
  subst_vars
  rfl
theorem len_need_net (c : Str → Addr) (xs : List PV) (h : Hq) (Q : VQ) (E : XQ) (z : sp_need_net c xs h Q E) : xs.length = 1 := by
  revert z
  unfold sp_need_net
  simp only [forall_exists_index, and_imp]
  intros
  subst_vars
  rfl
theorem len_wires_at (c : Str → Addr) (xs : List PV) (h : Hq) (Q : VQ) (E : XQ) (z : sp_wires_at c xs h Q E) : xs.length = 1 := by
  revert z
  unfold sp_wires_at
  simp only [forall_exists_index, and_imp]
  intros
  subst_vars
  rfl
theorem len_weights_of (c : Str → Addr) (xs : List PV) (h : Hq) (Q : VQ) (E : XQ) (z : sp_weights_of c xs h Q E) : xs.length = 1 := by
  revert z
  unfold sp_weights_of
  simp only [forall_exists_index, and_imp]
  intros
  subst_vars
  rfl
theorem len_node_weights (c : Str → Addr) (xs : List PV) (h : Hq) (Q : VQ) (E : XQ) (z : sp_node_weights c xs h Q E) : xs.length = 1 := by
  revert z
  unfold sp_node_weights
  simp only [forall_exists_index, and_imp]
  intros
  subst_vars
  rfl
theorem len_need_node (c : Str → Addr) (xs : List PV) (h : Hq) (Q : VQ) (E : XQ) (z : sp_need_node c xs h Q E) : xs.length = 2 := by
  revert z
  unfold sp_need_node
  simp only [forall_exists_index, and_imp]
  intros
  subst_vars
  rfl
theorem len_stepped_chances (c : Str → Addr) (xs : List PV) (h : Hq) (Q : VQ) (E : XQ) (z : sp_stepped_chances c xs h Q E) : xs.length = 3 := by
  revert z
  unfold sp_stepped_chances
  simp only [forall_exists_index, and_imp]
  intros
  subst_vars
  rfl
theorem len_chances_after (c : Str → Addr) (xs : List PV) (h : Hq) (Q : VQ) (E : XQ) (z : sp_chances_after c xs h Q E) : xs.length = 3 := by
  revert z
  unfold sp_chances_after
  simp only [forall_exists_index, and_imp]
  intros
  subst_vars
  rfl
theorem len_step_chances (c : Str → Addr) (xs : List PV) (h : Hq) (Q : VQ) (E : XQ) (z : sp_step_chances c xs h Q E) : xs.length = 2 := by
  revert z
  unfold sp_step_chances
  simp only [forall_exists_index, and_imp]
  intros
  subst_vars
  rfl
theorem len_law_mixed (c : Str → Addr) (xs : List PV) (h : Hq) (Q : VQ) (E : XQ) (z : sp_law_mixed c xs h Q E) : xs.length = 2 := by
  revert z
  unfold sp_law_mixed
  simp only [forall_exists_index, and_imp]
  intros
  subst_vars
  rfl
theorem len_law_folded (c : Str → Addr) (xs : List PV) (h : Hq) (Q : VQ) (E : XQ) (z : sp_law_folded c xs h Q E) : xs.length = 1 := by
  revert z
  unfold sp_law_folded
  simp only [forall_exists_index, and_imp]
  intros
  subst_vars
  rfl
theorem len_law_draw (c : Str → Addr) (xs : List PV) (h : Hq) (Q : VQ) (E : XQ) (z : sp_law_draw c xs h Q E) : xs.length = 2 := by
  revert z
  unfold sp_law_draw
  simp only [forall_exists_index, and_imp]
  intros
  subst_vars
  rfl
theorem len_law_begun (c : Str → Addr) (xs : List PV) (h : Hq) (Q : VQ) (E : XQ) (z : sp_law_begun c xs h Q E) : xs.length = 1 := by
  revert z
  unfold sp_law_begun
  simp only [forall_exists_index, and_imp]
  intros
  subst_vars
  rfl
theorem len_law_of (c : Str → Addr) (xs : List PV) (h : Hq) (Q : VQ) (E : XQ) (z : sp_law_of c xs h Q E) : xs.length = 2 := by
  revert z
  unfold sp_law_of
  simp only [forall_exists_index, and_imp]
  intros
  subst_vars
  rfl
theorem len_law_like (c : Str → Addr) {j : Nat} (xs : List PV) (h : Hq) (Q : VQ) (E : XQ) (z : sp_law_like c j xs h Q E) : xs.length = 2 := by
  revert z
  unfold sp_law_like
  simp only [forall_exists_index, and_imp]
  intros
  subst_vars
  rfl
theorem len_law_order (c : Str → Addr) (xs : List PV) (h : Hq) (Q : VQ) (E : XQ) (z : sp_law_order c xs h Q E) : xs.length = 2 := by
  revert z
  unfold sp_law_order
  simp only [forall_exists_index, and_imp]
  intros
  subst_vars
  rfl
theorem len_law_common (c : Str → Addr) (xs : List PV) (h : Hq) (Q : VQ) (E : XQ) (z : sp_law_common c xs h Q E) : xs.length = 2 := by
  revert z
  unfold sp_law_common sp_gcd
  simp only [forall_exists_index, and_imp]
  intros
  subst_vars
  rfl
theorem len_law_ratio (c : Str → Addr) (xs : List PV) (h : Hq) (Q : VQ) (E : XQ) (z : sp_law_ratio c xs h Q E) : xs.length = 2 := by
  revert z
  unfold sp_law_ratio
  simp only [forall_exists_index, and_imp]
  intros
  subst_vars
  rfl
theorem len_law_sum (c : Str → Addr) (xs : List PV) (h : Hq) (Q : VQ) (E : XQ) (z : sp_law_sum c xs h Q E) : xs.length = 1 := by
  revert z
  unfold sp_law_sum
  simp only [forall_exists_index, and_imp]
  intros
  subst_vars
  rfl
theorem len_law_times (c : Str → Addr) (xs : List PV) (h : Hq) (Q : VQ) (E : XQ) (z : sp_law_times c xs h Q E) : xs.length = 1 := by
  revert z
  unfold sp_law_times
  simp only [forall_exists_index, and_imp]
  intros
  subst_vars
  rfl
theorem len_law_over (c : Str → Addr) (xs : List PV) (h : Hq) (Q : VQ) (E : XQ) (z : sp_law_over c xs h Q E) : xs.length = 2 := by
  revert z
  unfold sp_law_over
  simp only [forall_exists_index, and_imp]
  intros
  subst_vars
  rfl
theorem len_law_strength (c : Str → Addr) (xs : List PV) (h : Hq) (Q : VQ) (E : XQ) (z : sp_law_strength c xs h Q E) : xs.length = 1 := by
  revert z
  unfold sp_law_strength
  simp only [forall_exists_index, and_imp]
  intros
  subst_vars
  rfl
theorem len_law_net (c : Str → Addr) (xs : List PV) (h : Hq) (Q : VQ) (E : XQ) (z : sp_law_net c xs h Q E) : xs.length = 4 := by
  revert z
  unfold sp_law_net
  simp only [forall_exists_index, and_imp]
  intros
  subst_vars
  rfl
theorem len_law_held (c : Str → Addr) (xs : List PV) (h : Hq) (Q : VQ) (E : XQ) (z : sp_law_held c xs h Q E) : xs.length = 4 := by
  revert z
  unfold sp_law_held
  simp only [forall_exists_index, and_imp]
  intros
  subst_vars
  rfl
theorem len_law_weights (c : Str → Addr) (xs : List PV) (h : Hq) (Q : VQ) (E : XQ) (z : sp_law_weights c xs h Q E) : xs.length = 1 := by
  revert z
  unfold sp_law_weights
  simp only [forall_exists_index, and_imp]
  intros
  subst_vars
  rfl
theorem len_law_any_net (c : Str → Addr) (xs : List PV) (h : Hq) (Q : VQ) (E : XQ) (z : sp_law_any_net c xs h Q E) : xs.length = 1 := by
  revert z
  unfold sp_law_any_net
  simp only [forall_exists_index, and_imp]
  intros
  subst_vars
  rfl
theorem len_law_great_net (c : Str → Addr) (xs : List PV) (h : Hq) (Q : VQ) (E : XQ) (z : sp_law_great_net c xs h Q E) : xs.length = 1 := by
  revert z
  unfold sp_law_great_net
  simp only [forall_exists_index, and_imp]
  intros
  subst_vars
  rfl
theorem len_law_shared (c : Str → Addr) (xs : List PV) (h : Hq) (Q : VQ) (E : XQ) (z : sp_law_shared c xs h Q E) : xs.length = 2 := by
  revert z
  unfold sp_law_shared
  simp only [forall_exists_index, and_imp]
  intros
  subst_vars
  rfl
theorem len_law_after (c : Str → Addr) (xs : List PV) (h : Hq) (Q : VQ) (E : XQ) (z : sp_law_after c xs h Q E) : xs.length = 3 := by
  revert z
  unfold sp_law_after
  simp only [forall_exists_index, and_imp]
  intros
  subst_vars
  rfl
theorem len_law_right (c : Str → Addr) (xs : List PV) (h : Hq) (Q : VQ) (E : XQ) (z : sp_law_right c xs h Q E) : xs.length = 2 := by
  revert z
  unfold sp_law_right
  simp only [forall_exists_index, and_imp]
  intros
  subst_vars
  rfl
theorem len_law_refused_right (c : Str → Addr) (xs : List PV) (h : Hq) (Q : VQ) (E : XQ) (z : sp_law_refused_right c xs h Q E) : xs.length = 2 := by
  revert z
  unfold sp_law_refused_right
  simp only [forall_exists_index, and_imp]
  intros
  subst_vars
  rfl
theorem len_law (c : Str → Addr) (xs : List PV) (h : Hq) (Q : VQ) (E : XQ) (z : sp_law c xs h Q E) : xs.length = 1 := by
  revert z
  unfold sp_law
  simp only [forall_exists_index, and_imp]
  intros
  subst_vars
  rfl
end L3

/-! L4r: the readings (printed by gen.py). -/
namespace L3
open PySem PySem.Spec PyProof.Rows L2 L4
def heardL : List (String × String × String) := [("BadNet", "place", "net"), ("BadNodes", "value", "nodes"), ("BadNumber", "value", "number")]
def rd_is_whole (c : Str → Addr) (E : XQ) : SQ :=
  (seqS (ifS (orT (notT (bQ (isiQ "int" (varQ 0)))) (bQ (isiQ "bool" (varQ 0)))) (retS (cQ (.bl false))) nextS) (retS (andV (orV (noneQ id (varQ 1)) (opQ (I20 fun i j => .bl (decide (j ≤ i))) (varQ 0) (varQ 1))) (orV (noneQ id (varQ 2)) (opQ (I20 fun i j => .bl (decide (i ≤ j))) (varQ 0) (varQ 2))))))

def rd_is_row (c : Str → Addr) (E : XQ) : SQ :=
  (retS (andV (isiQ "tuple" (varQ 0)) (orV (noneQ id (varQ 1)) (opQ (eqDQ id) (callQ lenQ (consQ (varQ 0) nilQ)) (varQ 1)))))

def rd_gcd (c : Str → Addr) (E : XQ) : SQ :=
  (seqS (parS 0 1 (callQ absQ (consQ (varQ 0) nilQ)) (callQ absQ (consQ (varQ 1) nilQ))) (seqS (whS (bQ (opQ (eqDQ not) (varQ 1) (cQ (.int 0)))) (parS 0 1 (varQ 1) (opQ (I2 (fun _ j => 0 < j) fun i j => .int (i % j)) (callQ intQ (consQ (varQ 0) nilQ)) (varQ 1)))) (retS (varQ 0))))

def rd_is_fraction (c : Str → Addr) (E : XQ) : SQ :=
  (seqS (ifS (orT (notT (bQ (fcQ (sp_is_row c) 0 noX (consQ (varQ 0) (consQ (cQ (.int 2)) nilQ))))) (orT (notT (bQ (fcQ (sp_is_whole c) 2 noX (consQ (opQ ixQ (varQ 0) (cQ (.int 0))) nilQ)))) (notT (bQ (fcQ (sp_is_whole c) 1 noX (consQ (opQ ixQ (varQ 0) (cQ (.int 1))) (consQ (cQ (.int 1)) nilQ))))))) (retS (cQ (.bl false))) nextS) (retS (opQ (eqDQ id) (fcQ (sp_gcd c) 0 noX (consQ (opQ ixQ (varQ 0) (cQ (.int 0))) (consQ (opQ ixQ (varQ 0) (cQ (.int 1))) nilQ))) (cQ (.int 1)))))

def rd_ratio (c : Str → Addr) (E : XQ) : SQ :=
  (seqS (ifS (bQ (opQ (I20 fun i j => .bl (decide (i < j))) (varQ 1) (cQ (.int 0)))) (parS 0 1 (negQ (varQ 0)) (negQ (varQ 1))) nextS) (seqS (asgS (fcQ (sp_gcd c) 0 noX (consQ (varQ 0) (consQ (varQ 1) nilQ))) (nameG 2)) (retS (tupQ (consQ (opQ (I2 CDivW fun i j => .int (i / j)) (varQ 0) (varQ 2)) (consQ (opQ (I2 CDivW fun i j => .int (i / j)) (varQ 1) (varQ 2)) nilQ))))))

def rd_ratio_sum (c : Str → Addr) (E : XQ) : SQ :=
  (retS (fcQ (sp_ratio c) 0 noX (consQ (opQ (I20 fun i j => .int (i + j)) (opQ (I2 CMulW fun i j => .int (i * j)) (opQ ixQ (varQ 0) (cQ (.int 0))) (opQ ixQ (varQ 1) (cQ (.int 1)))) (opQ (I2 CMulW fun i j => .int (i * j)) (opQ ixQ (varQ 1) (cQ (.int 0))) (opQ ixQ (varQ 0) (cQ (.int 1))))) (consQ (opQ (I2 CMulW fun i j => .int (i * j)) (opQ ixQ (varQ 0) (cQ (.int 1))) (opQ ixQ (varQ 1) (cQ (.int 1)))) nilQ))))

def rd_ratio_times (c : Str → Addr) (E : XQ) : SQ :=
  (retS (fcQ (sp_ratio c) 0 noX (consQ (opQ (I2 CMulW fun i j => .int (i * j)) (opQ ixQ (varQ 0) (cQ (.int 0))) (opQ ixQ (varQ 1) (cQ (.int 0)))) (consQ (opQ (I2 CMulW fun i j => .int (i * j)) (opQ ixQ (varQ 0) (cQ (.int 1))) (opQ ixQ (varQ 1) (cQ (.int 1)))) nilQ))))

def rd_ratio_over (c : Str → Addr) (E : XQ) : SQ :=
  (retS (fcQ (sp_ratio c) 0 noX (consQ (opQ (I2 CMulW fun i j => .int (i * j)) (opQ ixQ (varQ 0) (cQ (.int 0))) (opQ ixQ (varQ 1) (cQ (.int 1)))) (consQ (opQ (I2 CMulW fun i j => .int (i * j)) (opQ ixQ (varQ 0) (cQ (.int 1))) (opQ ixQ (varQ 1) (cQ (.int 0)))) nilQ))))

def rd_ratio_total (c : Str → Addr) (E : XQ) : SQ :=
  (seqS (asgS (cQ (.tup [(.int 0), (.int 1)])) (nameG 1)) (seqS (forS (seqI (varQ 0)) (nameG 2) (asgS (fcQ (sp_ratio_sum c) 0 noX (consQ (varQ 1) (consQ (varQ 2) nilQ))) (nameG 1))) (retS (varQ 1))))

def rd_is_wire (c : Str → Addr) (E : XQ) : SQ :=
  (seqS (ifS (orT (notT (bQ (fcQ (sp_is_row c) 0 noX (consQ (varQ 1) (consQ (cQ (.int 3)) nilQ))))) (orT (notT (bQ (fcQ (sp_is_whole c) 0 noX (consQ (opQ ixQ (varQ 1) (cQ (.int 0))) (consQ (cQ (.int 0)) (consQ (opQ (I20 fun i j => .int (i - j)) (varQ 0) (cQ (.int 1))) nilQ)))))) (notT (bQ (fcQ (sp_is_whole c) 0 noX (consQ (opQ ixQ (varQ 1) (cQ (.int 1))) (consQ (cQ (.int 0)) (consQ (opQ (I20 fun i j => .int (i - j)) (varQ 0) (cQ (.int 1))) nilQ)))))))) (retS (cQ (.bl false))) nextS) (retS (andV (opQ (I20 fun i j => .bl (decide (i < j))) (opQ ixQ (varQ 1) (cQ (.int 0))) (opQ ixQ (varQ 1) (cQ (.int 1)))) (andV (fcQ (sp_is_fraction c) 0 noX (consQ (opQ ixQ (varQ 1) (cQ (.int 2))) nilQ)) (opQ (I20 fun i j => .bl (decide (j < i))) (opQ ixQ (opQ ixQ (varQ 1) (cQ (.int 2))) (cQ (.int 0))) (cQ (.int 0)))))))

def rd_net_fault (c : Str → Addr) (E : XQ) : SQ :=
  (seqS (ifS (orT (notT (bQ (fcQ (sp_is_row c) 0 noX (consQ (varQ 0) (consQ (cQ (.int 3)) nilQ))))) (notT (bQ (fcQ (sp_is_row c) 1 noX (consQ (opQ ixQ (varQ 0) (cQ (.int 2))) nilQ))))) (retS (tupQ (consQ (cQ (.str "form")) nilQ))) nextS) (seqS (ifS (notT (bQ (fcQ (sp_is_whole c) 0 noX (consQ (opQ ixQ (varQ 0) (cQ (.int 0))) (consQ (cQ (.int 0)) (consQ (cQ (.int 48)) nilQ)))))) (retS (tupQ (consQ (cQ (.str "nodes")) nilQ))) nextS) (seqS (ifS (notT (bQ (fcQ (sp_is_whole c) 0 noX (consQ (opQ ixQ (varQ 0) (cQ (.int 1))) (consQ (cQ (.int 0)) (consQ (callQ minQ (consQ (opQ ixQ (varQ 0) (cQ (.int 0))) (consQ (cQ (.int 8)) nilQ))) nilQ)))))) (retS (tupQ (consQ (cQ (.str "ports")) nilQ))) nextS) (seqS (ifS (bQ (opQ (I20 fun i j => .bl (decide (j < i))) (callQ lenQ (consQ (opQ ixQ (varQ 0) (cQ (.int 2))) nilQ)) (cQ (.int 40)))) (retS (tupQ (consQ (cQ (.str "many")) nilQ))) nextS) (seqS (forS (enumI (opQ ixQ (varQ 0) (cQ (.int 2)))) (tupG 2 (consG (nameG 1) (consG (nameG 2) nilG))) (ifS (orT (notT (bQ (fcQ (sp_is_wire c) 0 noX (consQ (opQ ixQ (varQ 0) (cQ (.int 0))) (consQ (varQ 2) nilQ))))) (andT (bQ (opQ (I20 fun i j => .bl (decide (j < i))) (varQ 1) (cQ (.int 0)))) (bQ (opQ ltwQ (varQ 2) (opQ ixQ (opQ ixQ (varQ 0) (cQ (.int 2))) (opQ (I20 fun i j => .int (i - j)) (varQ 1) (cQ (.int 1)))))))) (retS (tupQ (consQ (varQ 1) nilQ))) nextS)) (retS (tupQ nilQ)))))))

def rd_need_net (c : Str → Addr) (E : XQ) : SQ :=
  (seqS (asgS (fcQ (sp_net_fault c) 0 noX (consQ (varQ 0) nilQ)) (nameG 1)) (seqS (ifS (bQ (opQ (eqDQ not) (varQ 1) (tupQ nilQ))) (raiseS (c "BadNet") "place" E (consQ (opQ ixQ (varQ 1) (cQ (.int 0))) nilQ)) nextS) (retS (varQ 0))))

def rd_wires_at (c : Str → Addr) (E : XQ) : SQ :=
  (seqS (asgS (lcE (rg1I (opQ ixQ (varQ 0) (cQ (.int 0)))) (nameG 4) yesT (lstQ nilQ) [4]) (nameG 1)) (seqS (forS (enumI (opQ ixQ (varQ 0) (cQ (.int 2)))) (tupG 2 (consG (nameG 2) (consG (nameG 3) nilG))) (seqS (dropS (mtQ appQ (opQ ixQ (varQ 1) (opQ ixQ (varQ 3) (cQ (.int 0)))) (varQ 2))) (dropS (mtQ appQ (opQ ixQ (varQ 1) (opQ ixQ (varQ 3) (cQ (.int 1)))) (varQ 2))))) (retS (varQ 1))))

def rd_weights_of (c : Str → Addr) (E : XQ) : SQ :=
  (retS (lcE (seqI (fcQ (sp_wires_at c) 0 noX (consQ (varQ 0) nilQ))) (nameG 1) yesT (fcQ (sp_ratio_total c) 0 noX (consQ (lcE (seqI (varQ 1)) (nameG 2) yesT (opQ ixQ (opQ ixQ (opQ ixQ (varQ 0) (cQ (.int 2))) (varQ 2)) (cQ (.int 2))) [2]) nilQ)) [1]))

def rd_node_weights (c : Str → Addr) (E : XQ) : SQ :=
  (seqS (dropS (fcQ (sp_need_net c) 0 E (consQ (varQ 0) nilQ))) (retS (callQ tupleQ (consQ (fcQ (sp_weights_of c) 0 noX (consQ (varQ 0) nilQ)) nilQ))))

def rd_need_node (c : Str → Addr) (E : XQ) : SQ :=
  (seqS (ifS (notT (bQ (fcQ (sp_is_whole c) 0 noX (consQ (varQ 1) (consQ (cQ (.int 0)) (consQ (opQ (I20 fun i j => .int (i - j)) (opQ ixQ (varQ 0) (cQ (.int 0))) (cQ (.int 1))) nilQ)))))) (raiseS (c "BadNodes") "value" E (consQ (varQ 1) nilQ)) nextS) (retS (varQ 1)))

def rd_stepped_chances (c : Str → Addr) (E : XQ) : SQ :=
  (seqS (asgS (lcE (zipI (varQ 2) (varQ 1)) (tupG 2 (consG (nameG 3) (consG (nameG 9) nilG))) yesT (ifQ (bQ (opQ (eqDQ id) (varQ 9) (cQ (.tup [(.int 0), (.int 1)])))) (varQ 3) (cQ (.tup [(.int 0), (.int 1)]))) [3, 9]) (nameG 4)) (seqS (forS (seqI (opQ ixQ (varQ 0) (cQ (.int 2)))) (tupG 3 (consG (nameG 3) (consG (nameG 5) (consG (nameG 6) nilG)))) (seqS (asgS (fcQ (sp_ratio_over c) 0 noX (consQ (fcQ (sp_ratio_times c) 0 noX (consQ (opQ ixQ (varQ 2) (varQ 3)) (consQ (varQ 6) nilQ))) (consQ (opQ ixQ (varQ 1) (varQ 3)) nilQ))) (nameG 7)) (seqS (asgS (fcQ (sp_ratio_over c) 0 noX (consQ (fcQ (sp_ratio_times c) 0 noX (consQ (opQ ixQ (varQ 2) (varQ 5)) (consQ (varQ 6) nilQ))) (consQ (opQ ixQ (varQ 1) (varQ 5)) nilQ))) (nameG 8)) (seqS (asgS (fcQ (sp_ratio_sum c) 0 noX (consQ (opQ ixQ (varQ 4) (varQ 5)) (consQ (varQ 7) nilQ))) (setG (varQ 4) (varQ 5))) (asgS (fcQ (sp_ratio_sum c) 0 noX (consQ (opQ ixQ (varQ 4) (varQ 3)) (consQ (varQ 8) nilQ))) (setG (varQ 4) (varQ 3))))))) (retS (varQ 4))))

def rd_chances_after (c : Str → Addr) (E : XQ) : SQ :=
  (seqS (dropS (fcQ (sp_need_net c) 0 E (consQ (varQ 0) nilQ))) (seqS (dropS (fcQ (sp_need_node c) 0 E (consQ (varQ 0) (consQ (varQ 1) nilQ)))) (seqS (ifS (notT (bQ (fcQ (sp_is_whole c) 0 noX (consQ (varQ 2) (consQ (cQ (.int 0)) (consQ (cQ (.int 60)) nilQ)))))) (raiseS (c "BadNumber") "value" E (consQ (varQ 2) nilQ)) nextS) (seqS (asgS (fcQ (sp_weights_of c) 0 noX (consQ (varQ 0) nilQ)) (nameG 3)) (seqS (asgS (lcE (rg1I (opQ ixQ (varQ 0) (cQ (.int 0)))) (nameG 6) yesT (ifQ (bQ (opQ (eqDQ id) (varQ 6) (varQ 1))) (cQ (.tup [(.int 1), (.int 1)])) (cQ (.tup [(.int 0), (.int 1)]))) [6]) (nameG 4)) (seqS (forS (rg1I (varQ 2)) (nameG 5) (asgS (fcQ (sp_stepped_chances c) 0 noX (consQ (varQ 0) (consQ (varQ 3) (consQ (varQ 4) nilQ)))) (nameG 4))) (retS (callQ tupleQ (consQ (varQ 4) nilQ)))))))))

def rd_step_chances (c : Str → Addr) (E : XQ) : SQ :=
  (retS (fcQ (sp_chances_after c) 0 E (consQ (varQ 0) (consQ (varQ 1) (consQ (cQ (.int 1)) nilQ)))))

def rd_law_mixed (c : Str → Addr) (E : XQ) : SQ :=
  (seqS (asgS (opQ (I20 fun i j => .int (i + j)) (opQ (I20 fun i j => .int (i + j)) (opQ (I2 (fun _ j => 0 < j) fun i j => .int (i % j)) (callQ intQ (consQ (opQ (I2 CMulW fun i j => .int (i * j)) (opQ (I2 CMulW fun i j => .int (i * j)) (varQ 0) (opQ (I20 fun i j => .int (i + j)) (cQ (.int 1)) (opQ (I2 CMulW fun i j => .int (i * j)) (cQ (.int 2)) (varQ 1)))) (cQ (.int 48271))) nilQ)) (cQ (.int 2147483647))) (opQ (I2 CMulW fun i j => .int (i * j)) (opQ (I2 CMulW fun i j => .int (i * j)) (cQ (.int 7919)) (varQ 1)) (varQ 1))) (opQ (I2 CMulW fun i j => .int (i * j)) (cQ (.int 104729)) (varQ 1))) (nameG 2)) (retS (opQ (I2 CDivW fun i j => .int (i / j)) (opQ (I2 (fun _ j => 0 < j) fun i j => .int (i % j)) (callQ intQ (consQ (opQ (I2 CMulW fun i j => .int (i * j)) (varQ 2) (cQ (.int 69621))) nilQ)) (cQ (.int 2147483629))) (cQ (.int 7)))))

def rd_law_folded (c : Str → Addr) (E : XQ) : SQ :=
  (seqS (asgS (lcE (rg1I (cQ (.int 64))) (nameG 1) yesT (opQ (I20 fun i j => .int (i + j)) (cQ (.int 17)) (varQ 1)) [1]) (nameG 2)) (seqS (forS (enumI (varQ 0)) (tupG 2 (consG (nameG 1) (consG (nameG 3) nilG))) (asgS (opQ (I2 (fun _ j => 0 < j) fun i j => .int (i % j)) (callQ intQ (consQ (opQ (I20 fun i j => .int (i + j)) (opQ (I2 CMulW fun i j => .int (i * j)) (opQ ixQ (varQ 2) (opQ (I2 (fun _ j => 0 < j) fun i j => .int (i % j)) (callQ intQ (consQ (varQ 1) nilQ)) (cQ (.int 64)))) (cQ (.int 48271))) (varQ 3)) nilQ)) (cQ (.int 2147483647))) (setG (varQ 2) (opQ (I2 (fun _ j => 0 < j) fun i j => .int (i % j)) (callQ intQ (consQ (varQ 1) nilQ)) (cQ (.int 64)))))) (seqS (forS (rg2I (cQ (.int 1)) (cQ (.int 64))) (nameG 1) (asgS (opQ (I2 (fun _ j => 0 < j) fun i j => .int (i % j)) (callQ intQ (consQ (opQ (I20 fun i j => .int (i + j)) (opQ ixQ (varQ 2) (varQ 1)) (opQ (I2 CMulW fun i j => .int (i * j)) (opQ ixQ (varQ 2) (opQ (I20 fun i j => .int (i - j)) (varQ 1) (cQ (.int 1)))) (cQ (.int 16807)))) nilQ)) (cQ (.int 2147483647))) (setG (varQ 2) (varQ 1)))) (retS (varQ 2)))))

def rd_law_draw (c : Str → Addr) (E : XQ) : SQ :=
  (seqS (asgS (opQ dgetQ (varQ 0) (cQ (.str "spot"))) (nameG 2)) (seqS (dputS (varQ 0) (cQ (.str "spot")) (opQ (I20 fun i j => .int (i + j)) (varQ 2) (cQ (.int 1)))) (seqS (ifS (bQ (opQ (eqDQ not) (opQ dgetQ (varQ 0) (cQ (.str "great"))) (lstQ nilQ))) (seqS (asgS (opQ dgetQ (varQ 0) (cQ (.str "great"))) (nameG 3)) (seqS (asgS (opQ (I2 (fun _ j => 0 < j) fun i j => .int (i % j)) (callQ intQ (consQ (varQ 2) nilQ)) (callQ lenQ (consQ (varQ 3) nilQ))) (nameG 4)) (seqS (asgS (opQ ixQ (varQ 3) (varQ 4)) (nameG 5)) (ifS (bQ (opQ (I20 fun i j => .bl (decide (j < i))) (varQ 5) (cQ (.int 0)))) (seqS (asgS (opQ (I2 CDivW fun i j => .int (i / j)) (varQ 5) (varQ 1)) (setG (varQ 3) (varQ 4))) (retS (opQ (I2 (fun _ j => 0 < j) fun i j => .int (i % j)) (callQ intQ (consQ (varQ 5) nilQ)) (varQ 1)))) nextS)))) nextS) (seqS (asgS (opQ dgetQ (varQ 0) (cQ (.str "cells"))) (nameG 3)) (retS (opQ (I2 (fun _ j => 0 < j) fun i j => .int (i % j)) (callQ intQ (consQ (fcQ (sp_law_mixed c) 0 noX (consQ (fcQ (sp_law_mixed c) 0 noX (consQ (opQ (I20 fun i j => .int (i + j)) (opQ ixQ (varQ 3) (opQ (I2 (fun _ j => 0 < j) fun i j => .int (i % j)) (callQ intQ (consQ (varQ 2) nilQ)) (cQ (.int 64)))) (opQ (I2 CMulW fun i j => .int (i * j)) (cQ (.int 31)) (opQ (I2 CDivW fun i j => .int (i / j)) (varQ 2) (cQ (.int 64))))) (consQ (varQ 2) nilQ))) (consQ (opQ (I20 fun i j => .int (i + j)) (varQ 2) (cQ (.int 7))) nilQ))) nilQ)) (varQ 1)))))))

def rd_law_begun (c : Str → Addr) (E : XQ) : SQ :=
  (seqS (asgS (dispQ [((cQ (.str "cells")), (fcQ (sp_law_folded c) 0 noX (consQ (varQ 0) nilQ))), ((cQ (.str "great")), (lstQ nilQ)), ((cQ (.str "spot")), (cQ (.int 0)))]) (nameG 1)) (seqS (dputS (varQ 1) (cQ (.str "great")) (lcE (seqI (varQ 0)) (nameG 2) yesT (ifQ (bQ (opQ (I20 fun i j => .bl (decide (j ≤ i))) (varQ 2) (opQ (I2 CPow fun i j => .int (i ^ j.toNat)) (cQ (.int 10)) (cQ (.int 18))))) (varQ 2) (cQ (.int 0))) [2])) (retS (varQ 1))))

def rd_law_of (c : Str → Addr) (E : XQ) : SQ :=
  (retS (opQ ixQ (varQ 1) (fcQ (sp_law_draw c) 0 noX (consQ (varQ 0) (consQ (callQ lenQ (consQ (varQ 1) nilQ)) nilQ)))))

def rd_law_like (c : Str → Addr) (E : XQ) (spR : PQ) : SQ :=
  (seqS (ifS (noneT id (varQ 1)) (retS (noneQ id (varQ 0))) nextS) (seqS (ifS (bQ (isiQ "bool" (varQ 1))) (retS (andV (isiQ "bool" (varQ 0)) (opQ (eqDQ id) (varQ 0) (varQ 1)))) nextS) (seqS (ifS (bQ (isiQ "int" (varQ 1))) (retS (andV (isiQ "int" (varQ 0)) (andV (notV (isiQ "bool" (varQ 0))) (opQ (eqDQ id) (varQ 0) (varQ 1))))) nextS) (seqS (ifS (bQ (isiQ "str" (varQ 1))) (retS (andV (isiQ "str" (varQ 0)) (opQ (eqDQ id) (varQ 0) (varQ 1)))) nextS) (seqS (ifS (orT (andT (bQ (isiQ "tuple" (varQ 1))) (notT (bQ (isiQ "tuple" (varQ 0))))) (andT (bQ (isiQ "list" (varQ 1))) (notT (bQ (isiQ "list" (varQ 0)))))) (retS (cQ (.bl false))) nextS) (seqS (ifS (bQ (opQ (eqDQ not) (callQ lenQ (consQ (varQ 0) nilQ)) (callQ lenQ (consQ (varQ 1) nilQ)))) (retS (cQ (.bl false))) nextS) (seqS (forS (rg1I (callQ lenQ (consQ (varQ 1) nilQ))) (nameG 2) (ifS (notT (bQ (fcQ spR 0 noX (consQ (opQ ixQ (varQ 0) (varQ 2)) (consQ (opQ ixQ (varQ 1) (varQ 2)) nilQ))))) (retS (cQ (.bl false))) nextS)) (retS (cQ (.bl true))))))))))

def rd_law_order (c : Str → Addr) (E : XQ) : SQ :=
  (seqS (parS 2 3 (lrgQ (varQ 1)) (lstQ nilQ)) (seqS (whS (bQ (opQ (eqDQ not) (varQ 2) (lstQ nilQ))) (dropS (mtQ appQ (varQ 3) (mtQ popQ (varQ 2) (fcQ (sp_law_draw c) 0 noX (consQ (varQ 0) (consQ (callQ lenQ (consQ (varQ 2) nilQ)) nilQ))))))) (retS (varQ 3))))

def rd_law_common (c : Str → Addr) (E : XQ) : SQ :=
  (seqS (parS 0 1 (callQ absQ (consQ (varQ 0) nilQ)) (callQ absQ (consQ (varQ 1) nilQ))) (seqS (whS (bQ (opQ (eqDQ not) (varQ 1) (cQ (.int 0)))) (parS 0 1 (varQ 1) (opQ (I2 (fun _ j => 0 < j) fun i j => .int (i % j)) (callQ intQ (consQ (varQ 0) nilQ)) (varQ 1)))) (retS (varQ 0))))

def rd_law_ratio (c : Str → Addr) (E : XQ) : SQ :=
  (seqS (asgS (fcQ (sp_law_common c) 0 noX (consQ (varQ 0) (consQ (varQ 1) nilQ))) (nameG 2)) (seqS (asgS (ifQ (bQ (opQ (I20 fun i j => .bl (decide (i < j))) (varQ 1) (cQ (.int 0)))) (negQ (varQ 2)) (varQ 2)) (nameG 2)) (retS (tupQ (consQ (opQ (I2 CDivW fun i j => .int (i / j)) (varQ 0) (varQ 2)) (consQ (opQ (I2 CDivW fun i j => .int (i / j)) (varQ 1) (varQ 2)) nilQ))))))

def rd_law_sum (c : Str → Addr) (E : XQ) : SQ :=
  (seqS (asgS (tupQ (consQ (cQ (.int 0)) (consQ (cQ (.int 1)) nilQ))) (nameG 1)) (seqS (forS (seqI (varQ 0)) (tupG 2 (consG (nameG 2) (consG (nameG 3) nilG))) (asgS (fcQ (sp_law_ratio c) 0 noX (consQ (opQ (I20 fun i j => .int (i + j)) (opQ (I2 CMulW fun i j => .int (i * j)) (opQ ixQ (varQ 1) (cQ (.int 0))) (varQ 3)) (opQ (I2 CMulW fun i j => .int (i * j)) (varQ 2) (opQ ixQ (varQ 1) (cQ (.int 1))))) (consQ (opQ (I2 CMulW fun i j => .int (i * j)) (opQ ixQ (varQ 1) (cQ (.int 1))) (varQ 3)) nilQ))) (nameG 1))) (retS (varQ 1))))

def rd_law_times (c : Str → Addr) (E : XQ) : SQ :=
  (seqS (asgS (tupQ (consQ (cQ (.int 1)) (consQ (cQ (.int 1)) nilQ))) (nameG 1)) (seqS (forS (seqI (varQ 0)) (tupG 2 (consG (nameG 2) (consG (nameG 3) nilG))) (asgS (fcQ (sp_law_ratio c) 0 noX (consQ (opQ (I2 CMulW fun i j => .int (i * j)) (opQ ixQ (varQ 1) (cQ (.int 0))) (varQ 2)) (consQ (opQ (I2 CMulW fun i j => .int (i * j)) (opQ ixQ (varQ 1) (cQ (.int 1))) (varQ 3)) nilQ))) (nameG 1))) (retS (varQ 1))))

def rd_law_over (c : Str → Addr) (E : XQ) : SQ :=
  (retS (fcQ (sp_law_ratio c) 0 noX (consQ (opQ (I2 CMulW fun i j => .int (i * j)) (opQ ixQ (varQ 0) (cQ (.int 0))) (opQ ixQ (varQ 1) (cQ (.int 1)))) (consQ (opQ (I2 CMulW fun i j => .int (i * j)) (opQ ixQ (varQ 0) (cQ (.int 1))) (opQ ixQ (varQ 1) (cQ (.int 0)))) nilQ))))

def rd_law_strength (c : Str → Addr) (E : XQ) : SQ :=
  (seqS (asgS (fcQ (sp_law_draw c) 0 noX (consQ (varQ 0) (consQ (cQ (.int 8)) nilQ))) (nameG 1)) (seqS (ifS (bQ (opQ (I20 fun i j => .bl (decide (i < j))) (varQ 1) (cQ (.int 3)))) (retS (tupQ (consQ (cQ (.int 1)) (consQ (cQ (.int 1)) nilQ)))) nextS) (seqS (ifS (bQ (opQ (I20 fun i j => .bl (decide (i < j))) (varQ 1) (cQ (.int 7)))) (retS (fcQ (sp_law_ratio c) 0 noX (consQ (opQ (I20 fun i j => .int (i + j)) (cQ (.int 1)) (fcQ (sp_law_draw c) 0 noX (consQ (varQ 0) (consQ (cQ (.int 6)) nilQ)))) (consQ (opQ (I20 fun i j => .int (i + j)) (cQ (.int 1)) (fcQ (sp_law_draw c) 0 noX (consQ (varQ 0) (consQ (cQ (.int 5)) nilQ)))) nilQ)))) nextS) (retS (fcQ (sp_law_ratio c) 0 noX (consQ (opQ (I20 fun i j => .int (i + j)) (cQ (.int 1)) (fcQ (sp_law_draw c) 0 noX (consQ (varQ 0) (consQ (opQ (I2 CPow fun i j => .int (i ^ j.toNat)) (cQ (.int 10)) (cQ (.int 6))) nilQ)))) (consQ (opQ (I20 fun i j => .int (i + j)) (cQ (.int 1)) (fcQ (sp_law_draw c) 0 noX (consQ (varQ 0) (consQ (opQ (I2 CPow fun i j => .int (i ^ j.toNat)) (cQ (.int 10)) (cQ (.int 6))) nilQ)))) nilQ)))))))

def rd_law_net (c : Str → Addr) (E : XQ) : SQ :=
  (seqS (asgS (lstQ nilQ) (nameG 4)) (seqS (ifS (bQ (opQ (I20 fun i j => .bl (decide (j < i))) (varQ 1) (cQ (.int 1)))) (forS (rg1I (fcQ (sp_law_draw c) 0 noX (consQ (varQ 0) (consQ (opQ (I20 fun i j => .int (i + j)) (varQ 3) (cQ (.int 1))) nilQ)))) (nameG 5) (seqS (parS 6 7 (fcQ (sp_law_draw c) 0 noX (consQ (varQ 0) (consQ (varQ 1) nilQ))) (fcQ (sp_law_draw c) 0 noX (consQ (varQ 0) (consQ (opQ (I20 fun i j => .int (i - j)) (varQ 1) (cQ (.int 1))) nilQ)))) (seqS (asgS (ifQ (bQ (opQ (I20 fun i j => .bl (decide (j ≤ i))) (varQ 7) (varQ 6))) (opQ (I20 fun i j => .int (i + j)) (varQ 7) (cQ (.int 1))) (varQ 7)) (nameG 7)) (dropS (mtQ appQ (varQ 4) (tupQ (consQ (callQ minQ (consQ (varQ 6) (consQ (varQ 7) nilQ))) (consQ (callQ maxQ (consQ (varQ 6) (consQ (varQ 7) nilQ))) (consQ (fcQ (sp_law_strength c) 0 noX (consQ (varQ 0) nilQ)) nilQ))))))))) nextS) (retS (tupQ (consQ (varQ 1) (consQ (varQ 2) (consQ (callQ tupleQ (consQ (callQ srtQ (consQ (varQ 4) nilQ)) nilQ)) nilQ)))))))

def rd_law_held (c : Str → Addr) (E : XQ) : SQ :=
  (seqS (asgS (lstQ nilQ) (nameG 4)) (seqS (forS (rg2I (varQ 2) (varQ 1)) (nameG 5) (dropS (mtQ appQ (varQ 4) (tupQ (consQ (fcQ (sp_law_draw c) 0 noX (consQ (varQ 0) (consQ (varQ 5) nilQ))) (consQ (varQ 5) (consQ (fcQ (sp_law_strength c) 0 noX (consQ (varQ 0) nilQ)) nilQ))))))) (seqS (ifS (bQ (opQ (I20 fun i j => .bl (decide (j < i))) (varQ 1) (cQ (.int 1)))) (forS (rg1I (fcQ (sp_law_draw c) 0 noX (consQ (varQ 0) (consQ (callQ maxQ (consQ (cQ (.int 1)) (consQ (opQ (I20 fun i j => .int (i + j)) (opQ (I20 fun i j => .int (i - j)) (varQ 3) (callQ lenQ (consQ (varQ 4) nilQ))) (cQ (.int 1))) nilQ))) nilQ)))) (nameG 6) (seqS (parS 7 8 (fcQ (sp_law_draw c) 0 noX (consQ (varQ 0) (consQ (varQ 1) nilQ))) (fcQ (sp_law_draw c) 0 noX (consQ (varQ 0) (consQ (opQ (I20 fun i j => .int (i - j)) (varQ 1) (cQ (.int 1))) nilQ)))) (seqS (asgS (ifQ (bQ (opQ (I20 fun i j => .bl (decide (j ≤ i))) (varQ 8) (varQ 7))) (opQ (I20 fun i j => .int (i + j)) (varQ 8) (cQ (.int 1))) (varQ 8)) (nameG 8)) (dropS (mtQ appQ (varQ 4) (tupQ (consQ (callQ minQ (consQ (varQ 7) (consQ (varQ 8) nilQ))) (consQ (callQ maxQ (consQ (varQ 7) (consQ (varQ 8) nilQ))) (consQ (fcQ (sp_law_strength c) 0 noX (consQ (varQ 0) nilQ)) nilQ))))))))) nextS) (seqS (asgS (opQ catQ (lrgQ (varQ 2)) (lcE (seqI (fcQ (sp_law_order c) 0 noX (consQ (varQ 0) (consQ (opQ (I20 fun i j => .int (i - j)) (varQ 1) (varQ 2)) nilQ)))) (nameG 10) yesT (opQ (I20 fun i j => .int (i + j)) (varQ 2) (varQ 10)) [10])) (nameG 9)) (seqS (asgS (lcE (seqI (varQ 4)) (tupG 3 (consG (nameG 7) (consG (nameG 8) (consG (nameG 11) nilG)))) yesT (tupQ (consQ (callQ minQ (consQ (opQ ixQ (varQ 9) (varQ 7)) (consQ (opQ ixQ (varQ 9) (varQ 8)) nilQ))) (consQ (callQ maxQ (consQ (opQ ixQ (varQ 9) (varQ 7)) (consQ (opQ ixQ (varQ 9) (varQ 8)) nilQ))) (consQ (varQ 11) nilQ)))) [7, 8, 11]) (nameG 4)) (retS (tupQ (consQ (varQ 1) (consQ (varQ 2) (consQ (callQ tupleQ (consQ (callQ srtQ (consQ (varQ 4) nilQ)) nilQ)) nilQ))))))))))

def rd_law_weights (c : Str → Addr) (E : XQ) : SQ :=
  (seqS (asgS (opQ repQ (lstQ (consQ (tupQ (consQ (cQ (.int 0)) (consQ (cQ (.int 1)) nilQ))) nilQ)) (opQ ixQ (varQ 0) (cQ (.int 0)))) (nameG 1)) (seqS (forS (seqI (opQ ixQ (varQ 0) (cQ (.int 2)))) (tupG 3 (consG (nameG 2) (consG (nameG 3) (consG (nameG 4) nilG)))) (asgS (tupQ (consQ (fcQ (sp_law_sum c) 0 noX (consQ (lstQ (consQ (opQ ixQ (varQ 1) (varQ 2)) (consQ (varQ 4) nilQ))) nilQ)) (consQ (fcQ (sp_law_sum c) 0 noX (consQ (lstQ (consQ (opQ ixQ (varQ 1) (varQ 3)) (consQ (varQ 4) nilQ))) nilQ)) nilQ))) (tupG 2 (consG (setG (varQ 1) (varQ 2)) (consG (setG (varQ 1) (varQ 3)) nilG))))) (retS (varQ 1))))

def rd_law_any_net (c : Str → Addr) (E : XQ) : SQ :=
  (seqS (asgS (opQ (I20 fun i j => .int (i + j)) (cQ (.int 1)) (fcQ (sp_law_draw c) 0 noX (consQ (varQ 0) (consQ (cQ (.int 6)) nilQ)))) (nameG 1)) (seqS (ifS (bQ (opQ (eqDQ id) (fcQ (sp_law_draw c) 0 noX (consQ (varQ 0) (consQ (cQ (.int 2)) nilQ))) (cQ (.int 0)))) (retS (fcQ (sp_law_net c) 0 noX (consQ (varQ 0) (consQ (varQ 1) (consQ (fcQ (sp_law_draw c) 0 noX (consQ (varQ 0) (consQ (opQ (I20 fun i j => .int (i + j)) (varQ 1) (cQ (.int 1))) nilQ))) (consQ (cQ (.int 9)) nilQ)))))) nextS) (retS (fcQ (sp_law_held c) 0 noX (consQ (varQ 0) (consQ (varQ 1) (consQ (opQ (I20 fun i j => .int (i + j)) (cQ (.int 1)) (fcQ (sp_law_draw c) 0 noX (consQ (varQ 0) (consQ (varQ 1) nilQ)))) (consQ (cQ (.int 9)) nilQ))))))))

def rd_law_great_net (c : Str → Addr) (E : XQ) : SQ :=
  (seqS (parS 1 2 (opQ (I20 fun i j => .int (i + j)) (cQ (.int 7)) (fcQ (sp_law_draw c) 0 noX (consQ (varQ 0) (consQ (cQ (.int 6)) nilQ)))) (lstQ nilQ)) (seqS (forS (rg2I (cQ (.int 1)) (varQ 1)) (nameG 3) (ifS (bQ (opQ (I20 fun i j => .bl (decide (j < i))) (fcQ (sp_law_draw c) 0 noX (consQ (varQ 0) (consQ (cQ (.int 8)) nilQ))) (cQ (.int 0)))) (dropS (mtQ appQ (varQ 2) (tupQ (consQ (fcQ (sp_law_draw c) 0 noX (consQ (varQ 0) (consQ (varQ 3) nilQ))) (consQ (varQ 3) (consQ (fcQ (sp_law_ratio c) 0 noX (consQ (opQ (I20 fun i j => .int (i + j)) (cQ (.int 1)) (fcQ (sp_law_draw c) 0 noX (consQ (varQ 0) (consQ (cQ (.int 4)) nilQ)))) (consQ (opQ (I20 fun i j => .int (i + j)) (cQ (.int 1)) (fcQ (sp_law_draw c) 0 noX (consQ (varQ 0) (consQ (cQ (.int 3)) nilQ)))) nilQ))) nilQ)))))) nextS)) (seqS (forS (rg1I (fcQ (sp_law_draw c) 0 noX (consQ (varQ 0) (consQ (cQ (.int 7)) nilQ)))) (nameG 4) (seqS (parS 5 6 (fcQ (sp_law_draw c) 0 noX (consQ (varQ 0) (consQ (opQ (I20 fun i j => .int (i - j)) (varQ 1) (cQ (.int 1))) nilQ))) (fcQ (sp_law_ratio c) 0 noX (consQ (opQ (I20 fun i j => .int (i + j)) (cQ (.int 1)) (fcQ (sp_law_draw c) 0 noX (consQ (varQ 0) (consQ (cQ (.int 3)) nilQ)))) (consQ (opQ (I20 fun i j => .int (i + j)) (cQ (.int 1)) (fcQ (sp_law_draw c) 0 noX (consQ (varQ 0) (consQ (cQ (.int 4)) nilQ)))) nilQ)))) (dropS (mtQ appQ (varQ 2) (tupQ (consQ (varQ 5) (consQ (opQ (I20 fun i j => .int (i + j)) (opQ (I20 fun i j => .int (i + j)) (varQ 5) (cQ (.int 1))) (fcQ (sp_law_draw c) 0 noX (consQ (varQ 0) (consQ (opQ (I20 fun i j => .int (i - j)) (opQ (I20 fun i j => .int (i - j)) (varQ 1) (cQ (.int 1))) (varQ 5)) nilQ)))) (consQ (varQ 6) nilQ)))))))) (seqS (asgS (tupQ (consQ (varQ 1) (consQ (cQ (.int 0)) (consQ (callQ tupleQ (consQ (callQ srtQ (consQ (varQ 2) nilQ)) nilQ)) nilQ)))) (nameG 7)) (seqS (asgS (fcQ (sp_law_order c) 0 noX (consQ (varQ 0) (consQ (varQ 1) nilQ))) (nameG 8)) (seqS (asgS (lcE (seqI (opQ ixQ (varQ 7) (cQ (.int 2)))) (tupG 3 (consG (nameG 5) (consG (nameG 9) (consG (nameG 6) nilG)))) yesT (tupQ (consQ (callQ minQ (consQ (opQ ixQ (varQ 8) (varQ 5)) (consQ (opQ ixQ (varQ 8) (varQ 9)) nilQ))) (consQ (callQ maxQ (consQ (opQ ixQ (varQ 8) (varQ 5)) (consQ (opQ ixQ (varQ 8) (varQ 9)) nilQ))) (consQ (varQ 6) nilQ)))) [5, 9, 6]) (nameG 2)) (retS (tupQ (consQ (varQ 1) (consQ (ifQ (bQ (opQ (I20 fun i j => .bl (decide (j < i))) (varQ 1) (cQ (.int 7)))) (fcQ (sp_law_draw c) 0 noX (consQ (varQ 0) (consQ (cQ (.int 9)) nilQ))) (fcQ (sp_law_draw c) 0 noX (consQ (varQ 0) (consQ (cQ (.int 8)) nilQ)))) (consQ (callQ tupleQ (consQ (callQ srtQ (consQ (varQ 2) nilQ)) nilQ)) nilQ)))))))))))

def rd_law_shared (c : Str → Addr) (E : XQ) : SQ :=
  (seqS (parS 2 3 (fcQ (sp_law_weights c) 0 noX (consQ (varQ 0) nilQ)) (lstQ nilQ)) (seqS (forS (rg1I (opQ ixQ (varQ 0) (cQ (.int 0)))) (nameG 4) (seqS (asgS (ifQ (bQ (opQ (eqDQ id) (opQ ixQ (opQ ixQ (varQ 2) (varQ 4)) (cQ (.int 0))) (cQ (.int 0)))) (lstQ (consQ (opQ ixQ (varQ 1) (varQ 4)) nilQ)) (lstQ nilQ)) (nameG 5)) (seqS (forS (seqI (opQ ixQ (varQ 0) (cQ (.int 2)))) (tupG 3 (consG (nameG 6) (consG (nameG 7) (consG (nameG 8) nilG)))) (seqS (ifS (bQ (opQ (eqDQ id) (varQ 6) (varQ 4))) (dropS (mtQ appQ (varQ 5) (fcQ (sp_law_over c) 0 noX (consQ (fcQ (sp_law_times c) 0 noX (consQ (lstQ (consQ (opQ ixQ (varQ 1) (varQ 7)) (consQ (varQ 8) nilQ))) nilQ)) (consQ (opQ ixQ (varQ 2) (varQ 7)) nilQ))))) nextS) (ifS (bQ (opQ (eqDQ id) (varQ 7) (varQ 4))) (dropS (mtQ appQ (varQ 5) (fcQ (sp_law_over c) 0 noX (consQ (fcQ (sp_law_times c) 0 noX (consQ (lstQ (consQ (opQ ixQ (varQ 1) (varQ 6)) (consQ (varQ 8) nilQ))) nilQ)) (consQ (opQ ixQ (varQ 2) (varQ 6)) nilQ))))) nextS))) (dropS (mtQ appQ (varQ 3) (fcQ (sp_law_sum c) 0 noX (consQ (varQ 5) nilQ))))))) (retS (varQ 3))))

def rd_law_after (c : Str → Addr) (E : XQ) : SQ :=
  (seqS (asgS (lcE (rg1I (opQ ixQ (varQ 0) (cQ (.int 0)))) (nameG 5) yesT (tupQ (consQ (callQ intQ (consQ (opQ (eqDQ id) (varQ 5) (varQ 1)) nilQ)) (consQ (cQ (.int 1)) nilQ))) [5]) (nameG 3)) (seqS (forS (rg1I (varQ 2)) (nameG 4) (asgS (fcQ (sp_law_shared c) 0 noX (consQ (varQ 0) (consQ (varQ 3) nilQ))) (nameG 3))) (retS (callQ tupleQ (consQ (varQ 3) nilQ)))))

def rd_law_right (c : Str → Addr) (E : XQ) : SQ :=
  (seqS (ifS (notT (bQ (fcQ (sp_law_like c 8) 0 noX (consQ (lstQ (consQ (fcQ (sp_node_weights c) 0 noX (consQ (varQ 1) nilQ)) (consQ (kcallQ (sp_node_weights c) 1 [0] noX (consQ (varQ 1) nilQ)) nilQ))) (consQ (opQ repQ (lstQ (consQ (callQ tupleQ (consQ (fcQ (sp_law_weights c) 0 noX (consQ (varQ 1) nilQ)) nilQ)) nilQ)) (cQ (.int 2))) nilQ))))) (retS (cQ (.bl false))) nextS) (seqS (parS 2 3 (fcQ (sp_law_draw c) 0 noX (consQ (varQ 0) (consQ (opQ ixQ (varQ 1) (cQ (.int 0))) nilQ))) (fcQ (sp_law_draw c) 0 noX (consQ (varQ 0) (consQ (cQ (.int 10)) nilQ)))) (seqS (asgS (fcQ (sp_law_after c) 0 noX (consQ (varQ 1) (consQ (varQ 2) (consQ (varQ 3) nilQ)))) (nameG 4)) (seqS (asgS (lstQ (consQ (fcQ (sp_chances_after c) 0 noX (consQ (varQ 1) (consQ (varQ 2) (consQ (varQ 3) nilQ)))) (consQ (kcallQ (sp_chances_after c) 3 [2, 1, 0] noX (consQ (varQ 3) (consQ (varQ 2) (consQ (varQ 1) nilQ)))) nilQ))) (nameG 5)) (seqS (ifS (notT (bQ (fcQ (sp_law_like c 8) 0 noX (consQ (opQ catQ (varQ 5) (lstQ (consQ (kcallQ (sp_step_chances c) 2 [1, 0] noX (consQ (varQ 2) (consQ (varQ 1) nilQ))) nilQ))) (consQ (lstQ (consQ (varQ 4) (consQ (varQ 4) (consQ (fcQ (sp_law_after c) 0 noX (consQ (varQ 1) (consQ (varQ 2) (consQ (cQ (.int 1)) nilQ)))) nilQ)))) nilQ))))) (retS (cQ (.bl false))) nextS) (seqS (parS 6 7 (fcQ (sp_law_weights c) 0 noX (consQ (varQ 1) nilQ)) (fcQ (sp_law_draw c) 0 noX (consQ (varQ 0) (consQ (opQ ixQ (varQ 1) (cQ (.int 0))) nilQ)))) (seqS (asgS (opQ ixQ (fcQ (sp_chances_after c) 0 noX (consQ (varQ 1) (consQ (varQ 7) (consQ (varQ 3) nilQ)))) (varQ 2)) (nameG 8)) (seqS (ifS (bQ (opQ (eqDQ not) (fcQ (sp_law_times c) 0 noX (consQ (lstQ (consQ (opQ ixQ (varQ 6) (varQ 2)) (consQ (opQ ixQ (varQ 4) (varQ 7)) nilQ))) nilQ)) (fcQ (sp_law_times c) 0 noX (consQ (lstQ (consQ (opQ ixQ (varQ 6) (varQ 7)) (consQ (varQ 8) nilQ))) nilQ)))) (retS (cQ (.bl false))) nextS) (retS (opQ (eqDQ id) (fcQ (sp_law_sum c) 0 noX (consQ (varQ 4) nilQ)) (tupQ (consQ (cQ (.int 1)) (consQ (cQ (.int 1)) nilQ)))))))))))))

def rd_law_refused_right (c : Str → Addr) (E : XQ) : SQ :=
  (seqS (asgS (tupQ (consQ (fcQ (sp_law_of c) 0 noX (consQ (varQ 0) (consQ (lstQ (consQ (negQ (cQ (.int 1))) (consQ (opQ ixQ (varQ 1) (cQ (.int 0))) (consQ (cQ (.bl true)) (consQ (cQ .non) (consQ (cQ (.str "0")) (consQ (tupQ (consQ (cQ (.int 0)) nilQ)) nilQ))))))) nilQ))) (consQ (fcQ (sp_law_of c) 0 noX (consQ (varQ 0) (consQ (lstQ (consQ (negQ (cQ (.int 1))) (consQ (cQ (.int 61)) (consQ (cQ (.bl false)) (consQ (cQ .non) (consQ (tupQ (consQ (cQ (.int 3)) nilQ)) nilQ)))))) nilQ))) nilQ))) (tupG 2 (consG (nameG 8) (consG (nameG 7) nilG)))) (seqS (asgS (lstQ (consQ (tupQ (consQ (cQ .non) (consQ (cQ (.str "form")) nilQ))) (consQ (tupQ (consQ (tupQ (consQ (cQ (.int 49)) (consQ (cQ (.int 0)) (consQ (tupQ nilQ) nilQ)))) (consQ (cQ (.str "nodes")) nilQ))) (consQ (tupQ (consQ (tupQ (consQ (cQ (.int 2)) (consQ (cQ (.int 3)) (consQ (tupQ nilQ) nilQ)))) (consQ (cQ (.str "ports")) nilQ))) (consQ (tupQ (consQ (tupQ (consQ (cQ (.int 2)) (consQ (cQ (.int 1)) (consQ (tupQ (consQ (tupQ (consQ (cQ (.int 0)) (consQ (cQ (.int 1)) (consQ (tupQ (consQ (cQ (.int 0)) (consQ (cQ (.int 1)) nilQ))) nilQ)))) nilQ)) nilQ)))) (consQ (cQ (.int 0)) nilQ))) nilQ))))) (nameG 2)) (seqS (asgS (fcQ (sp_law_of c) 0 noX (consQ (varQ 0) (consQ (varQ 2) nilQ))) (tupG 2 (consG (nameG 6) (consG (nameG 3) nilG)))) (seqS (asgS (lstQ (consQ (lamQ (fun W => fcQ (sp_node_weights c) 0 W (consQ (varQ 6) nilQ)) (heardE heardL c)) (consQ (lamQ (fun W => fcQ (sp_chances_after c) 0 W (consQ (varQ 6) (consQ (varQ 8) (consQ (varQ 7) nilQ)))) (heardE heardL c)) (consQ (lamQ (fun W => fcQ (sp_chances_after c) 0 W (consQ (varQ 1) (consQ (varQ 8) (consQ (varQ 7) nilQ)))) (heardE heardL c)) (consQ (lamQ (fun W => fcQ (sp_chances_after c) 0 W (consQ (varQ 1) (consQ (cQ (.int 0)) (consQ (varQ 7) nilQ)))) (heardE heardL c)) (consQ (lamQ (fun W => fcQ (sp_step_chances c) 0 W (consQ (varQ 1) (consQ (varQ 8) nilQ))) (heardE heardL c)) (consQ (lamQ (fun W => fcQ (sp_step_chances c) 0 W (consQ (tupQ (consQ (cQ (.int 0)) (consQ (cQ (.int 0)) (consQ (tupQ nilQ) nilQ)))) (consQ (cQ (.int 0)) nilQ))) (heardE heardL c)) nilQ))))))) (nameG 4)) (seqS (asgS (lstQ (consQ (lstQ (consQ (cQ (.str "net")) (consQ (varQ 3) nilQ))) (consQ (lstQ (consQ (cQ (.str "net")) (consQ (varQ 3) nilQ))) (consQ (lstQ (consQ (cQ (.str "nodes")) (consQ (varQ 8) nilQ))) (consQ (lstQ (consQ (cQ (.str "number")) (consQ (varQ 7) nilQ))) (consQ (lstQ (consQ (cQ (.str "nodes")) (consQ (varQ 8) nilQ))) nilQ)))))) (nameG 5)) (retS (fcQ (sp_law_like c 8) 0 noX (consQ (varQ 4) (consQ (opQ catQ (varQ 5) (lstQ (consQ (lstQ (consQ (cQ (.str "nodes")) (consQ (cQ (.int 0)) nilQ))) nilQ))) nilQ)))))))))

def rd_law (c : Str → Addr) (E : XQ) : SQ :=
  (seqS (asgS (fcQ (sp_law_begun c) 0 noX (consQ (varQ 0) nilQ)) (nameG 1)) (seqS (forS (rg1I (cQ (.int 4))) (nameG 2) (seqS (asgS (fcQ (sp_law_any_net c) 0 noX (consQ (varQ 1) nilQ)) (nameG 3)) (ifS (notT (bQ (fcQ (sp_law_right c) 0 noX (consQ (varQ 1) (consQ (varQ 3) nilQ))))) (retS (cQ (.bl false))) nextS))) (seqS (ifS (andT (bQ (opQ (eqDQ id) (fcQ (sp_law_draw c) 0 noX (consQ (varQ 1) (consQ (cQ (.int 3)) nilQ))) (cQ (.int 0)))) (notT (bQ (fcQ (sp_law_right c) 0 noX (consQ (varQ 1) (consQ (fcQ (sp_law_great_net c) 0 noX (consQ (varQ 1) nilQ)) nilQ)))))) (retS (cQ (.bl false))) nextS) (seqS (asgS (tupQ (consQ (cQ (.int 2)) (consQ (fcQ (sp_law_draw c) 0 noX (consQ (varQ 1) (consQ (cQ (.int 3)) nilQ))) (consQ (tupQ (consQ (tupQ (consQ (cQ (.int 0)) (consQ (cQ (.int 1)) (consQ (fcQ (sp_law_strength c) 0 noX (consQ (varQ 1) nilQ)) nilQ)))) nilQ)) nilQ)))) (nameG 4)) (seqS (ifS (notT (bQ (fcQ (sp_law_like c 8) 0 noX (consQ (fcQ (sp_chances_after c) 0 noX (consQ (varQ 4) (consQ (cQ (.int 0)) (consQ (opQ (I20 fun i j => .int (i - j)) (cQ (.int 60)) (opQ (I2 CMulW fun i j => .int (i * j)) (fcQ (sp_law_draw c) 0 noX (consQ (varQ 1) (consQ (cQ (.int 2)) nilQ))) (cQ (.int 2)))) nilQ)))) (consQ (tupQ (consQ (tupQ (consQ (cQ (.int 1)) (consQ (cQ (.int 1)) nilQ))) (consQ (tupQ (consQ (cQ (.int 0)) (consQ (cQ (.int 1)) nilQ))) nilQ))) nilQ))))) (retS (cQ (.bl false))) nextS) (retS (andV (fcQ (sp_law_like c 8) 0 noX (consQ (fcQ (sp_node_weights c) 0 noX (consQ (tupQ (consQ (cQ (.int 0)) (consQ (cQ (.int 0)) (consQ (tupQ nilQ) nilQ)))) nilQ)) (consQ (tupQ nilQ) nilQ))) (fcQ (sp_law_refused_right c) 0 noX (consQ (varQ 1) (consQ (varQ 3) nilQ))))))))))

end L3

/-! L4a: the readings of the reckoning with fractions keep their promises. -/
namespace L3
open PySem PySem.Spec PyProof.Rows L2 L4
abbrev fin (Q : VQ) : EndQ := { nx := fun _ h' => Q .non h', rt := rtQ Q }
variable {c : Str → Addr} {xs : List PV} {h : Hq} {Q : VQ} {E : XQ}
theorem gcd_step (a b : Int) (h : 0 < b) : Int.gcd b (a % b) = Int.gcd a b := by
  rw [Int.gcd_comm a b, Int.emod_def, Int.gcd_sub_mul_left_right]
theorem spec_gcd_loop {D : EndQ} {h : Hq} : ∀ (k : Nat) (a b : Int), 0 ≤ a → 0 ≤ b → b.toNat < k → D.nx [some (.int (Int.gcd a b : Nat)), some (.int 0)] h →
    whQ (bQ (opQ (eqDQ not) (varQ 1) (cQ (.int 0)))) (parS 0 1 (varQ 1) (opQ (I2 (fun _ j => 0 < j) fun i j => .int (i % j)) (callQ intQ (consQ (varQ 0) nilQ)) (varQ 1))) D k [some (.int a), some (.int b)] h
  | 0, a, b, _, _, hk, _ => by omega
  | k + 1, a, b, ha, hb, hk, q => by
    unfold whQ
    simp
    by_cases e : b = 0
    · subst e
      simp
      have : ((Int.gcd a 0 : Nat) : Int) = a := by simp [Int.gcd_zero_right]; omega
      rw [this] at q
      exact q
    · have hb' : 0 < b := by omega
      simp [e, hb']
      refine wk_same (spec_gcd_loop k b (a % b) hb (Int.emod_nonneg _ e) ?_ ?_)
      · have := Int.emod_lt_of_pos a hb'
        omega
      · rw [gcd_step a b hb']
        exact q
theorem spec_gcd (hsp : sp_gcd c xs h Q E) : rd_gcd c E (fin Q) (startQ ["one", "other"] xs) h := by
  obtain ⟨a, b, rfl, q⟩ := hsp
  unfold rd_gcd
  simp
  refine ⟨b.natAbs + 1, spec_gcd_loop _ _ _ (by omega) (by omega) (by omega) ?_⟩
  refine ⟨_, rfl, rtQ.same ?_⟩
  have : Int.gcd (a.natAbs : Int) (b.natAbs : Int) = Int.gcd a b := by
    simp [Int.gcd]
  rw [this]
  exact q
theorem log_lt {n k : Nat} (h : n < 2 ^ k) (hk : 0 < k) : n.log2 < k := by
  by_cases hn : n = 0
  · subst hn
    simpa using hk
  · exact (Nat.log2_lt hn).mpr h
theorem mulW {i j : Int} {a b : Nat} (h1 : i.natAbs < 2 ^ a) (h2 : j.natAbs < 2 ^ b) (ha : 0 < a) (hb : 0 < b) (h : a + b ≤ 1000000) : CMulW i j := by
  have := log_lt h1 ha
  have := log_lt h2 hb
  unfold CMulW
  omega
theorem Fits.num {a : Rat} (f : Fits a) : a.num.natAbs < 2 ^ 20000 := f.1
theorem Fits.den {a : Rat} (f : Fits a) : ((a.den : Int)).natAbs < 2 ^ 9000 := by simpa using f.2
theorem tt (a b : PV) : [a, b].length ≤ sizeLine := sz2 a b
theorem spec_ratio (hsp : sp_ratio c xs h Q E) : rd_ratio c E (fin Q) (startQ ["upper", "under", "common"] xs) h := by
  obtain ⟨a, b, rfl, hb, hs, q⟩ := hsp
  unfold rd_ratio
  have key : ∀ a b : Int, 0 < b → b.natAbs < 2 ^ 9000 → CDivW a (Int.gcd a b : Nat) ∧ CDivW b (Int.gcd a b : Nat) := by
    intro a b hb hs
    have h0 : 0 < Int.gcd a b := Int.gcd_pos_of_ne_zero_right a (by omega)
    have hl : Int.gcd a b ≤ b.natAbs := Nat.le_of_dvd (by omega) (by rw [Int.gcd]; exact Nat.gcd_dvd_right _ _)
    have : (((Int.gcd a b : Nat) : Int)).natAbs.log2 < 9000 := log_lt (by simpa using Nat.lt_of_le_of_lt hl hs) (by decide)
    exact ⟨⟨by omega, this⟩, ⟨by omega, this⟩⟩
  by_cases hneg : b < 0
  · have k := key (-a) (-b) (by omega) (by rw [Int.natAbs_neg]; exact hs)
    simp [hneg]
    refine ⟨-a, -b, rfl, ?_⟩
    simp
    simp at k
    refine ⟨k.1, k.2, by decide, rtQ.same ?_⟩
    obtain ⟨e1, e2⟩ := ratio_neg (p := a) hneg
    unfold frac at q
    rw [e1, e2] at q
    exact q
  · have k := key a b (by omega) hs
    simp [hneg]
    refine ⟨a, b, rfl, ?_⟩
    simp
    refine ⟨k.1, k.2, by decide, rtQ.same ?_⟩
    obtain ⟨e1, e2⟩ := ratio_pos (p := a) (q := b) (by omega)
    unfold frac at q
    rw [e1, e2] at q
    exact q
theorem natAbs_den (a b : Rat) : ((a.den : Int) * (b.den : Int)).natAbs = a.den * b.den := by
  rw [Int.natAbs_mul]; rfl
theorem den_ne (a : Rat) : (a.den : Int) ≠ 0 := by have := a.den_nz; omega
theorem spec_ratio_sum (hsp : sp_ratio_sum c xs h Q E) : rd_ratio_sum c E (fin Q) (startQ ["one", "other"] xs) h := by
  obtain ⟨a, b, rfl, fa, fb, hd, q⟩ := hsp
  unfold rd_ratio_sum frac
  simp
  refine ⟨mulW fa.num fb.den (by decide) (by decide) (by decide), mulW fb.num fa.den (by decide) (by decide) (by decide), mulW fa.den fb.den (by decide) (by decide) (by decide), _, _, rfl, Int.mul_ne_zero (den_ne a) (den_ne b), ?_, rtQ.same ?_⟩
  · rw [natAbs_den]; exact hd
  · rw [add_eq] at q
    exact q
theorem spec_ratio_times (hsp : sp_ratio_times c xs h Q E) : rd_ratio_times c E (fin Q) (startQ ["one", "other"] xs) h := by
  obtain ⟨a, b, rfl, fa, fb, hd, q⟩ := hsp
  unfold rd_ratio_times frac
  simp
  refine ⟨mulW fa.num fb.num (by decide) (by decide) (by decide), mulW fa.den fb.den (by decide) (by decide) (by decide), _, _, rfl, Int.mul_ne_zero (den_ne a) (den_ne b), ?_, rtQ.same ?_⟩
  · rw [natAbs_den]; exact hd
  · rw [mul_eq] at q
    exact q
theorem num_ne {b : Rat} (h : b ≠ 0) : b.num ≠ 0 := fun z => h (Rat.num_eq_zero.mp z)
theorem spec_ratio_over (hsp : sp_ratio_over c xs h Q E) : rd_ratio_over c E (fin Q) (startQ ["one", "other"] xs) h := by
  obtain ⟨a, b, rfl, fa, fb, hb, hd, q⟩ := hsp
  unfold rd_ratio_over frac
  simp
  refine ⟨mulW fa.num fb.den (by decide) (by decide) (by decide), mulW fa.den fb.num (by decide) (by decide) (by decide), _, _, rfl, Int.mul_ne_zero (den_ne a) (num_ne hb), ?_, rtQ.same ?_⟩
  · rw [Int.natAbs_mul]; exact hd
  · rw [div_eq] at q
    exact q
theorem sum_take_succ {qs : List Rat} {k : Nat} {q : Rat} (e : qs[k]? = some q) : (qs.take (k + 1)).sum = (qs.take k).sum + q := by
  rw [List.take_add_one, e]
  simp [Rat.add_zero]
theorem total_loop {D : EndQ} {x : PV} {qs : List Rat} (sf : SumsFit qs) {h : Hq} {body : SQ} {st : Hq → Prop} (hst : st h) (hb : ∀ (a b : Rat) (z : Option PV) (D : EndQ) (h : Hq), Fits a → Fits b → a.den * b.den < 2 ^ 9000 → (D.nx [some x, some (frac (a + b)), some (frac b)] h) → body D [some x, some (frac a), some (frac b)] h)
    (fin : ∀ z, D.nx [some x, some (frac qs.sum), z] h) : ∀ (m k : Nat) (z : Option PV), m + k = qs.length → forQ st (nameG 2) body D ((qs.drop k).map frac) [some x, some (frac (qs.take k).sum), z] h
  | 0, k, z, hm => by
    rw [List.drop_of_length_le (by omega), List.map_nil, s_forN, List.take_of_length_le (by omega)]
    exact ⟨hst, fin z⟩
  | m + 1, k, z, hm => by
    have hk : k < qs.length := by omega
    rw [List.drop_eq_getElem_cons hk, List.map_cons, s_forC]
    have e : qs[k]? = some qs[k] := List.getElem?_eq_getElem hk
    obtain ⟨f1, f2, f3⟩ := sf k _ e
    refine ⟨hst, ?_⟩
    simp only [s_name, List.set_cons_succ, List.set_cons_zero]
    refine hb _ _ none _ _ f1 f2 f3 (wk_same ?_)
    rw [← sum_take_succ e]
    exact total_loop sf hst hb fin m (k + 1) _ (by omega)
theorem spec_ratio_total (hsp : sp_ratio_total c xs h Q E) : rd_ratio_total c E (fin Q) (startQ ["fractions", "found", "one"] xs) h := by
  obtain ⟨x, qs, rfl, hx, sf, q⟩ := hsp
  unfold rd_ratio_total
  simp
  refine ⟨_, hx, ?_⟩
  have := total_loop (D := { fin Q with nx := retS (varQ 1) (fin Q) }) (x := x) sf (h := h) (body := asgS (fcQ (sp_ratio_sum c) 0 noX (consQ (varQ 1) (consQ (varQ 2) nilQ))) (nameG 1)) (st := stOf x (qs.map frac)) hx
    (fun a b z D h fa fb hd k => by
      simp
      exact ⟨a, b, rfl, fa, fb, hd, k⟩) (fun z => ⟨_, rfl, rtQ.same q⟩) qs.length 0 none (by omega)
  simpa [frac] using this
end L3

/-! L4b: the readings of what judges values keep their promises. -/
namespace L3
open PySem PySem.Spec PyProof.Rows L2 L4
variable {c : Str → Addr} {xs : List PV} {h : Hq} {Q : VQ} {E : XQ}
@[simp] theorem ty_non : tyOf h .non = some "NoneType" := rfl
@[simp] theorem ty_bl {b : Bool} : tyOf h (.bl b) = some "bool" := rfl
@[simp] theorem ty_int {b : Int} : tyOf h (.int b) = some "int" := rfl
@[simp] theorem ty_str {b : Str} : tyOf h (.str b) = some "str" := rfl
@[simp] theorem ty_tup {b : List PV} : tyOf h (.tup b) = some "tuple" := rfl
@[simp] theorem ty_fl {b : List PV} : tyOf h (.fl b) = some "list" := rfl
theorem spec_is_whole (hsp : sp_is_whole c xs h Q E) : rd_is_whole c E (fin Q) (startQ ["value", "least", "most"] xs) h := by
  obtain ⟨x, l, m, rfl, hx, hl, hm, q⟩ := hsp
  unfold rd_is_whole
  cases x with
  | ref a => cases hx
  | int i =>
    simp [isTy]
    cases l <;> first | cases hl | skip
    all_goals cases m <;> first | cases hm | skip
    all_goals simp
    all_goals simp [wholeQ, loQ, hiQ] at q
    · exact rtQ.same q
    · exact rtQ.same q
    · rename_i k
      by_cases hk : k ≤ i
      · exact .inr ⟨hk, rtQ.same (by simpa [hk] using q)⟩
      · exact .inl ⟨by omega, rtQ.same (by simpa [hk] using q)⟩
    · rename_i k k2
      by_cases hk : k ≤ i
      · exact .inr ⟨hk, rtQ.same (by simpa [hk] using q)⟩
      · exact .inl ⟨by omega, rtQ.same (by simpa [hk] using q)⟩
  | _ =>
    simp [isTy]
    simp [wholeQ] at q
    exact rtQ.same q
theorem spec_is_row (hsp : sp_is_row c xs h Q E) : rd_is_row c E (fin Q) (startQ ["value", "length"] xs) h := by
  obtain ⟨x, n, rfl, hx, hn, q⟩ := hsp
  unfold rd_is_row
  cases x with
  | ref a => cases hx
  | tup ys =>
    simp [isTy]
    cases n <;> first | cases hn | skip
    all_goals simp
    all_goals simp [rowQ] at q
    · exact rtQ.same q
    · refine rtQ.same ?_
      rename_i k
      have e : ((ys.length : Int) == k) = decide ((ys.length : Int) = k) := rfl
      rw [e]
      exact q
  | _ =>
    simp [isTy]
    simp [rowQ] at q
    exact rtQ.same q
theorem gcd_frac (q : Rat) : Int.gcd q.num (q.den : Int) = 1 := by
  have := q.reduced
  unfold Nat.Coprime at this
  rw [Int.gcd]
  simpa using this
theorem spec_is_fraction (hsp : sp_is_fraction c xs h Q E) : rd_is_fraction c E (fin Q) (startQ ["value"] xs) h := by
  obtain ⟨r, rfl, q⟩ := hsp
  unfold rd_is_fraction frac
  simp
  refine ⟨_, _, rfl, rfl, rfl, ?_⟩
  simp [rowQ]
  refine ⟨_, _, _, rfl, rfl, rfl, rfl, ?_⟩
  simp [wholeQ, loQ, hiQ]
  refine ⟨_, _, _, rfl, rfl, rfl, rfl, ?_⟩
  have hd : (1 : Int) ≤ (r.den : Int) := by have := den_pos' r; omega
  simp [wholeQ, loQ, hiQ, hd]
  refine ⟨_, _, rfl, ?_⟩
  simp [gcd_frac]
  exact rtQ.same q
end L3

/-! L4c: the readings of what judges nets keep their promises. -/
namespace L3
open PySem PySem.Spec PyProof.Rows L2 L4
variable {c : Str → Addr} {xs : List PV} {h : Hq} {Q : VQ} {E : XQ}
theorem num_pos {q : Rat} : 0 < q.num ↔ 0 < q := by
  rw [Rat.lt_iff]
  have := den_pos' q
  simp
theorem wP_eq (w : W3) : wP w = .tup [.int w.1, .int w.2.1, frac w.2.2] := rfl
theorem wQ_lo (n : Int) (a : Nat) : wholeQ (.int 0) (.int n) (.int (a : Nat)) = decide ((a : Int) ≤ n) := by
  have : (0 : Int) ≤ (a : Int) := by omega
  simp [wholeQ, loQ, hiQ]
theorem spec_is_wire (hsp : sp_is_wire c xs h Q E) : rd_is_wire c E (fin Q) (startQ ["nodes", "value"] xs) h := by
  obtain ⟨n, ⟨a, b, s⟩, rfl, q⟩ := hsp
  unfold rd_is_wire
  simp [wP_eq]
  refine ⟨_, _, rfl, rfl, rfl, ?_⟩
  simp [rowQ]
  refine ⟨_, _, _, rfl, rfl, rfl, rfl, ?_⟩
  rw [wQ_lo]
  by_cases ha : (a : Int) ≤ n - 1
  · simp [ha]
    refine ⟨_, _, _, rfl, rfl, rfl, rfl, ?_⟩
    rw [wQ_lo]
    by_cases hb : (b : Int) ≤ n - 1
    · simp [hb]
      by_cases hab : a < b
      · refine .inr ⟨by omega, s, rfl, ?_⟩
        simp [frac]
        refine rtQ.same ?_
        have e : decide (a < b ∧ b < n ∧ 0 < s) = decide (0 < s.num) := by
          have h1 : b < n := by omega
          simp [hab, h1, num_pos]
        rw [← e]
        exact q
      · refine .inl ⟨by omega, rtQ.same ?_⟩
        simpa [hab] using q
    · simp [hb]
      have : ¬ b < n := by omega
      refine rtQ.same ?_
      simpa [this] using q
  · simp [ha]
    have : ¬ (a < b ∧ b < n ∧ 0 < s) := by omega
    refine rtQ.same ?_
    simpa [this] using q
/-- the walk over the wires: up to place k all is well -/
theorem fault_loop {D : EndQ} {n : Nat} {ws : List W3} {h : Hq} {g : GQ} {body : SQ} (hok : ∀ w ∈ ws, w.1 < w.2.1 ∧ w.2.1 < n ∧ 0 < w.2.2) (srt : ws.Pairwise fun x y => ltW (wW y) (wW x) = false) {Z : Sq → Prop} (hz : ∀ (i : Nat) (w : W3) (D : EndQ) (s : Sq), Z s → ws[i]? = some w → (w.1 < w.2.1 ∧ w.2.1 < n ∧ 0 < w.2.2) → (0 < i → ∃ v, ws[i - 1]? = some v ∧ ltW (wW w) (wW v) = false) → (∀ s, Z s → D.nx s h) → g (.tup [.int (i : Nat), wP w]) s h fun s1 h1 => body D s1 h1)
    (fn : ∀ s, Z s → D.nx s h) : ∀ (m k : Nat) (s : Sq), m + k = ws.length → Z s → forQ (fun _ => True) g body D (enQ k ((ws.drop k).map wP)) s h
  | 0, k, s, hm, z => by
    rw [List.drop_of_length_le (by omega), List.map_nil]
    exact ⟨trivial, fn s z⟩
  | m + 1, k, s, hm, z => by
    have hk : k < ws.length := by omega
    rw [List.drop_eq_getElem_cons hk, List.map_cons]
    show True ∧ _
    refine ⟨trivial, ?_⟩
    refine hz k ws[k] _ s z (List.getElem?_eq_getElem hk) (hok _ (List.getElem_mem hk)) (fun h0 => ?_) fun s1 z1 => wk_same (fault_loop hok srt hz fn m (k + 1) s1 (by omega) z1)
    have hk1 : k - 1 < ws.length := by omega
    exact ⟨ws[k - 1], List.getElem?_eq_getElem hk1, List.pairwise_iff_getElem.mp srt (k - 1) k hk1 hk (by omega)⟩
theorem at_nat {xs : List PV} {i : Nat} {z : PV} (e : xs[i]? = some z) : atQ xs (i : Int) = some z := by rw [atQ_nat]; exact e
theorem spec_net_fault (hsp : sp_net_fault c xs h Q E) : rd_net_fault c E (fin Q) (startQ ["value", "number", "wire"] xs) h := by
  obtain ⟨net, rfl, hh⟩ := hsp
  unfold rd_net_fault
  simp
  rcases hh with ⟨n, p, ws, rfl, gn, q⟩ | ⟨place, fo, q⟩
  · refine ⟨_, _, rfl, rfl, rfl, ?_⟩
    simp [netP, rowQ]
    refine ⟨_, _, rfl, rfl, rfl, ?_⟩
    simp [rowQ]
    refine ⟨_, _, _, rfl, rfl, rfl, rfl, ?_⟩
    have h48 : (n : Int) ≤ 48 := by have := gn.n48; omega
    have hp : (p : Int) ≤ min (n : Int) 8 := by have := gn.pn; have := gn.p8; omega
    rw [wQ_lo]
    simp [h48]
    refine ⟨_, _, _, rfl, rfl, rfl, rfl, ?_⟩
    rw [wQ_lo]
    have hl : ¬ (40 < ws.length) := by have := gn.len; omega
    have hp1 : (p : Int) ≤ n ∧ (p : Int) ≤ 8 := by omega
    simp [hp, hl, hp1]
    refine .inl ⟨by omega, ?_⟩
    show enumI (opQ ixQ (varQ 0) (cQ (.int 2))) _ _ _
    refine ⟨_, rfl, ?_⟩
    simp
    refine fault_loop (n := n) (Z := fun s => ∃ a b, s = [some (netP n p ws), a, b]) gn.ok gn.srt ?hz ?fn ws.length 0 _ (by omega) ⟨_, _, rfl⟩
    case hz =>
      rintro i w D s ⟨a, b, es⟩ hw hk hv kk
      subst es
      simp
      refine ⟨_, rfl, ?_⟩
      simp [netP]
      refine ⟨n, w, rfl, ?_⟩
      simp [hk]
      by_cases h0 : 0 < i
      · obtain ⟨v, e1, e2⟩ := hv h0
        simp [h0]
        refine .inr ⟨wP v, ?_, wW w, wW v, rfl, rfl, ?_⟩
        · have : ((i : Int) - 1) = ((i - 1 : Nat) : Int) := by omega
          rw [this]
          refine at_nat ?_
          rw [List.getElem?_map, e1]
          rfl
        · rw [e2]
          simp
          exact kk _ ⟨_, _, rfl⟩
      · simp [h0]
        exact ⟨by omega, kk _ ⟨_, _, rfl⟩⟩
    case fn =>
      rintro s ⟨a, b, es⟩
      simp
      exact rtQ.same q
  · rcases fo with ⟨rfl, rfl⟩ | ⟨n, p, ws, rfl, hn, rfl⟩ | ⟨n, p, ws, rfl, hn, hp, rfl⟩ | ⟨n, p, w, rfl, hn, hp, hp8, hw, rfl⟩
    · refine ⟨_, _, rfl, rfl, rfl, ?_⟩
      simp [rowQ]
      exact ⟨by decide, rtQ.same q⟩
    · refine ⟨_, _, rfl, rfl, rfl, ?_⟩
      simp [netP, rowQ]
      refine ⟨_, _, rfl, rfl, rfl, ?_⟩
      simp [rowQ]
      refine ⟨_, _, _, rfl, rfl, rfl, rfl, ?_⟩
      rw [wQ_lo]
      have h48 : ¬ (n : Int) ≤ 48 := by omega
      simp [h48]
      exact ⟨by decide, rtQ.same q⟩
    · refine ⟨_, _, rfl, rfl, rfl, ?_⟩
      simp [netP, rowQ]
      refine ⟨_, _, rfl, rfl, rfl, ?_⟩
      simp [rowQ]
      refine ⟨_, _, _, rfl, rfl, rfl, rfl, ?_⟩
      rw [wQ_lo]
      have h48 : (n : Int) ≤ 48 := by omega
      simp [h48]
      refine ⟨_, _, _, rfl, rfl, rfl, rfl, ?_⟩
      rw [wQ_lo]
      have hp1 : ¬ ((p : Int) ≤ min (n : Int) 8) := by omega
      rw [decide_eq_false hp1]
      simp
      exact ⟨by decide, rtQ.same q⟩
    · refine ⟨_, _, rfl, rfl, rfl, ?_⟩
      simp [netP, rowQ]
      refine ⟨_, _, rfl, rfl, rfl, ?_⟩
      simp [rowQ]
      refine ⟨_, _, _, rfl, rfl, rfl, rfl, ?_⟩
      rw [wQ_lo]
      have h48 : (n : Int) ≤ 48 := by omega
      simp [h48]
      refine ⟨_, _, _, rfl, rfl, rfl, rfl, ?_⟩
      rw [wQ_lo]
      have hp1 : ((p : Int) ≤ min (n : Int) 8) := by omega
      rw [decide_eq_true hp1]
      simp
      show enumI (opQ ixQ (varQ 0) (cQ (.int 2))) _ _ _
      refine ⟨_, rfl, ?_⟩
      simp
      show True ∧ _
      refine ⟨trivial, ?_⟩
      simp
      refine ⟨n, w, rfl, ?_⟩
      have : ¬ (w.1 < w.2.1 ∧ w.2.1 < n ∧ 0 < w.2.2) := fun z => absurd z.2.2 (Rat.not_lt.mpr hw)
      rw [decide_eq_false this]
      simp
      exact ⟨by decide, rtQ.same q⟩
theorem spec_need_net (hsp : sp_need_net c xs h Q E) : rd_need_net c E (fin Q) (startQ ["net", "fault"] xs) h := by
  obtain ⟨net, rfl, hh⟩ := hsp
  unfold rd_need_net
  simp
  refine ⟨_, rfl, ?_⟩
  rcases hh with ⟨n, p, ws, e, gn, q⟩ | ⟨place, fo, q⟩
  · refine .inl ⟨n, p, ws, e, gn, ?_⟩
    simp
    refine ⟨.tuple [], .tuple [], rfl, rfl, rfl, rfl, ?_⟩
    have : PyData.eqv (.tuple []) (.tuple []) = true := by decide
    simp [this]
    exact rtQ.same q
  · refine .inr ⟨place, fo, ?_⟩
    simp
    have hd : ∃ d, datF place = some d ∧ SeqAt.shaped (.tuple [d]) = true := by
      rcases fo with ⟨_, rfl⟩ | ⟨_, _, _, _, _, rfl⟩ | ⟨_, _, _, _, _, _, rfl⟩ | ⟨_, _, _, _, _, _, _, _, rfl⟩ <;> exact ⟨_, rfl, by decide +kernel⟩
    obtain ⟨d, hd, hs⟩ := hd
    refine ⟨.tuple [d], .tuple [], ?_, rfl, ?_, rfl, ?_⟩
    · show datF (.tup [place]) = _
      simp [datF, datFs, hd]
    · exact hs
    · have : PyData.eqv (.tuple [d]) (.tuple []) = false := rfl
      simp [this]
      exact q
theorem spec_need_node (hsp : sp_need_node c xs h Q E) : rd_need_node c E (fin Q) (startQ ["net", "node"] xs) h := by
  obtain ⟨n, p, ws, x, rfl, hx, q1, q2⟩ := hsp
  unfold rd_need_node
  simp [netP]
  refine ⟨_, _, _, rfl, hx, rfl, rfl, ?_⟩
  by_cases e : wholeQ (.int 0) (.int ((n : Int) - 1)) x = true
  · simp [e]
    exact rtQ.same (q1 e)
  · have e : wholeQ (.int 0) (.int ((n : Int) - 1)) x = false := by simpa using e
    simp [e]
    exact q2 e
end L3

/-! L4d: sums that fit. -/
namespace L4
open L3
theorem num_le {q : Rat} {M : Nat} (h0 : 0 ≤ q) (h : q ≤ (M : Rat)) : q.num.natAbs ≤ M * q.den := by
  rw [Rat.le_iff] at h
  have := Rat.num_nonneg.mpr h0
  simp only [Rat.num_natCast, Rat.den_natCast] at h
  have h2 : q.num ≤ ((M * q.den : Nat) : Int) := by
    rw [Int.natCast_mul]
    simpa using h
  omega
theorem sum_nonneg : ∀ {qs : List Rat}, (∀ q ∈ qs, 0 ≤ q) → 0 ≤ qs.sum
  | [], _ => by simp
  | q :: qs, h => by
    rw [List.sum_cons]
    have a := h q List.mem_cons_self
    have b := sum_nonneg (qs := qs) fun r hr => h r (List.mem_cons_of_mem _ hr)
    grind
theorem sum_le {M : Nat} : ∀ {qs : List Rat}, (∀ q ∈ qs, q ≤ (M : Rat)) → qs.sum ≤ ((qs.length * M : Nat) : Rat)
  | [], _ => by simp
  | q :: qs, h => by
    rw [List.sum_cons, List.length_cons]
    have a := h q List.mem_cons_self
    have b := sum_le (qs := qs) fun r hr => h r (List.mem_cons_of_mem _ hr)
    have e : (((qs.length + 1) * M : Nat) : Rat) = ((qs.length * M : Nat) : Rat) + (M : Rat) := by
      rw [Nat.add_mul, Nat.one_mul, Rat.natCast_add]
    rw [e]
    grind
theorem sum_inZ {D : Nat} : ∀ {qs : List Rat}, (∀ q ∈ qs, InZ D q) → InZ D qs.sum
  | [], _ => by simpa using InZ.zero D
  | q :: qs, h => by
    rw [List.sum_cons]
    exact (h q List.mem_cons_self).add (sum_inZ fun r hr => h r (List.mem_cons_of_mem _ hr))
theorem fits_of {q : Rat} {D M : Nat} (hD : 0 < D) (hz : InZ D q) (h0 : 0 ≤ q) (hM : q ≤ (M : Rat)) (hM2 : M ≤ 2 ^ 1000) (hDD : D < 2 ^ 9000) : Fits q := by
  have hd := hz.den_le hD
  have hn := num_le h0 hM
  refine ⟨?_, Nat.lt_of_le_of_lt hd hDD⟩
  have h1 : M * q.den ≤ 2 ^ 1000 * 2 ^ 9000 := Nat.mul_le_mul hM2 (by omega)
  rw [← Nat.pow_add] at h1
  have h2 : (2 : Nat) ^ (1000 + 9000) < 2 ^ 20000 := Nat.pow_lt_pow_right (by decide) (by decide)
  omega
theorem lt_of_sq {D K : Nat} (h : D * D < K) : D < K := by
  by_cases hd : D = 0
  · subst hd; omega
  · have : D * 1 ≤ D * D := Nat.mul_le_mul_left D (by omega)
    omega
theorem sumsFit_of {qs : List Rat} {D M : Nat} (hD : 0 < D) (hz : ∀ q ∈ qs, InZ D q) (h0 : ∀ q ∈ qs, 0 ≤ q) (hM : ∀ q ∈ qs, q ≤ (M : Rat)) (hl : qs.length * M ≤ 2 ^ 1000) (hM2 : M ≤ 2 ^ 1000) (hDD : D * D < 2 ^ 9000) : SumsFit qs := by
  intro k q e
  have hq : q ∈ qs := List.mem_of_getElem? e
  have hD1 : D < 2 ^ 9000 := lt_of_sq hDD
  have ht : ∀ r ∈ qs.take k, r ∈ qs := fun r hr => List.mem_of_mem_take hr
  have z1 : InZ D (qs.take k).sum := sum_inZ fun r hr => hz r (ht r hr)
  have b1 : (qs.take k).sum ≤ (((qs.take k).length * M : Nat) : Rat) := sum_le fun r hr => hM r (ht r hr)
  have b2 : (qs.take k).length * M ≤ 2 ^ 1000 := Nat.le_trans (Nat.mul_le_mul_right M (List.length_take_le' _ _)) hl
  refine ⟨fits_of hD z1 (sum_nonneg fun r hr => h0 r (ht r hr)) b1 b2 hD1, fits_of hD (hz q hq) (h0 q hq) (hM q hq) hM2 hD1, ?_⟩
  exact Nat.lt_of_le_of_lt (Nat.mul_le_mul (z1.den_le hD) ((hz q hq).den_le hD)) hDD
def denProd : List Rat → Nat
  | [] => 1
  | q :: r => q.den * denProd r
theorem denProd_pos : ∀ qs, 0 < denProd qs
  | [] => Nat.one_pos
  | q :: r => Nat.mul_pos (Nat.pos_of_ne_zero q.den_nz) (denProd_pos r)
theorem denProd_dvd : ∀ {qs : List Rat} {q : Rat}, q ∈ qs → q.den ∣ denProd qs
  | r :: qs, q, h => by
    rcases List.mem_cons.mp h with e | h
    · rw [e]; exact Nat.dvd_mul_right _ _
    · exact Nat.dvd_trans (denProd_dvd h) (Nat.dvd_mul_left _ _)
theorem denProd_le {B : Nat} : ∀ {qs : List Rat}, (∀ q ∈ qs, q.den ≤ B) → denProd qs ≤ B ^ qs.length
  | [], _ => by simp [denProd]
  | q :: qs, h => by
    rw [denProd, List.length_cons, Nat.pow_succ, Nat.mul_comm]
    exact Nat.mul_le_mul (denProd_le fun r hr => h r (List.mem_cons_of_mem _ hr)) (h q List.mem_cons_self)
theorem denProd_inZ {qs : List Rat} {q : Rat} (h : q ∈ qs) : InZ (denProd qs) q := (inZ_den q).dvd (denProd_dvd h)
theorem le_num {q : Rat} {B : Nat} (h : q.num.natAbs ≤ B) : q ≤ (B : Rat) := by
  rw [Rat.le_iff]
  simp only [Rat.num_natCast, Rat.den_natCast]
  have h1 : q.num ≤ (B : Int) := by omega
  have h2 : (B : Int) * 1 ≤ (B : Int) * (q.den : Int) := Int.mul_le_mul_of_nonneg_left (by have := den_pos' q; omega) (by omega)
  simpa using (show q.num ≤ (B : Int) * (q.den : Int) by omega)
theorem ten40 : ((10 ^ 6) ^ 40 * (10 ^ 6) ^ 40 : Nat) < 2 ^ 9000 := by
  have h1 : ((10 ^ 6) ^ 40 * (10 ^ 6) ^ 40 : Nat) < 2 ^ 2000 := by decide +kernel
  have h2 : (2 : Nat) ^ 2000 < 2 ^ 9000 := Nat.pow_lt_pow_right (by decide) (by decide)
  omega
/-- some forty strengths -/
theorem strs_fit {qs : List Rat} (hl : qs.length ≤ 40) (h : ∀ q ∈ qs, 0 ≤ q ∧ q.num.natAbs ≤ 10 ^ 6 ∧ q.den ≤ 10 ^ 6) : SumsFit qs := by
  have hp : denProd qs ≤ (10 ^ 6) ^ 40 := Nat.le_trans (denProd_le fun q hq => (h q hq).2.2) (Nat.pow_le_pow_right (by decide) hl)
  refine sumsFit_of (D := denProd qs) (M := 10 ^ 6) (denProd_pos qs) (fun q hq => denProd_inZ hq) (fun q hq => (h q hq).1) (fun q hq => le_num (h q hq).2.1) ?_ ?_ (Nat.lt_of_le_of_lt (Nat.mul_le_mul hp hp) ten40)
  · have h1 : qs.length * 10 ^ 6 ≤ 40 * 10 ^ 6 := Nat.mul_le_mul_right _ hl
    have h2 : (40 * 10 ^ 6 : Nat) ≤ 2 ^ 100 := by decide
    have h3 : (2 : Nat) ^ 100 ≤ 2 ^ 1000 := Nat.pow_le_pow_right (by decide) (by decide)
    exact Nat.le_trans h1 (Nat.le_trans h2 h3)
  · have h2 : (10 ^ 6 : Nat) ≤ 2 ^ 100 := by decide
    have h3 : (2 : Nat) ^ 100 ≤ 2 ^ 1000 := Nat.pow_le_pow_right (by decide) (by decide)
    exact Nat.le_trans h2 h3
end L4

/-! L4e: lists of lists: the wires at each node; the weights. -/
namespace L3
open PySem PySem.Spec PyProof.Rows L2 L4
variable {c : Str → Addr} {xs : List PV} {h : Hq} {Q : VQ} {E : XQ}
theorem nodup_inj {α : Type} {l : List α} (nd : l.Nodup) {i j : Nat} {x : α} (a : l[i]? = some x) (b : l[j]? = some x) : i = j := by
  obtain ⟨hi, ei⟩ := List.getElem?_eq_some_iff.mp a
  obtain ⟨hj, ej⟩ := List.getElem?_eq_some_iff.mp b
  rcases Nat.lt_trichotomy i j with h | h | h
  · exact absurd (ei.trans ej.symm) (List.pairwise_iff_getElem.mp nd i j hi hj h)
  · exact h
  · exact absurd (ej.trans ei.symm) (List.pairwise_iff_getElem.mp nd j i hj hi h)
def delQ (h : Hq) (a : Addr) : Hq := fun b => if b = a then none else h b
theorem delQ_self {h : Hq} {a : Addr} : delQ h a a = none := by unfold delQ; rw [if_pos rfl]
theorem delQ_ne {h : Hq} {a b : Addr} (e : b ≠ a) : delQ h a b = h b := by unfold delQ; rw [if_neg e]
theorem delQ_sub {h : Hq} {a : Addr} : Sub (delQ h a) h := fun b o e => by
  unfold delQ at e
  split at e
  · cases e
  · exact e
theorem sub_delQ {h h1 : Hq} {a : Addr} (s : Sub h h1) (n : h a = none) : Sub h (delQ h1 a) := fun b o e => by
  rw [delQ_ne]
  · exact s b o e
  · intro z; rw [z, n] at e; cases e
/-- lists that nobody changes any more, several -/
theorem freeze_refs {h : Hq} : ∀ {qs : List Addr} {xss : List (List PV)} {h1 : Hq}, qs.length = xss.length → qs.Nodup → (∀ q ∈ qs, h q = none) → (∀ (i : Nat) (q : Addr) (ys : List PV), qs[i]? = some q → xss[i]? = some ys → h1 q = some (.lst ys)) → Sub h h1 →
    ∃ h2, FzS (qs.map .ref) h1 (xss.map .fl) h2 ∧ Sub h h2
  | [], [], h1, _, _, _, _, s => ⟨h1, FzS.nil h1, s⟩
  | q :: qs, ys :: xss, h1, hl, nd, hn, he, s => by
    have e1 := he 0 q ys rfl rfl
    have nd' := List.nodup_cons.mp nd
    obtain ⟨h2, f, s2⟩ := freeze_refs (h := h) (qs := qs) (xss := xss) (h1 := delQ h1 q) (by simpa using hl) nd'.2 (fun r hr => hn r (List.mem_cons_of_mem _ hr)) (fun i r zs e2 e3 => by
      rw [delQ_ne]
      · exact he (i + 1) r zs (by simpa using e2) (by simpa using e3)
      · intro z
        subst z
        exact nd'.1 (List.mem_of_getElem? e2)) (sub_delQ s (hn q List.mem_cons_self))
    exact ⟨h2, .cons (.freeze e1 delQ_sub delQ_self) f, s2⟩
/-- [[] for .. in ..] -/
theorem lc_refs {i : Nat} {s : Sq} : ∀ {its : List PV} {h : Hq} {Q : List PV → Hq → Prop}, (∀ (qs : List Addr) h2, qs.length = its.length → qs.Nodup → (∀ q ∈ qs, h q = none ∧ h2 q = some (.lst [])) → Sub h h2 → Q (qs.map .ref) h2) →
    lcQ (fun _ => True) (nameG i) yesT (lstQ nilQ) s its h Q
  | [], h, Q, q => ⟨trivial, q [] h rfl List.nodup_nil (fun q hq => by cases hq) (Sub.refl h)⟩
  | x :: its, h, Q, q => by
    refine ⟨trivial, ?_⟩
    simp only [s_name, yesT, if_true, s_lst, s_nil]
    refine ⟨by simp, fun p np => ⟨_, Sub.refl _, lc_refs fun qs h2 hl nd hq sb => ?_⟩⟩
    have up1 : Sub h (up h p (.lst [])) := Sub.up np
    refine q (p :: qs) h2 (by simp [hl]) (List.nodup_cons.mpr ⟨fun hm => ?_, nd⟩) (fun r hr => ?_) (up1.trans sb)
    · have := (hq p hm).1
      rw [up_same] at this
      cases this
    · rcases List.mem_cons.mp hr with e | hr
      · subst e
        exact ⟨np, sb _ _ up_same⟩
      · obtain ⟨a, b⟩ := hq r hr
        exact ⟨up1.none a, b⟩
/-- a comprehension whose turns change nothing -/
theorem lc_map {α : Type} {st : Hq → Prop} {g : GQ} {te : TQ} {s : Sq} {h : Hq} {f b : α → PV} (hst : st h) : ∀ {l : List α} {Q : List PV → Hq → Prop}, (∀ x ∈ l, ∀ K : VQ, (∀ h4, Sub h h4 → K (b x) h4) → g (f x) s h fun n2 h2 => te n2 h2 K) → Q (l.map b) h → lcQ st g yesT te s (l.map f) h Q
  | [], Q, _, q => ⟨hst, q⟩
  | x :: l, Q, ht, q => by
    refine ⟨hst, ?_⟩
    have := ht x List.mem_cons_self (fun y h4 => ∃ h5, Sub h5 h4 ∧ lcQ st g yesT te s (l.map f) h5 fun ys h6 => Q (y :: ys) h6) fun h4 s4 => ⟨h, s4, lc_map hst (fun y hy => ht y (List.mem_cons_of_mem _ hy)) q⟩
    have e : (fun n2 h2 => yesT n2 h2 fun bb h3 => if bb = true then te n2 h3 fun y h4 => ∃ h5, Sub h5 h4 ∧ lcQ st g yesT te s (l.map f) h5 fun ys h6 => Q (y :: ys) h6 else ∃ h5, Sub h5 h3 ∧ lcQ st g yesT te s (l.map f) h5 Q) =
        fun n2 h2 => te n2 h2 fun y h4 => ∃ h5, Sub h5 h4 ∧ lcQ st g yesT te s (l.map f) h5 fun ys h6 => Q (y :: ys) h6 := by
      funext n2 h2
      simp only [yesT, if_true]
    show g (f x) s h fun n2 h2 => yesT n2 h2 fun bb h3 => _
    rw [e]
    exact this
/-- the numbers of the first k wires that touch v -/
def atK (ws : List W3) (k v : Nat) : List PV := ((List.range k).filter fun i => touch v (ws.getD i (0, 0, 0))).map fun i => PV.int (i : Nat)
theorem atK_succ (ws : List W3) (k v : Nat) : atK ws (k + 1) v = if touch v (ws.getD k (0, 0, 0)) = true then atK ws k v ++ [.int (k : Nat)] else atK ws k v := by
  unfold atK
  rw [List.range_succ, List.filter_append, List.map_append]
  split
  · rename_i e
    rw [List.filter_cons_of_pos (by simpa using e)]
    rfl
  · rename_i e
    rw [List.filter_cons_of_neg (by simpa using e)]
    simp
theorem atK_len (ws : List W3) (k v : Nat) : (atK ws k v).length ≤ k := by
  unfold atK
  rw [List.length_map]
  exact Nat.le_trans (List.length_filter_le _ _) (by simp)
/-- the state of the walk -/
structure WAt (h h' : Hq) (p : Addr) (qs : List Addr) (ws : List W3) (k : Nat) : Prop where
  sb : Sub h h'
  np : h p = none
  ep : h' p = some (.lst (qs.map .ref))
  pq : p ∉ qs
  nd : qs.Nodup
  nq : ∀ q ∈ qs, h q = none
  eq : ∀ (v : Nat) (q : Addr), qs[v]? = some q → h' q = some (.lst (atK ws k v))
theorem WAt.app {h h' : Hq} {p : Addr} {qs : List Addr} {ws : List W3} {k : Nat} (nn : Nat) (e : qs.length = nn) {a : Nat} {q : Addr} {ys : List PV} (sb : Sub h h') (np : h p = none) (ep : h' p = some (.lst (qs.map .ref))) (pq : p ∉ qs) (hq : qs[a]? = some q) (nq : h q = none) :
    Sub h (up h' q (.lst ys)) ∧ up h' q (.lst ys) p = some (.lst (qs.map .ref)) := by
  have hm := List.mem_of_getElem? hq
  refine ⟨fun b o eb => ?_, ?_⟩
  · rw [up_ne]
    · exact sb b o eb
    · intro z; rw [z, nq] at eb; cases eb
  · rw [up_ne]
    · exact ep
    · intro z; rw [z] at pq; exact pq hm
theorem wires_loop {D : EndQ} {n : Nat} {ws : List W3} {h : Hq} {net : PV} {p : Addr} {qs : List Addr} (hqs : qs.length = n) (hn : n ≤ 48) (hws : ws.length ≤ 40) (hok : ∀ w ∈ ws, w.1 < w.2.1 ∧ w.2.1 < n ∧ 0 < w.2.2)
    (fn : ∀ h' a b z, WAt h h' p qs ws ws.length → D.nx [some net, some (.ref p), a, b, z] h') : ∀ (m k : Nat) (h' : Hq) (a b z : Option PV), m + k = ws.length → WAt h h' p qs ws k →
    forQ (fun _ => True) (tupG 2 (consG (nameG 2) (consG (nameG 3) nilG))) (seqS (dropS (mtQ appQ (opQ ixQ (varQ 1) (opQ ixQ (varQ 3) (cQ (.int 0)))) (varQ 2))) (dropS (mtQ appQ (opQ ixQ (varQ 1) (opQ ixQ (varQ 3) (cQ (.int 1)))) (varQ 2)))) D
      (enQ k ((ws.drop k).map wP)) [some net, some (.ref p), a, b, z] h'
  | 0, k, h', a, b, z, hm, W => by
    rw [List.drop_of_length_le (by omega), List.map_nil]
    have : k = ws.length := by omega
    subst this
    exact ⟨trivial, fn h' a b z W⟩
  | m + 1, k, h', a, b, z, hm, W => by
    have hk : k < ws.length := by omega
    rw [List.drop_eq_getElem_cons hk, List.map_cons]
    obtain ⟨o1, o2, _⟩ := hok _ (List.getElem_mem hk)
    have eg : ws.getD k (0, 0, 0) = ws[k] := by rw [List.getD_eq_getElem?_getD, List.getElem?_eq_getElem hk]; rfl
    generalize hw : ws[k] = w at o1 o2 eg
    have l1 : w.1 < qs.length := by omega
    have l2 : w.2.1 < qs.length := by omega
    have g1 : qs[w.1]? = some qs[w.1] := List.getElem?_eq_getElem l1
    have g2 : qs[w.2.1]? = some qs[w.2.1] := List.getElem?_eq_getElem l2
    have m1 := List.mem_of_getElem? g1
    have m2 := List.mem_of_getElem? g2
    have ne : qs[w.1] ≠ qs[w.2.1] := fun z => by
      have := nodup_inj W.nd g1 (z ▸ g2)
      omega
    have e1 := W.eq w.1 _ g1
    have e2 := W.eq w.2.1 _ g2
    have hsz : (atK ws k w.1).length < sizeLine ∧ (atK ws k w.2.1).length < sizeLine := by
      have := atK_len ws k w.1
      have := atK_len ws k w.2.1
      have : (40 : Nat) < sizeLine := by decide
      omega
    obtain ⟨s1, p1⟩ := WAt.app (k := k) (ws := ws) (ys := atK ws k w.1 ++ [.int (k : Nat)]) n hqs W.sb W.np W.ep W.pq g1 (W.nq _ m1)
    obtain ⟨s2, p2⟩ := WAt.app (k := k) (ws := ws) (ys := atK ws k w.2.1 ++ [.int (k : Nat)]) n hqs s1 W.np p1 W.pq g2 (W.nq _ m2)
    show True ∧ _
    refine ⟨trivial, ?_⟩
    have at1 : atQ (qs.map .ref) ((w.1 : Nat) : Int) = some (.ref qs[w.1]) := by rw [atQ_nat, List.getElem?_map, g1]; rfl
    have at2 : atQ (qs.map .ref) ((w.2.1 : Nat) : Int) = some (.ref qs[w.2.1]) := by rw [atQ_nat, List.getElem?_map, g2]; rfl
    have so : ∀ {hh : Hq} {ys : List PV}, hh p = some (.lst ys) → seqOf hh (.ref p) = some ys := fun e => seqOf_ref e
    have e2' : up h' qs[w.1] (.lst (atK ws k w.1 ++ [.int (k : Nat)])) qs[w.2.1] = some (.lst (atK ws k w.2.1)) := by rw [up_ne (Ne.symm ne)]; exact e2
    simp [mtQ, appQ, wP_eq]
    refine ⟨_, so W.ep, _, at1, ⟨_, _, rfl, e1⟩, _, rfl, _, e1, hsz.1, _, so p1, _, at2, ⟨_, _, rfl, e2'⟩, _, rfl, _, e2', hsz.2, ?_⟩
    rw [← List.map_drop]
    refine wk_same (wires_loop hqs hn hws hok fn m (k + 1) _ _ _ _ (by omega) ⟨s2, W.np, p2, W.pq, W.nd, W.nq, fun v q hq => ?_⟩)
    rw [atK_succ, eg]
    have tv : touch v w = (decide (w.1 = v) || decide (w.2.1 = v)) := by
      unfold touch
      rfl
    by_cases hv2 : w.2.1 = v
    · subst hv2
      rw [g2] at hq
      cases hq
      rw [up_same, if_pos (by rw [tv]; simp)]
    · have n2 : q ≠ qs[w.2.1] := fun z => by
        subst z
        exact hv2 (nodup_inj W.nd g2 hq)
      rw [up_ne n2]
      by_cases hv1 : w.1 = v
      · subst hv1
        rw [g1] at hq
        cases hq
        rw [up_same, if_pos (by rw [tv]; simp)]
      · have n1 : q ≠ qs[w.1] := fun z => by
          subst z
          exact hv1 (nodup_inj W.nd g1 hq)
        rw [up_ne n1, if_neg (by rw [tv]; simp [hv1, hv2])]
        exact W.eq v q hq
theorem spec_wires_at (hsp : sp_wires_at c xs h Q E) : rd_wires_at c E (fin Q) (startQ ["net", "found", "number", "wire", "node"] xs) h := by
  obtain ⟨n, p, ws, rfl, gn, q⟩ := hsp
  unfold rd_wires_at
  have h48 := gn.n48
  simp
  show rg1I (opQ ixQ (varQ 0) (cQ (.int 0))) _ _ _
  simp [netP]
  have hi62 : (n : Int) < 2 ^ 62 := by omega
  refine ⟨by omega, by simp [rgItems]; exact Nat.le_trans h48 (by decide), ?_⟩
  refine lc_refs fun qs h2 hl nd hq sb pp npp => ?_
  rw [show (rgItems 0 n).length = n by simp [rgItems]] at hl
  show enumI (opQ ixQ (varQ 0) (cQ (.int 2))) _ _ _
  refine ⟨_, rfl, ?_⟩
  simp
  have npq : pp ∉ qs := fun hm => by
    have := (hq pp hm).2
    rw [npp] at this
    cases this
  refine wires_loop (h := h) (p := pp) (qs := qs) (ws := ws) (n := n) hl h48 gn.len gn.ok (fun h' a b z W => ?_) ws.length 0 _ _ _ _ (by omega) ⟨?_, sb.none npp, up_same, npq, nd, fun r hr => (hq r hr).1, fun v r hr => ?_⟩
  · simp
    obtain ⟨h3, f, s3⟩ := freeze_refs (h := h) (qs := qs) (xss := (List.range n).map (at' ws)) (h1 := delQ h' pp) (by simp [hl]) W.nd W.nq (fun i r ys e1 e2 => by
      have ner : r ≠ pp := fun z => by subst z; exact npq (List.mem_of_getElem? e1)
      rw [delQ_ne ner]
      have := W.eq i r e1
      have hi : i < n := by rw [← hl]; exact (List.getElem?_eq_some_iff.mp e1).1
      rw [List.getElem?_map, List.getElem?_range hi] at e2
      cases e2
      exact this) (sub_delQ W.sb W.np)
    refine ⟨_, h, (Fz.freeze W.ep delQ_sub delQ_self).trans ((Fz.items f).trans (Fz.sub s3)), ?_⟩
    rw [List.map_map]
    exact q
  · exact fun b o e => by
      rw [up_ne]
      · exact sb b o e
      · intro z; rw [z, sb.none npp] at e; cases e
  · have hm := List.mem_of_getElem? hr
    have ner : r ≠ pp := fun z => by subst z; exact npq hm
    rw [up_ne ner]
    exact (hq r hm).2
end L3

/-! L4f: the weights. -/
namespace L3
open PySem PySem.Spec PyProof.Rows L2 L4
variable {c : Str → Addr} {xs : List PV} {h : Hq} {Q : VQ} {E : XQ}
@[simp] theorem wipe_nil {n : Sq} : wipeQ n [] = n := rfl
@[simp] theorem wipe_cons {n : Sq} {v : Nat} {vs : List Nat} : wipeQ n (v :: vs) = (wipeQ n vs).set v none := rfl
theorem range_getD (ws : List W3) : (List.range ws.length).map (fun i => ws.getD i (0, 0, 0)) = ws := by
  refine List.ext_getElem (by simp) fun i h1 h2 => ?_
  simp only [List.getElem_map, List.getElem_range, List.getD_eq_getElem?_getD, List.getElem?_eq_getElem h2]
  rfl
def strsAt (ws : List W3) (v : Nat) : List Rat := (ws.filter (touch v)).map (·.2.2)
theorem strsAt_eq (ws : List W3) (v : Nat) : strsAt ws v = ((List.range ws.length).filter fun i => touch v (ws.getD i (0, 0, 0))).map fun i => (ws.getD i (0, 0, 0)).2.2 := by
  unfold strsAt
  conv => lhs; rw [← range_getD ws]
  rw [List.filter_map, List.map_map]
  rfl
theorem strsAt_mem {ws : List W3} {v : Nat} {q : Rat} (h : q ∈ strsAt ws v) : ∃ w ∈ ws, w.2.2 = q := by
  obtain ⟨w, hw, e⟩ := List.mem_map.mp h
  exact ⟨w, (List.mem_filter.mp hw).1, e⟩
theorem strsAt_len (ws : List W3) (v : Nat) : (strsAt ws v).length ≤ ws.length := by
  unfold strsAt
  rw [List.length_map]
  exact List.length_filter_le _ _
theorem strsAt_fit {n p : Nat} {ws : List W3} (gn : GoodNet n p ws) (sz : SzNet ws) (v : Nat) : SumsFit (strsAt ws v) :=
  strs_fit (Nat.le_trans (strsAt_len ws v) gn.len) fun q hq => by
    obtain ⟨w, hw, rfl⟩ := strsAt_mem hq
    have := (gn.ok w hw).2.2
    exact ⟨by grind, sz w hw⟩
theorem small_size {k : Nat} (h : k ≤ 1000) : k ≤ sizeLine := Nat.le_of_lt (small1000 h)
theorem spec_weights_of (hsp : sp_weights_of c xs h Q E) : rd_weights_of c E (fin Q) (startQ ["net", "row", "number"] xs) h := by
  obtain ⟨n, p, ws, rfl, gn, sz, q⟩ := hsp
  unfold rd_weights_of
  have h48 := gn.n48
  have h40 := gn.len
  simp
  show seqI _ _ _ _
  simp
  refine ⟨n, p, ws, rfl, gn, ?_⟩
  refine ⟨_, rfl, small_size (by simp; omega), ?_⟩
  refine lc_map (l := List.range n) (b := fun v => frac (wt ws v)) ?_ ?_ ?_
  · rfl
  · intro v hv K hK
    simp
    show seqI _ _ _ _
    simp
    refine ⟨small_size (Nat.le_trans (by unfold at'; rw [List.length_map]; exact List.length_filter_le _ _) (by simp; omega)), ?_⟩
    unfold at'
    refine lc_map (b := fun i => frac (ws.getD i (0, 0, 0)).2.2) ?_ ?_ ?_
    · simp [stOf, at', wipeQ]
    · intro i hi K2 hK2
      have hi' : i < ws.length := by
        have := (List.mem_filter.mp hi).1
        simpa using this
      simp [wipeQ, netP]
      refine ⟨wP (ws.getD i (0, 0, 0)), ?_, _, rfl, _, rfl, hK2 h (Sub.refl h)⟩
      rw [atQ_nat, List.getElem?_map, List.getD_eq_getElem?_getD, List.getElem?_eq_getElem hi']
      rfl
    · intro p2 np2
      refine ⟨_, strsAt ws v, rfl, ?_, strsAt_fit gn sz v, hK _ (Sub.up np2)⟩
      rw [strsAt_eq, List.map_map]
      exact seqOf_ref up_same
  · intro p1 np1
    exact rtQ.freeze up_same (Sub.up np1) np1 q
theorem spec_node_weights (hsp : sp_node_weights c xs h Q E) : rd_node_weights c E (fin Q) (startQ ["net"] xs) h := by
  obtain ⟨net, rfl, hh⟩ := hsp
  unfold rd_node_weights
  simp
  refine ⟨net, rfl, ?_⟩
  rcases hh with ⟨n, p, ws, e, gn, sz, q⟩ | ⟨place, fo, q⟩
  · refine .inl ⟨n, p, ws, e, gn, ?_⟩
    simp
    refine ⟨n, p, ws, by rw [e], gn, sz, ?_⟩
    simp
    exact rtQ.same q
  · exact .inr ⟨place, fo, q⟩
end L3

/-! L4h: plain facts on walks: what is shared out adds up; there and back go as the weights do. -/
namespace L3
open L4
def sumR (n : Nat) (f : Nat → Rat) : Rat := ((List.range n).map f).sum
theorem sumR_zero {f : Nat → Rat} : sumR 0 f = 0 := rfl
theorem sumR_succ {n : Nat} {f : Nat → Rat} : sumR (n + 1) f = sumR n f + f n := by
  unfold sumR
  rw [List.range_succ, List.map_append, List.sum_append]
  simp [Rat.add_zero]
theorem sumR_congr {n : Nat} {f g : Nat → Rat} (h : ∀ v < n, f v = g v) : sumR n f = sumR n g := by
  induction n with
  | zero => rfl
  | succ n ih => rw [sumR_succ, sumR_succ, ih fun v hv => h v (by omega), h n (by omega)]
theorem sumR_add {n : Nat} {f g : Nat → Rat} : sumR n (fun v => f v + g v) = sumR n f + sumR n g := by
  induction n with
  | zero => simp [sumR_zero, Rat.add_zero]
  | succ n ih => rw [sumR_succ, sumR_succ, sumR_succ, ih]; grind
theorem sumR_const0 {n : Nat} : sumR n (fun _ => 0) = 0 := by
  induction n with
  | zero => rfl
  | succ n ih => rw [sumR_succ, ih]; grind
theorem sumR_one {n a : Nat} {x : Rat} (h : a < n) : sumR n (fun v => if v = a then x else 0) = x := by
  induction n with
  | zero => omega
  | succ n ih =>
    rw [sumR_succ]
    by_cases e : n = a
    · subst e
      rw [if_pos rfl, sumR_congr (g := fun _ => 0) fun v hv => by rw [if_neg (by omega)], sumR_const0]
      grind
    · rw [if_neg e, ih (by omega)]
      grind
theorem sumR_nonneg {n : Nat} {f : Nat → Rat} (h : ∀ v < n, 0 ≤ f v) : 0 ≤ sumR n f := by
  induction n with
  | zero => simp [sumR_zero]
  | succ n ih =>
    rw [sumR_succ]
    have a := ih fun v hv => h v (by omega)
    have b := h n (by omega)
    grind
theorem le_sumR {n : Nat} {f : Nat → Rat} (h : ∀ v < n, 0 ≤ f v) {a : Nat} (ha : a < n) : f a ≤ sumR n f := by
  induction n with
  | zero => omega
  | succ n ih =>
    rw [sumR_succ]
    by_cases e : a = n
    · subst e
      have := sumR_nonneg (n := a) (f := f) fun v hv => h v (by omega)
      grind
    · have := ih (fun v hv => h v (by omega)) (by omega)
      have := h n (by omega)
      grind
def term (f : Nat → Rat) (v : Nat) (w : W3) : Rat := if w.1 = v then f w.2.1 * w.2.2 else if w.2.1 = v then f w.1 * w.2.2 else 0
theorem inflow_nil {f : Nat → Rat} {v : Nat} : inflow [] f v = 0 := rfl
theorem inflow_cons {f : Nat → Rat} {v : Nat} {w : W3} {ws : List W3} : inflow (w :: ws) f v = term f v w + inflow ws f v := by
  unfold inflow
  rw [List.map_cons, List.sum_cons]
  rfl
theorem inflow_congr {f g : Nat → Rat} {v : Nat} {ws : List W3} (h : ∀ w ∈ ws, (w.1 = v → f w.2.1 = g w.2.1) ∧ (w.2.1 = v → f w.1 = g w.1)) : inflow ws f v = inflow ws g v := by
  induction ws with
  | nil => rfl
  | cons w ws ih =>
    rw [inflow_cons, inflow_cons, ih fun u hu => h u (List.mem_cons_of_mem _ hu)]
    obtain ⟨a, b⟩ := h w List.mem_cons_self
    unfold term
    by_cases e1 : w.1 = v
    · rw [if_pos e1, if_pos e1, a e1]
    · rw [if_neg e1, if_neg e1]
      by_cases e2 : w.2.1 = v
      · rw [if_pos e2, if_pos e2, b e2]
      · rw [if_neg e2, if_neg e2]
def Ends (n : Nat) (ws : List W3) : Prop := ∀ w ∈ ws, w.1 < w.2.1 ∧ w.2.1 < n ∧ 0 < w.2.2
/-- each wire is walked from both ends -/
theorem exchange {n : Nat} {f g : Nat → Rat} : ∀ {ws : List W3}, Ends n ws → sumR n (fun v => g v * inflow ws f v) = sumR n (fun u => f u * inflow ws g u)
  | [], _ => sumR_congr fun v _ => by rw [inflow_nil, inflow_nil]; grind
  | w :: ws, h => by
    have ih := exchange (f := f) (g := g) (ws := ws) fun u hu => h u (List.mem_cons_of_mem _ hu)
    obtain ⟨o1, o2, _⟩ := h w List.mem_cons_self
    have key : ∀ f g : Nat → Rat, sumR n (fun v => g v * term f v w) = g w.1 * f w.2.1 * w.2.2 + g w.2.1 * f w.1 * w.2.2 := fun f g => by
      have e : ∀ v < n, g v * term f v w = (if v = w.1 then g w.1 * f w.2.1 * w.2.2 else 0) + (if v = w.2.1 then g w.2.1 * f w.1 * w.2.2 else 0) := fun v _ => by
        unfold term
        by_cases e1 : w.1 = v
        · rw [if_pos e1, if_pos e1.symm, if_neg (by omega), e1]
          grind
        · rw [if_neg e1, if_neg (Ne.symm e1)]
          by_cases e2 : w.2.1 = v
          · rw [if_pos e2, if_pos e2.symm, e2]
            grind
          · rw [if_neg e2, if_neg (Ne.symm e2)]
            grind
      rw [sumR_congr e, sumR_add, sumR_one (by omega), sumR_one o2]
    have e1 : sumR n (fun v => g v * inflow (w :: ws) f v) = sumR n (fun v => g v * term f v w) + sumR n (fun v => g v * inflow ws f v) := by
      rw [← sumR_add]
      exact sumR_congr fun v _ => by rw [inflow_cons]; grind
    have e2 : sumR n (fun v => f v * inflow (w :: ws) g v) = sumR n (fun v => f v * term g v w) + sumR n (fun v => f v * inflow ws g v) := by
      rw [← sumR_add]
      exact sumR_congr fun v _ => by rw [inflow_cons]; grind
    rw [e1, e2, ih, key f g, key g f]
    grind
theorem wt_cons {w : W3} {ws : List W3} {v : Nat} : wt (w :: ws) v = (if touch v w = true then w.2.2 else 0) + wt ws v := by
  unfold wt
  by_cases e : touch v w = true
  · rw [List.filter_cons_of_pos e, List.map_cons, List.sum_cons, if_pos e]
  · rw [List.filter_cons_of_neg e, if_neg e]
    grind
theorem touch_iff {w : W3} {v : Nat} : touch v w = true ↔ w.1 = v ∨ w.2.1 = v := by
  unfold touch
  simp
theorem wt_inflow {ws : List W3} {v : Nat} : wt ws v = inflow ws (fun _ => 1) v := by
  induction ws with
  | nil => rfl
  | cons w ws ih =>
    rw [wt_cons, inflow_cons, ih]
    unfold term
    by_cases e1 : w.1 = v
    · rw [if_pos e1, if_pos (touch_iff.mpr (.inl e1))]
      grind
    · rw [if_neg e1]
      by_cases e2 : w.2.1 = v
      · rw [if_pos e2, if_pos (touch_iff.mpr (.inr e2))]
        grind
      · rw [if_neg e2, if_neg (fun z => (touch_iff.mp z).elim e1 e2)]
theorem wt_nonneg {ws : List W3} (h : ∀ w ∈ ws, 0 < w.2.2) {v : Nat} : 0 ≤ wt ws v := by
  unfold wt
  refine sum_nonneg fun q hq => ?_
  obtain ⟨w, hw, rfl⟩ := List.mem_map.mp hq
  have := h w (List.mem_filter.mp hw).1
  grind
theorem le_wt {ws : List W3} (h : ∀ w ∈ ws, 0 < w.2.2) {v : Nat} {w : W3} (hw : w ∈ ws) (ht : touch v w = true) : w.2.2 ≤ wt ws v := by
  induction ws with
  | nil => cases hw
  | cons u ws ih =>
    rw [wt_cons]
    have h' : ∀ w ∈ ws, 0 < w.2.2 := fun x hx => h x (List.mem_cons_of_mem _ hx)
    rcases List.mem_cons.mp hw with e | hw
    · subst e
      rw [if_pos ht]
      have := wt_nonneg h' (v := v)
      grind
    · have a := ih h' hw
      have b := h u List.mem_cons_self
      split <;> grind
theorem wt_pos {ws : List W3} (h : ∀ w ∈ ws, 0 < w.2.2) {v : Nat} {w : W3} (hw : w ∈ ws) (ht : touch v w = true) : 0 < wt ws v := by
  have a := le_wt h hw ht
  have b := h w hw
  grind
theorem inflow_zero {ws : List W3} (h : ∀ w ∈ ws, 0 < w.2.2) {f : Nat → Rat} {v : Nat} (e : wt ws v = 0) : inflow ws f v = 0 := by
  have : inflow ws f v = inflow ws (fun _ => 0) v := inflow_congr fun w hw => ⟨fun z => by
    have := wt_pos h hw (touch_iff.mpr (.inl z))
    grind, fun z => by
    have := wt_pos h hw (touch_iff.mpr (.inr z))
    grind⟩
  rw [this]
  clear this e h
  induction ws with
  | nil => rfl
  | cons w ws ih =>
    rw [inflow_cons, ih]
    unfold term
    split
    · grind
    · split <;> grind
theorem Ends.pos {n : Nat} {ws : List W3} (h : Ends n ws) : ∀ w ∈ ws, 0 < w.2.2 := fun w hw => (h w hw).2.2
def backR (ws : List W3) (f : Nat → Rat) (u : Nat) : Rat := if wt ws u = 0 then f u else inflow ws f u / wt ws u
theorem dual {n : Nat} {ws : List W3} (h : Ends n ws) (c f : Nat → Rat) : sumR n (fun v => f v * stepR ws c v) = sumR n (fun u => c u * backR ws f u) := by
  have e1 : sumR n (fun v => f v * stepR ws c v) = sumR n (fun v => f v * (if wt ws v = 0 then c v else 0)) + sumR n (fun v => f v * inflow ws (fun u => c u / wt ws u) v) := by
    rw [← sumR_add]
    exact sumR_congr fun v _ => by unfold stepR; grind
  rw [e1, exchange h, ← sumR_add]
  refine sumR_congr fun v _ => ?_
  unfold backR
  by_cases e : wt ws v = 0
  · rw [if_pos e, if_pos e, inflow_zero h.pos e]
    grind
  · rw [if_neg e, if_neg e, Rat.div_def, Rat.div_def]
    grind
theorem backR_one {n : Nat} {ws : List W3} (h : Ends n ws) {u : Nat} : backR ws (fun _ => 1) u = 1 := by
  unfold backR
  by_cases e : wt ws u = 0
  · rw [if_pos e]
  · rw [if_neg e, ← wt_inflow, Rat.div_def, Rat.mul_inv_cancel _ e]
theorem step_total {n : Nat} {ws : List W3} (h : Ends n ws) (c : Nat → Rat) : sumR n (stepR ws c) = sumR n c := by
  have := dual h c (fun _ => 1)
  rw [sumR_congr (f := fun v => 1 * stepR ws c v) (g := stepR ws c) fun v _ => by grind] at this
  rw [this]
  exact sumR_congr fun v _ => by rw [backR_one h]; grind
theorem step_wt {n : Nat} {ws : List W3} (h : Ends n ws) (f : Nat → Rat) (v : Nat) : stepR ws (fun u => wt ws u * f u) v = wt ws v * backR ws f v := by
  have e1 : inflow ws (fun u => wt ws u * f u / wt ws u) v = inflow ws f v := inflow_congr fun w hw => ⟨fun z => by
    have := wt_pos h.pos hw (touch_iff.mpr (.inr rfl))
    have ne : wt ws w.2.1 ≠ 0 := by grind
    rw [Rat.div_def, Rat.mul_comm (wt ws w.2.1), Rat.mul_assoc, Rat.mul_inv_cancel _ ne, Rat.mul_one], fun z => by
    have := wt_pos h.pos hw (touch_iff.mpr (.inl rfl))
    have ne : wt ws w.1 ≠ 0 := by grind
    rw [Rat.div_def, Rat.mul_comm (wt ws w.1), Rat.mul_assoc, Rat.mul_inv_cancel _ ne, Rat.mul_one]⟩
  unfold stepR backR
  rw [e1]
  by_cases e : wt ws v = 0
  · rw [if_pos e, if_pos e, inflow_zero h.pos e, e]
    grind
  · rw [if_neg e, if_neg e, Rat.div_def, Rat.mul_comm (inflow ws f v), ← Rat.mul_assoc, Rat.mul_inv_cancel _ e]
    grind
def iter {α : Type} (g : α → α) : Nat → α → α
  | 0, x => x
  | k + 1, x => g (iter g k x)
theorem iter_in {α : Type} (g : α → α) : ∀ (k : Nat) (x : α), iter g k (g x) = g (iter g k x)
  | 0, _ => rfl
  | k + 1, x => by rw [iter, iter_in g k x, iter]
def dl (a : Nat) : Nat → Rat := fun v => if v = a then 1 else 0
theorem walk_iter {ws : List W3} {a : Nat} : ∀ k, walkR ws a k = iter (stepR ws) k (dl a)
  | 0 => rfl
  | k + 1 => by
    rw [walkR, walk_iter k]
    rfl
theorem dual_iter {n : Nat} {ws : List W3} (h : Ends n ws) : ∀ (k : Nat) (c f : Nat → Rat), sumR n (fun v => f v * iter (stepR ws) k c v) = sumR n (fun u => c u * iter (backR ws) k f u)
  | 0, c, f => sumR_congr fun v _ => by simp only [iter]; grind
  | k + 1, c, f => by
    simp only [iter]
    rw [dual h, ← iter_in (backR ws) k f]
    have := dual_iter h k c (backR ws f)
    rw [← this]
    exact sumR_congr fun v _ => by grind
theorem step_scale {ws : List W3} {x : Rat} {c : Nat → Rat} : stepR ws (fun u => x * c u) = fun v => x * stepR ws c v := by
  funext v
  unfold stepR
  have e : inflow ws (fun u => x * c u / wt ws u) v = x * inflow ws (fun u => c u / wt ws u) v := by
    have : ∀ l : List W3, inflow l (fun u => x * c u / wt ws u) v = x * inflow l (fun u => c u / wt ws u) v := by
      intro l
      induction l with
      | nil => rw [inflow_nil, inflow_nil]; grind
      | cons w l ih =>
        rw [inflow_cons, inflow_cons, ih]
        unfold term
        split
        · dsimp only; rw [Rat.div_def, Rat.div_def]; grind
        · split
          · dsimp only; rw [Rat.div_def, Rat.div_def]; grind
          · grind
    exact this ws
  rw [e]
  split <;> grind
theorem iter_scale {ws : List W3} {x : Rat} : ∀ (k : Nat) (c : Nat → Rat), iter (stepR ws) k (fun u => x * c u) = fun v => x * iter (stepR ws) k c v
  | 0, _ => rfl
  | k + 1, c => by
    rw [iter, iter_scale k c, step_scale]
    rfl
theorem iter_wt {n : Nat} {ws : List W3} (h : Ends n ws) : ∀ (k : Nat) (f : Nat → Rat), iter (stepR ws) k (fun u => wt ws u * f u) = fun v => wt ws v * iter (backR ws) k f v
  | 0, _ => rfl
  | k + 1, f => by
    rw [iter, iter_wt h k f]
    funext v
    rw [step_wt h]
    rfl
/-- there and back go as the weights do -/
theorem there_back {n : Nat} {ws : List W3} (h : Ends n ws) {a b k : Nat} (ha : a < n) (hb : b < n) : wt ws a * walkR ws a k b = wt ws b * walkR ws b k a := by
  have e1 : walkR ws a k b = iter (backR ws) k (dl b) a := by
    have := dual_iter h k (dl a) (dl b)
    rw [sumR_congr (f := fun v => dl b v * iter (stepR ws) k (dl a) v) (g := fun v => if v = b then iter (stepR ws) k (dl a) b else 0) fun v _ => by
        unfold dl; split
        · rename_i e; subst e; grind
        · grind, sumR_one hb] at this
    rw [sumR_congr (f := fun v => dl a v * iter (backR ws) k (dl b) v) (g := fun v => if v = a then iter (backR ws) k (dl b) a else 0) fun v _ => by
        unfold dl; split
        · rename_i e; subst e; grind
        · grind, sumR_one ha] at this
    rw [walk_iter]
    exact this
  have e2 : (fun u => wt ws u * dl b u) = fun u => wt ws b * dl b u := by
    funext u
    unfold dl
    split
    · rename_i e; subst e; rfl
    · grind
  have e3 := iter_wt h k (dl b)
  rw [e2, iter_scale] at e3
  rw [e1, walk_iter]
  exact (congrFun e3 a).symm
theorem walk_total {n : Nat} {ws : List W3} (h : Ends n ws) {a : Nat} (ha : a < n) : ∀ k, sumR n (walkR ws a k) = 1
  | 0 => sumR_one ha
  | k + 1 => by
    show sumR n (stepR ws (walkR ws a k)) = 1
    rw [step_total h, walk_total h ha k]
theorem inflow_nonneg {ws : List W3} (h : ∀ w ∈ ws, 0 < w.2.2) {f : Nat → Rat} (hf : ∀ w ∈ ws, 0 ≤ f w.1 ∧ 0 ≤ f w.2.1) {v : Nat} : 0 ≤ inflow ws f v := by
  induction ws with
  | nil => rw [inflow_nil]; grind
  | cons w ws ih =>
    rw [inflow_cons]
    have a := ih (fun u hu => h u (List.mem_cons_of_mem _ hu)) fun u hu => hf u (List.mem_cons_of_mem _ hu)
    have b := h w List.mem_cons_self
    obtain ⟨c, d⟩ := hf w List.mem_cons_self
    have e : 0 ≤ term f v w := by
      unfold term
      split
      · exact Rat.mul_nonneg d (by grind)
      · split
        · exact Rat.mul_nonneg c (by grind)
        · grind
    grind
theorem div_nonneg' {a b : Rat} (ha : 0 ≤ a) (hb : 0 ≤ b) : 0 ≤ a / b := by
  rw [Rat.div_def]
  refine Rat.mul_nonneg ha ?_
  by_cases e : b = 0
  · subst e
    rw [Rat.inv_zero]
    grind
  · have : 0 < b⁻¹ := Rat.inv_pos.mpr (by grind)
    grind
theorem step_nonneg {n : Nat} {ws : List W3} (h : Ends n ws) {c : Nat → Rat} (hc : ∀ v < n, 0 ≤ c v) {v : Nat} (hv : v < n) : 0 ≤ stepR ws c v := by
  unfold stepR
  have a : 0 ≤ inflow ws (fun u => c u / wt ws u) v := inflow_nonneg h.pos fun w hw => by
    obtain ⟨o1, o2, _⟩ := h w hw
    exact ⟨div_nonneg' (hc _ (by omega)) (wt_nonneg h.pos), div_nonneg' (hc _ o2) (wt_nonneg h.pos)⟩
  have b := hc v hv
  split <;> grind
theorem walk_nonneg {n : Nat} {ws : List W3} (h : Ends n ws) {a : Nat} : ∀ (k : Nat), ∀ v < n, 0 ≤ walkR ws a k v
  | 0, v, _ => by unfold walkR; split <;> grind
  | k + 1, v, hv => step_nonneg h (walk_nonneg h k) hv
theorem walk_le {n : Nat} {ws : List W3} (h : Ends n ws) {a : Nat} (ha : a < n) (k : Nat) {v : Nat} (hv : v < n) : walkR ws a k v ≤ 1 := by
  rw [← walk_total h ha k]
  exact le_sumR (walk_nonneg h k) hv
theorem inflow_inZ {ws : List W3} {D : Nat} {f : Nat → Rat} {v : Nat} (h : ∀ w ∈ ws, (w.1 = v → InZ D (f w.2.1 * w.2.2)) ∧ (w.2.1 = v → InZ D (f w.1 * w.2.2))) : InZ D (inflow ws f v) := by
  induction ws with
  | nil => rw [inflow_nil]; exact InZ.zero D
  | cons w ws ih =>
    rw [inflow_cons]
    refine InZ.add ?_ (ih fun u hu => h u (List.mem_cons_of_mem _ hu))
    obtain ⟨a, b⟩ := h w List.mem_cons_self
    unfold term
    split
    · rename_i e; exact a e
    · split
      · rename_i e; exact b e
      · exact InZ.zero D
theorem div_swap (a b c : Rat) : a / b * c = a * (c / b) := by
  rw [Rat.div_def, Rat.div_def]
  grind
theorem step_inZ {n : Nat} {ws : List W3} {D e : Nat} (h : Ends n ws) (hD : DenOk n ws D) {c : Nat → Rat} (hc : ∀ v < n, InZ e (c v)) {v : Nat} (hv : v < n) : InZ (e * D) (stepR ws c v) := by
  unfold stepR
  refine InZ.add ?_ (inflow_inZ fun w hw => ?_)
  · split
    · exact (hc v hv).dvd (Nat.dvd_mul_right _ _)
    · exact InZ.zero _
  · obtain ⟨o1, o2, _⟩ := h w hw
    refine ⟨fun z => ?_, fun z => ?_⟩
    · rw [div_swap]
      exact (hc _ o2).mul (hD.den _ o2 w hw (touch_iff.mpr (.inr rfl)))
    · rw [div_swap]
      exact (hc _ (by omega)).mul (hD.den _ (by omega) w hw (touch_iff.mpr (.inl rfl)))
theorem walk_inZ {n : Nat} {ws : List W3} {D : Nat} (h : Ends n ws) (hD : DenOk n ws D) {a : Nat} : ∀ (k : Nat), ∀ v < n, InZ (D ^ k) (walkR ws a k v)
  | 0, v, _ => by
    show InZ (D ^ 0) (if v = a then 1 else 0)
    split
    · exact InZ.one _
    · exact InZ.zero _
  | k + 1, v, hv => by
    rw [Nat.pow_succ]
    exact step_inZ h hD (walk_inZ h hD k) hv
theorem walk_chs {n : Nat} {ws : List W3} {D : Nat} (h : Ends n ws) (hD : DenOk n ws D) {a : Nat} (ha : a < n) (k : Nat) : Chs n (D ^ k) (walkR ws a k) :=
  ⟨Nat.pow_pos hD.pos, walk_nonneg h k, fun v hv => walk_le h ha k hv, walk_inZ h hD k⟩
end L3

/-! L4i: one step of a walk. -/
namespace L3
open PySem PySem.Spec PyProof.Rows L2 L4
variable {c : Str → Addr} {xs : List PV} {h : Hq} {Q : VQ} {E : XQ}
theorem fracs_len {n : Nat} {f : Nat → Rat} : (fracs n f).length = n := by simp [fracs]
theorem fracs_get {n : Nat} {f : Nat → Rat} {v : Nat} (hv : v < n) : (fracs n f)[v]? = some (frac (f v)) := by
  unfold fracs
  rw [List.getElem?_map, List.getElem?_range hv]
  rfl
theorem fracs_at {n : Nat} {f : Nat → Rat} {v : Nat} (hv : v < n) : atQ (fracs n f) (v : Nat) = some (frac (f v)) := by rw [atQ_nat, fracs_get hv]
theorem fracs_set {n : Nat} {f : Nat → Rat} {a : Nat} {x : Rat} : (fracs n f).set a (frac x) = fracs n (fun v => if v = a then x else f v) := by
  refine List.ext_getElem? fun i => ?_
  by_cases hi : i < n
  · rw [fracs_get hi]
    by_cases e : a = i
    · subst e
      rw [List.getElem?_set_self (by rw [fracs_len]; exact hi), if_pos rfl]
    · rw [List.getElem?_set_ne e, fracs_get hi, if_neg (Ne.symm e)]
  · rw [List.getElem?_eq_none (by rw [List.length_set, fracs_len]; omega), List.getElem?_eq_none (by rw [fracs_len]; omega)]
theorem fracs_congr {n : Nat} {f g : Nat → Rat} (e : ∀ v < n, f v = g v) : fracs n f = fracs n g := by
  unfold fracs
  exact List.map_congr_left fun v hv => by rw [e v (by simpa using hv)]
theorem zip_fracs {n : Nat} {f g : Nat → Rat} : zipQ (fracs n f) (fracs n g) = (List.range n).map fun v => .tup [frac (f v), frac (g v)] := by
  unfold fracs
  have : ∀ l : List Nat, zipQ (l.map fun v => frac (f v)) (l.map fun v => frac (g v)) = l.map fun v => .tup [frac (f v), frac (g v)] := by
    intro l
    induction l with
    | nil => rfl
    | cons v l ih => rw [List.map_cons, List.map_cons, zipQ, ih, List.map_cons]
  exact this _
theorem zipI_lst {ta tb : TQ} {n : Sq} {x y : PV} {xs ys : List PV} {h : Hq} {R : LIt → Hq → Prop} (ha : ∀ Q : VQ, Q x h → ta n h Q) (hb : ∀ Q : VQ, Q y h → tb n h Q) (e1 : lstOf h x = some xs) (e2 : lstOf h y = some ys) (q : R ⟨zipQ xs ys, fun h => lstOf h x = some xs ∧ lstOf h y = some ys⟩ h) : zipI ta tb n h R := by
  refine ha _ (hb _ ?_)
  cases x with
  | tup _ => cases e1
  | _ => exact ⟨xs, ys, e1, e2, q⟩
theorem dat_frac {q : Rat} : datQ h (frac q) = some (.tuple [.int q.num, .int q.den]) := rfl
theorem frac_zero {q : Rat} : PyData.eqv (.tuple [.int q.num, .int q.den]) (.tuple [.int 0, .int 1]) = decide (q = 0) := by
  have e : PyData.eqv (.tuple [.int q.num, .int q.den]) (.tuple [.int 0, .int 1]) = (q.num == 0 && ((q.den : Int) == 1 && true)) := rfl
  rw [e]
  by_cases hq : q = 0
  · subst hq
    rfl
  · have : q.num ≠ 0 := num_ne hq
    simp [hq, this]
theorem eq_zero_frac {Q : VQ} {q : Rat} (k : Q (.bl (decide (q = 0))) h) : eqDQ id (frac q) (.tup [.int 0, .int 1]) h Q := by
  refine s_eqD dat_frac rfl rfl rfl ?_
  rw [frac_zero]
  exact k
/-- what has come so far: the first k wires -/
def acc (ws : List W3) (c : Nat → Rat) (k v : Nat) : Rat := (if wt ws v = 0 then c v else 0) + inflow (ws.take k) (fun u => c u / wt ws u) v
theorem inflow_app {f : Nat → Rat} {v : Nat} {w : W3} {l : List W3} : inflow (l ++ [w]) f v = inflow l f v + term f v w := by
  induction l with
  | nil => rw [List.nil_append, inflow_cons, inflow_nil]; grind
  | cons u l ih => rw [List.cons_append, inflow_cons, inflow_cons, ih]; grind
theorem acc_succ {ws : List W3} {c : Nat → Rat} {k : Nat} (hk : k < ws.length) (v : Nat) : acc ws c (k + 1) v = acc ws c k v + term (fun u => c u / wt ws u) v ws[k] := by
  unfold acc
  rw [List.take_add_one, List.getElem?_eq_getElem hk]
  show _ + inflow (ws.take k ++ [ws[k]]) _ v = _
  rw [inflow_app]
  grind
theorem acc_zero {ws : List W3} {c : Nat → Rat} (v : Nat) : acc ws c 0 v = if wt ws v = 0 then c v else 0 := by
  unfold acc
  rw [List.take_zero, inflow_nil]
  grind
theorem acc_all {ws : List W3} {c : Nat → Rat} (v : Nat) : acc ws c ws.length v = stepR ws c v := by
  unfold acc stepR
  rw [List.take_length]
section
variable {n p D e : Nat} {ws : List W3} {f : Nat → Rat}
theorem ends_of (gn : GoodNet n p ws) : Ends n ws := gn.ok
theorem share_le (gn : GoodNet n p ws) {w : W3} (hw : w ∈ ws) {v : Nat} (ht : touch v w = true) : w.2.2 / wt ws v ≤ 1 := by
  have a := le_wt (ends_of gn).pos hw ht
  have b := wt_pos (ends_of gn).pos hw ht
  have ne : wt ws v ≠ 0 := by grind
  have i : 0 < (wt ws v)⁻¹ := Rat.inv_pos.mpr b
  rw [Rat.div_def]
  have : w.2.2 * (wt ws v)⁻¹ ≤ wt ws v * (wt ws v)⁻¹ := Rat.mul_le_mul_of_nonneg_right a (by grind)
  rw [Rat.mul_inv_cancel _ ne] at this
  exact this
theorem term_facts (gn : GoodNet n p ws) (hD : DenOk n ws D) (ch : Chs n e f) {w : W3} (hw : w ∈ ws) {u : Nat} (hu : u < n) (ht : touch u w = true) :
    InZ (e * D) (f u * w.2.2 / wt ws u) ∧ 0 ≤ f u * w.2.2 / wt ws u ∧ f u * w.2.2 / wt ws u ≤ 1 := by
  have b := wt_pos (ends_of gn).pos hw ht
  have s0 := (gn.ok w hw).2.2
  have e1 : f u * w.2.2 / wt ws u = f u * (w.2.2 / wt ws u) := by rw [Rat.div_def, Rat.div_def, Rat.mul_assoc]
  have h0 : 0 ≤ w.2.2 / wt ws u := div_nonneg' (by grind) (by grind)
  have h1 := share_le gn hw ht
  refine ⟨by rw [e1]; exact (ch.den u hu).mul (hD.den u hu w hw ht), by rw [e1]; exact Rat.mul_nonneg (ch.ge u hu) h0, ?_⟩
  rw [e1]
  have : f u * (w.2.2 / wt ws u) ≤ f u * 1 := Rat.mul_le_mul_of_nonneg_left h1 (ch.ge u hu)
  have := ch.le u hu
  grind
theorem term_bd (gn : GoodNet n p ws) (hD : DenOk n ws D) (ch : Chs n e f) {w : W3} (hw : w ∈ ws) {v : Nat} (hv : v < n) :
    InZ (e * D) (term (fun u => f u / wt ws u) v w) ∧ 0 ≤ term (fun u => f u / wt ws u) v w ∧ term (fun u => f u / wt ws u) v w ≤ 1 := by
  obtain ⟨o1, o2, _⟩ := gn.ok w hw
  have sw : ∀ a b c : Rat, a / b * c = a * c / b := fun a b c => by rw [Rat.div_def, Rat.div_def]; grind
  unfold term
  by_cases e1 : w.1 = v
  · rw [if_pos e1]
    dsimp only
    rw [sw]
    exact term_facts gn hD ch hw o2 (touch_iff.mpr (.inr rfl))
  · rw [if_neg e1]
    by_cases e2 : w.2.1 = v
    · rw [if_pos e2]
      dsimp only
      rw [sw]
      exact term_facts gn hD ch hw (by omega) (touch_iff.mpr (.inl rfl))
    · rw [if_neg e2]
      exact ⟨InZ.zero _, by grind, by grind⟩
theorem acc_facts (gn : GoodNet n p ws) (hD : DenOk n ws D) (ch : Chs n e f) {v : Nat} (hv : v < n) : ∀ k ≤ ws.length, InZ (e * D) (acc ws f k v) ∧ 0 ≤ acc ws f k v ∧ acc ws f k v ≤ ((k + 1 : Nat) : Rat)
  | 0, _ => by
    rw [acc_zero]
    have a := ch.ge v hv
    have b := ch.le v hv
    split
    · exact ⟨(ch.den v hv).dvd (Nat.dvd_mul_right _ _), a, by simpa using b⟩
    · exact ⟨InZ.zero _, by grind, by simp; grind⟩
  | k + 1, hk => by
    obtain ⟨a, b, c'⟩ := acc_facts gn hD ch hv k (by omega)
    obtain ⟨x, y, z⟩ := term_bd gn hD ch (List.getElem_mem (show k < ws.length by omega)) hv
    rw [acc_succ (by omega)]
    refine ⟨a.add x, by grind, ?_⟩
    rw [Rat.natCast_add (k + 1) 1]
    have : ((1 : Nat) : Rat) = 1 := rfl
    grind
theorem k1000 {k : Nat} (h : k ≤ 1000) : k ≤ 2 ^ 1000 := by
  have h1 : (1000 : Nat) ≤ 2 ^ 10 := by decide
  have h2 : (2 : Nat) ^ 10 ≤ 2 ^ 1000 := Nat.pow_le_pow_right (by decide) (by decide)
  exact Nat.le_trans h (Nat.le_trans h1 h2)
theorem wt_facts (gn : GoodNet n p ws) (sz : SzNet ws) (v : Nat) : 0 ≤ wt ws v ∧ Fits (wt ws v) ∧ (wt ws v).num.natAbs ≤ 2 ^ 900 ∧ wt ws v ≤ ((40 * 10 ^ 6 : Nat) : Rat) ∧ (wt ws v).den ≤ 2 ^ 800 := by
  have h0 : 0 ≤ wt ws v := wt_nonneg (ends_of gn).pos
  have hl : (strsAt ws v).length ≤ 40 := Nat.le_trans (strsAt_len ws v) gn.len
  have hq : ∀ q ∈ strsAt ws v, q.num.natAbs ≤ 10 ^ 6 ∧ q.den ≤ 10 ^ 6 := fun q hq => by
    obtain ⟨w, hw, rfl⟩ := strsAt_mem hq
    exact sz w hw
  have hp : denProd (strsAt ws v) ≤ (10 ^ 6) ^ 40 := Nat.le_trans (denProd_le fun q h => (hq q h).2) (Nat.pow_le_pow_right (by decide) hl)
  have z : InZ (denProd (strsAt ws v)) (wt ws v) := sum_inZ fun q h => denProd_inZ h
  have le1 : wt ws v ≤ (((strsAt ws v).length * 10 ^ 6 : Nat) : Rat) := sum_le fun q h => le_num (hq q h).1
  have le2 : wt ws v ≤ ((40 * 10 ^ 6 : Nat) : Rat) := by
    have : (((strsAt ws v).length * 10 ^ 6 : Nat) : Rat) ≤ ((40 * 10 ^ 6 : Nat) : Rat) := Rat.natCast_le_natCast.mpr (Nat.mul_le_mul_right _ hl)
    grind
  have t800 : ((10 ^ 6) ^ 40 : Nat) ≤ 2 ^ 800 := by decide +kernel
  have hden : (wt ws v).den ≤ 2 ^ 800 := Nat.le_trans (Nat.le_trans (z.den_le (denProd_pos _)) hp) t800
  have hnum : (wt ws v).num.natAbs ≤ 2 ^ 900 := by
    have a := num_le h0 le2
    have b : 40 * 10 ^ 6 * (wt ws v).den ≤ 2 ^ 100 * 2 ^ 800 := Nat.mul_le_mul (by decide) hden
    rw [← Nat.pow_add] at b
    exact Nat.le_trans a b
  refine ⟨h0, ⟨Nat.lt_of_le_of_lt hnum (Nat.pow_lt_pow_right (by decide) (by decide)), Nat.lt_of_le_of_lt hden (Nat.pow_lt_pow_right (by decide) (by decide))⟩, hnum, le2, hden⟩
theorem str_fits (sz : SzNet ws) {w : W3} (hw : w ∈ ws) : Fits w.2.2 := by
  obtain ⟨a, b⟩ := sz w hw
  have h1 : (10 ^ 6 : Nat) < 2 ^ 100 := by decide
  have h2 : (2 : Nat) ^ 100 < 2 ^ 20000 := Nat.pow_lt_pow_right (by decide) (by decide)
  have h3 : (2 : Nat) ^ 100 < 2 ^ 9000 := Nat.pow_lt_pow_right (by decide) (by decide)
  exact ⟨Nat.lt_of_le_of_lt a (Nat.lt_trans h1 h2), Nat.lt_of_le_of_lt b (Nat.lt_trans h1 h3)⟩
theorem small9 {a b : Nat} (ha : a ≤ e) (hb : b ≤ 2 ^ 999) (he : e * 2 ^ 1000 < 2 ^ 9000) : a * b < 2 ^ 9000 := by
  have h1 : a * b ≤ e * 2 ^ 999 := Nat.mul_le_mul ha hb
  have h2 : e * 2 ^ 999 ≤ e * 2 ^ 1000 := Nat.mul_le_mul_left e (Nat.pow_le_pow_right (by decide) (by decide))
  exact Nat.lt_of_le_of_lt (Nat.le_trans h1 h2) he
/-- what goes along a wire: all that is asked of the reckoning -/
structure Flow (a s W : Rat) : Prop where
  fa : Fits a
  fs : Fits s
  d1 : a.den * s.den < 2 ^ 9000
  ft : Fits (a * s)
  fw : Fits W
  ne : W ≠ 0
  ps : 0 < W
  d2 : (a * s).den * W.num.natAbs < 2 ^ 9000
theorem flow_of (gn : GoodNet n p ws) (sz : SzNet ws) (ch : Chs n e f) (fe : e * 2 ^ 1000 < 2 ^ 9000) {w : W3} (hw : w ∈ ws) {u : Nat} (hu : u < n) (ht : touch u w = true) : Flow (f u) w.2.2 (wt ws u) := by
  obtain ⟨s1, s2⟩ := sz w hw
  have b := wt_pos (ends_of gn).pos hw ht
  obtain ⟨w0, wf, wn, _, _⟩ := wt_facts gn sz u
  have c0 := ch.ge u hu
  have c1 := ch.le u hu
  have s0 := (gn.ok w hw).2.2
  have hc : (f u).den ≤ e := (ch.den u hu).den_le ch.pos
  have e9 : e < 2 ^ 9000 := by
    have : e * 1 ≤ e * 2 ^ 1000 := Nat.mul_le_mul_left e (Nat.pow_pos (by decide))
    omega
  have t6 : (10 ^ 6 : Nat) ≤ 2 ^ 20 := by decide
  have d1 : (f u).den * w.2.2.den < 2 ^ 9000 := small9 hc (Nat.le_trans s2 (Nat.le_trans t6 (Nat.pow_le_pow_right (by decide) (by decide)))) fe
  have zt : InZ (e * w.2.2.den) (f u * w.2.2) := (ch.den u hu).mul (inZ_den _)
  have pt : 0 < e * w.2.2.den := Nat.mul_pos ch.pos (Nat.pos_of_ne_zero w.2.2.den_nz)
  have ht0 : 0 ≤ f u * w.2.2 := Rat.mul_nonneg c0 (by grind)
  have ht1 : f u * w.2.2 ≤ ((10 ^ 6 : Nat) : Rat) := by
    have a1 : f u * w.2.2 ≤ 1 * w.2.2 := Rat.mul_le_mul_of_nonneg_right c1 (by grind)
    have a2 : w.2.2 ≤ ((10 ^ 6 : Nat) : Rat) := le_num s1
    grind
  have dt : e * w.2.2.den < 2 ^ 9000 := small9 (Nat.le_refl e) (Nat.le_trans s2 (Nat.le_trans t6 (Nat.pow_le_pow_right (by decide) (by decide)))) fe
  refine ⟨fits_of ch.pos (ch.den u hu) c0 (M := 1) (by simpa using c1) (k1000 (by decide)) e9, str_fits sz hw, d1, fits_of pt zt ht0 ht1 (Nat.le_trans t6 (Nat.pow_le_pow_right (by decide) (by decide))) dt, wf, by grind, b, ?_⟩
  have h1 : (f u * w.2.2).den ≤ e * w.2.2.den := zt.den_le pt
  have h2 : (f u * w.2.2).den * (wt ws u).num.natAbs ≤ e * (w.2.2.den * 2 ^ 900) := by
    rw [← Nat.mul_assoc]
    exact Nat.mul_le_mul h1 wn
  have h3 : w.2.2.den * 2 ^ 900 ≤ 2 ^ 20 * 2 ^ 900 := Nat.mul_le_mul_right _ (Nat.le_trans s2 t6)
  rw [← Nat.pow_add] at h3
  exact Nat.lt_of_le_of_lt h2 (small9 (Nat.le_refl e) (Nat.le_trans h3 (Nat.pow_le_pow_right (by decide) (by decide))) fe)
theorem acc_fits (gn : GoodNet n p ws) (hD : DenOk n ws D) (ch : Chs n e f) (fe : StepFits D e) {v : Nat} (hv : v < n) {k : Nat} (hk : k ≤ ws.length) : Fits (acc ws f k v) := by
  obtain ⟨a, b, c'⟩ := acc_facts gn hD ch hv k hk
  have := gn.len
  exact fits_of (Nat.mul_pos ch.pos hD.pos) a b c' (k1000 (by omega)) (lt_of_sq fe.1)
theorem den2 {x y : Rat} (hp : 0 < e * D) (fe : StepFits D e) (hx : InZ (e * D) x) (hy : InZ (e * D) y) : x.den * y.den < 2 ^ 9000 :=
  Nat.lt_of_le_of_lt (Nat.mul_le_mul (hx.den_le hp) (hy.den_le hp)) fe.1
theorem tf_fits (hp : 0 < e * D) (fe : StepFits D e) {x : Rat} (hx : InZ (e * D) x) (h0 : 0 ≤ x) (h1 : x ≤ 1) : Fits x := fits_of hp hx h0 (M := 1) (by simpa using h1) (k1000 (by decide)) (lt_of_sq fe.1)
end
end L3

/-! L4j: the program's walks. -/
namespace L3
open PySem PySem.Spec PyProof.Rows L2 L4
variable {c : Str → Addr} {xs : List PV} {h : Hq} {Q : VQ} {E : XQ}
theorem mul_div_swap (a b d : Rat) : a / b * d = a * d / b := by rw [Rat.div_def, Rat.div_def]; grind
def sbody (c : Str → Addr) : SQ := (seqS (asgS (fcQ (sp_ratio_over c) 0 noX (consQ (fcQ (sp_ratio_times c) 0 noX (consQ (opQ ixQ (varQ 2) (varQ 3)) (consQ (varQ 6) nilQ))) (consQ (opQ ixQ (varQ 1) (varQ 3)) nilQ))) (nameG 7)) (seqS (asgS (fcQ (sp_ratio_over c) 0 noX (consQ (fcQ (sp_ratio_times c) 0 noX (consQ (opQ ixQ (varQ 2) (varQ 5)) (consQ (varQ 6) nilQ))) (consQ (opQ ixQ (varQ 1) (varQ 5)) nilQ))) (nameG 8)) (seqS (asgS (fcQ (sp_ratio_sum c) 0 noX (consQ (opQ ixQ (varQ 4) (varQ 5)) (consQ (varQ 7) nilQ))) (setG (varQ 4) (varQ 5))) (asgS (fcQ (sp_ratio_sum c) 0 noX (consQ (opQ ixQ (varQ 4) (varQ 3)) (consQ (varQ 8) nilQ))) (setG (varQ 4) (varQ 3))))))
theorem s_setG {to ti : TQ} {x : PV} {n : Sq} {h : Hq} {N : Sq → Hq → Prop} {a : Addr} {xs : List PV} {j : Nat} (ho : ∀ Q : VQ, Q (.ref a) h → to n h Q) (hi : ∀ Q : VQ, Q (.int (j : Nat)) h → ti n h Q) (e : h a = some (.lst xs)) (hj : j < xs.length) (q : N n (up h a (.lst (xs.set j x)))) : setG to ti x n h N :=
  ho _ (hi _ ⟨a, xs, (j : Int), j, rfl, rfl, e, rfl, hj, q⟩)
theorem step_loop {n p D e : Nat} {ws : List W3} {f : Nat → Rat} {DD : EndQ} {h : Hq} {net wx cx : PV} {P : Addr} {st : Hq → Prop} (gn : GoodNet n p ws) (sz : SzNet ws) (hD : DenOk n ws D) (ch : Chs n e f) (fe : StepFits D e) (hw : lstOf h wx = some (fracs n (wt ws))) (hc : lstOf h cx = some (fracs n f)) (np : h P = none) (hst : ∀ h', Sub h h' → st h')
    (fn : ∀ h' a1 a2 a3 a4 a5 a6, Sub h h' → h' P = some (.lst (fracs n (stepR ws f))) → DD.nx [some net, some wx, some cx, a1, some (.ref P), a2, a3, a4, a5, a6] h') : ∀ (m k : Nat) (h' : Hq) (a1 a2 a3 a4 a5 a6 : Option PV), m + k = ws.length → Sub h h' → h' P = some (.lst (fracs n (acc ws f k))) →
    forQ st (tupG 3 (consG (nameG 3) (consG (nameG 5) (consG (nameG 6) nilG)))) (sbody c) DD ((ws.drop k).map wP) [some net, some wx, some cx, a1, some (.ref P), a2, a3, a4, a5, a6] h'
  | 0, k, h', a1, a2, a3, a4, a5, a6, hm, sb, eP => by
    rw [List.drop_of_length_le (by omega), List.map_nil]
    have : k = ws.length := by omega
    subst this
    refine ⟨hst h' sb, fn h' _ _ _ _ _ _ sb ?_⟩
    rw [eP, fracs_congr fun v _ => acc_all v]
  | m + 1, k, h', a1, a2, a3, a4, a5, a6, hm, sb, eP => by
    have hk : k < ws.length := by omega
    rw [List.drop_eq_getElem_cons hk, List.map_cons, s_forC]
    have hmem : ws[k] ∈ ws := List.getElem_mem hk
    obtain ⟨o1, o2, s0⟩ := gn.ok _ hmem
    generalize hwk : ws[k] = w at hmem o1 o2 s0
    have l1 : w.1 < n := by omega
    have t1 : touch w.1 w = true := touch_iff.mpr (.inl rfl)
    have t2 : touch w.2.1 w = true := touch_iff.mpr (.inr rfl)
    have F1 := flow_of gn sz ch fe.2 hmem l1 t1
    have F2 := flow_of gn sz ch fe.2 hmem o2 t2
    obtain ⟨z1, b1, c1⟩ := term_facts gn hD ch hmem l1 t1
    obtain ⟨z2, b2, c2⟩ := term_facts gn hD ch hmem o2 t2
    have hp : 0 < e * D := Nat.mul_pos ch.pos hD.pos
    have hc' : seqOf h' cx = some (fracs n f) := by
      cases cx with
      | ref a =>
        have : (match h a with | some (.lst xs) => some xs | _ => none) = some (fracs n f) := hc
        split at this
        · rename_i ys ea
          cases this
          exact seqOf_ref (sb _ _ ea)
        · cases this
      | fl ys => exact hc
      | _ => cases hc
    have hw' : seqOf h' wx = some (fracs n (wt ws)) := by
      cases wx with
      | ref a =>
        have : (match h a with | some (.lst xs) => some xs | _ => none) = some (fracs n (wt ws)) := hw
        split at this
        · rename_i ys ea
          cases this
          exact seqOf_ref (sb _ _ ea)
        · cases this
      | fl ys => exact hw
      | _ => cases hw
    refine ⟨hst h' sb, ?_⟩
    unfold sbody
    simp [wP_eq]
    refine ⟨_, hc', _, fracs_at l1, f w.1, w.2.2, rfl, F1.fa, F1.fs, F1.d1, ?_⟩
    refine ⟨_, hw', _, fracs_at l1, _, _, rfl, F1.ft, F1.fw, F1.ne, F1.d2, ?_⟩
    simp
    refine ⟨_, hc', _, fracs_at o2, f w.2.1, w.2.2, rfl, F2.fa, F2.fs, F2.d1, ?_⟩
    refine ⟨_, hw', _, fracs_at o2, _, _, rfl, F2.ft, F2.fw, F2.ne, F2.d2, ?_⟩
    simp
    obtain ⟨q1, q2, q3⟩ := acc_facts gn hD ch o2 k (by omega)
    obtain ⟨r1, r2, r3⟩ := acc_facts gn hD ch l1 k (by omega)
    refine ⟨_, seqOf_ref eP, _, fracs_at o2, _, _, rfl, acc_fits gn hD ch fe o2 (by omega), tf_fits hp fe z1 b1 c1, den2 hp fe q1 z1, ?_⟩
    refine s_setG (a := P) (j := w.2.1) (fun Q q => ⟨_, rfl, q⟩) (fun Q q => ⟨_, rfl, q⟩) eP (by rw [fracs_len]; exact o2) ?_
    rw [fracs_set]
    have hne : ¬ (w.1 = w.2.1) := by omega
    have sb1 : ∀ ys, Sub h (up h' P (.lst ys)) := fun ys b o eb => by
      rw [up_ne]
      · exact sb b o eb
      · intro z; rw [z, np] at eb; cases eb
    simp
    refine ⟨_, seqOf_ref up_same, _, fracs_at l1, acc ws f k w.1, f w.2.1 * w.2.2 / wt ws w.2.1, by simp [hne], acc_fits gn hD ch fe l1 (by omega), tf_fits hp fe z2 b2 c2, den2 hp fe r1 z2, ?_⟩
    refine s_setG (a := P) (j := w.1) (fun Q q => ⟨_, rfl, q⟩) (fun Q q => ⟨_, rfl, q⟩) up_same (by rw [fracs_len]; exact l1) ?_
    rw [fracs_set, up_up]
    have fin' : fracs n (fun v => if v = w.1 then acc ws f k w.1 + f w.2.1 * w.2.2 / wt ws w.2.1 else if v = w.2.1 then acc ws f k w.2.1 + f w.1 * w.2.2 / wt ws w.1 else acc ws f k v) = fracs n (acc ws f (k + 1)) := by
      refine fracs_congr fun v _ => ?_
      rw [acc_succ hk, hwk]
      unfold term
      by_cases e1 : v = w.1
      · subst e1
        rw [if_pos rfl, if_pos rfl]
        dsimp only
        rw [mul_div_swap]
      · rw [if_neg e1, if_neg (Ne.symm e1)]
        by_cases e2 : v = w.2.1
        · subst e2
          rw [if_pos rfl, if_pos rfl]
          dsimp only
          rw [mul_div_swap]
        · rw [if_neg e2, if_neg (Ne.symm e2)]
          grind
    rw [fin', ← List.map_drop]
    refine wk_same ?_
    exact step_loop gn sz hD ch fe hw hc np hst fn m (k + 1) _ _ _ _ _ _ _ (by omega) (sb1 _) up_same
theorem spec_stepped_chances (hsp : sp_stepped_chances c xs h Q E) : rd_stepped_chances c E (fin Q) (startQ ["net", "weights", "chances", "one", "found", "two", "strength", "there", "back", "weight"] xs) h := by
  obtain ⟨n, p, ws, wx, cx, f, D, e, rfl, gn, sz, hw, hc, hD, ch, fe, q⟩ := hsp
  unfold rd_stepped_chances
  have h48 := gn.n48
  simp
  refine zipI_lst (fun Q q => ⟨_, rfl, q⟩) (fun Q q => ⟨_, rfl, q⟩) hc hw ?_
  refine ⟨small_size (by rw [zipQ_len, fracs_len, fracs_len]; omega), ?_⟩
  dsimp only
  rw [zip_fracs]
  refine lc_map (l := List.range n) (b := fun v => frac (if wt ws v = 0 then f v else 0)) ?_ ?_ ?_
  · exact ⟨hc, hw⟩
  · intro v hv K hK
    simp
    refine eq_zero_frac ?_
    by_cases e0 : wt ws v = 0
    · simp [e0]
      have := hK h (Sub.refl h)
      rw [if_pos e0] at this
      exact this
    · simp [e0]
      have := hK h (Sub.refl h)
      rw [if_neg e0] at this
      exact this
  · intro P nP
    simp [netP]
    refine step_loop (c := c) (h := h) gn sz hD ch fe hw hc nP (fun h' _ => rfl) (fun h' a1 a2 a3 a4 a5 a6 sb eP => ?_) ws.length 0 _ _ _ _ _ _ _ (by omega) (Sub.up nP) ?_
    · simp
      exact rtQ.freeze eP sb nP q
    · rw [up_same]
      congr 2
      exact (fracs_congr fun v _ => acc_zero v).symm
end L3

/-! L4k: walks of several steps. -/
namespace L3
open PySem PySem.Spec PyProof.Rows L2 L4
variable {c : Str → Addr} {xs : List PV} {h : Hq} {Q : VQ} {E : XQ}
theorem seq_of_lst {h : Hq} {x : PV} {ys : List PV} (e : lstOf h x = some ys) : seqOf h x = some ys := by
  cases x with
  | tup _ => cases e
  | _ => exact e
theorem stepFits_of {D k j : Nat} (hD : 0 < D) (w : WalkFits D k) (hj : j < k) : StepFits D (D ^ j) := by
  have m : D ^ j ≤ D ^ k := Nat.pow_le_pow_right hD (by omega)
  have m1 : D ^ j * D ≤ D ^ k := by
    rw [← Nat.pow_succ]
    exact Nat.pow_le_pow_right hD (by omega)
  exact ⟨Nat.lt_of_le_of_lt (Nat.mul_le_mul m1 m1) w.1, Nat.lt_of_le_of_lt (Nat.mul_le_mul_right _ m) w.2⟩
theorem eq_intQ {Q : VQ} {i j : Nat} (k : Q (.bl (decide (i = j))) h) : eqDQ id (.int (i : Nat)) (.int (j : Nat)) h Q := by
  rw [s_eqI]
  have : (((i : Nat) : Int) == ((j : Nat) : Int)) = decide (i = j) := by
    by_cases e : i = j
    · subst e; simp
    · have : ((i : Nat) : Int) ≠ ((j : Nat) : Int) := by omega
      simp [e, this]
  show Q (.bl ((((i : Nat) : Int) == ((j : Nat) : Int)))) h
  rw [this]
  exact k
theorem frac_one : frac 1 = .tup [.int 1, .int 1] := rfl
theorem frac_nul : frac 0 = .tup [.int 0, .int 1] := rfl
theorem walk_loop {n p D a k : Nat} {ws : List W3} {DD : EndQ} {h : Hq} {wx x y : PV} {z : Option PV} (gn : GoodNet n p ws) (sz : SzNet ws) (hD : DenOk n ws D) (ha : a < n) (wf : WalkFits D k) (hw : lstOf h wx = some (fracs n (wt ws)))
    (fn : ∀ cx a5, lstOf h cx = some (fracs n (walkR ws a k)) → DD.nx [some (netP n p ws), some x, some y, some wx, some cx, a5, z] h) : ∀ (its : List PV) (j : Nat) (cx : PV) (a5 : Option PV), lstOf h cx = some (fracs n (walkR ws a j)) → j + its.length = k →
    forQ (fun _ => True) (nameG 5) (asgS (fcQ (sp_stepped_chances c) 0 noX (consQ (varQ 0) (consQ (varQ 3) (consQ (varQ 4) nilQ)))) (nameG 4)) DD its [some (netP n p ws), some x, some y, some wx, some cx, a5, z] h
  | [], j, cx, a5, hc, hj => by
    have : j = k := by simpa using hj
    subst this
    exact ⟨trivial, fn cx a5 hc⟩
  | i :: its, j, cx, a5, hc, hj => by
    rw [List.length_cons] at hj
    rw [s_forC]
    refine ⟨trivial, ?_⟩
    simp
    refine ⟨n, p, ws, wx, cx, walkR ws a j, D, D ^ j, rfl, gn, sz, hw, hc, hD, walk_chs (ends_of gn) hD ha j, stepFits_of hD.pos wf (by omega), ?_⟩
    exact wk_same (walk_loop gn sz hD ha wf hw fn its (j + 1) _ _ rfl (by omega))
theorem spec_chances_after (hsp : sp_chances_after c xs h Q E) : rd_chances_after c E (fin Q) (startQ ["net", "node", "steps", "weights", "found", "turn", "place"] xs) h := by
  obtain ⟨net, x, y, rfl, hx, hy, hh⟩ := hsp
  unfold rd_chances_after
  simp
  refine ⟨net, rfl, ?_⟩
  rcases hh with ⟨n, p, ws, a, k, D, e, gn, sz, ha, ex, ey, hk, hD, wf, q⟩ | ⟨place, fo, q⟩ | ⟨n, p, ws, e, gn, hb, q⟩ | ⟨n, p, ws, e, gn, hb, hb2, q⟩
  · subst e ex ey
    have h48 := gn.n48
    refine .inl ⟨n, p, ws, rfl, gn, ?_⟩
    have wx : wholeQ (.int 0) (.int ((n : Int) - 1)) (.int (a : Nat)) = true := by rw [wQ_lo]; exact decide_eq_true (by omega)
    refine ⟨n, p, ws, _, rfl, rfl, fun _ => ?_, fun z => by rw [wx] at z; cases z⟩
    refine ⟨_, _, _, rfl, rfl, rfl, rfl, ?_⟩
    rw [wQ_lo]
    have hk' : ((k : Nat) : Int) ≤ 60 := by omega
    simp [hk']
    refine ⟨n, p, ws, rfl, gn, sz, ?_⟩
    show rg1I _ _ _ _
    simp [netP]
    have hi62 : (n : Int) < 2 ^ 62 := by omega
    refine ⟨by omega, small_size (by simp [rgItems]; omega), ?_⟩
    unfold rgItems
    refine lc_map (b := fun v => frac (walkR ws a 0 v)) trivial ?_ ?_
    · intro v hv K hK
      simp
      have := hK h (Sub.refl h)
      unfold walkR at this
      by_cases e : v = a
      · subst e
        rw [if_pos rfl] at this
        exact .inr ⟨rfl, this⟩
      · rw [if_neg e] at this
        exact .inl ⟨by omega, this⟩
    · intro P nP
      refine ⟨by omega, ?_⟩
      refine walk_loop (h := up h P (.lst (fracs n (walkR ws a 0)))) gn sz hD ha wf rfl (fun cx a5 hc => ?_) _ 0 _ _ (lstOf_ref up_same) (by simp)
      simp
      exact ⟨_, seq_of_lst hc, rtQ.sub (Sub.up nP) q⟩
  · exact .inr ⟨place, fo, q⟩
  · subst e
    refine .inl ⟨n, p, ws, rfl, gn, ?_⟩
    exact ⟨n, p, ws, _, rfl, hx, (fun z => by rw [hb] at z; cases z), fun _ => q⟩
  · subst e
    refine .inl ⟨n, p, ws, rfl, gn, ?_⟩
    refine ⟨n, p, ws, _, rfl, hx, fun _ => ?_, fun z => by rw [hb] at z; cases z⟩
    refine ⟨_, _, _, rfl, hy, rfl, rfl, ?_⟩
    rw [hb2]
    simp
    exact q
theorem spec_step_chances (hsp : sp_step_chances c xs h Q E) : rd_step_chances c E (fin Q) (startQ ["net", "node"] xs) h := by
  obtain ⟨net, x, rfl, hh⟩ := hsp
  unfold rd_step_chances
  simp
  obtain ⟨net', x', y', exs, hx, hy, hh⟩ := hh
  simp only [List.cons.injEq, and_true] at exs
  obtain ⟨rfl, rfl, rfl⟩ := exs
  refine ⟨net, x, _, rfl, hx, hy, ?_⟩
  rcases hh with ⟨n, p, ws, a, k, D, e, gn, sz, ha, ex, ey, hk, hD, wf, q⟩ | ⟨place, fo, q⟩ | ⟨n, p, ws, e, gn, hb, q⟩ | ⟨n, p, ws, e, gn, hb, hb2, q⟩
  · exact .inl ⟨n, p, ws, a, k, D, e, gn, sz, ha, ex, ey, hk, hD, wf, rtQ.same q⟩
  · exact .inr (.inl ⟨place, fo, q⟩)
  · exact .inr (.inr (.inl ⟨n, p, ws, e, gn, hb, q⟩))
  · exact .inr (.inr (.inr ⟨n, p, ws, e, gn, hb, hb2, q⟩))
end L3

/-! L5a: the law's own fractions. -/
namespace L3
open PySem PySem.Spec PyProof.Rows L2 L4
variable {c : Str → Addr} {xs : List PV} {h : Hq} {Q : VQ} {E : XQ}
theorem spec_law_common (hsp : sp_law_common c xs h Q E) : rd_law_common c E (fin Q) (startQ ["one", "other"] xs) h := spec_gcd (c := c) hsp
theorem spec_law_ratio (hsp : sp_law_ratio c xs h Q E) : rd_law_ratio c E (fin Q) (startQ ["upper", "under", "common"] xs) h := by
  obtain ⟨a, b, rfl, hb, hs, q⟩ := hsp
  unfold rd_law_ratio
  have hneg : ¬ b < 0 := by omega
  have key : CDivW a (Int.gcd a b : Nat) ∧ CDivW b (Int.gcd a b : Nat) := by
    have h0 : 0 < Int.gcd a b := Int.gcd_pos_of_ne_zero_right a (by omega)
    have hl : Int.gcd a b ≤ b.natAbs := Nat.le_of_dvd (by omega) (by rw [Int.gcd]; exact Nat.gcd_dvd_right _ _)
    have : (((Int.gcd a b : Nat) : Int)).natAbs.log2 < 9000 := log_lt (by simpa using Nat.lt_of_le_of_lt hl hs) (by decide)
    exact ⟨⟨by omega, this⟩, ⟨by omega, this⟩⟩
  simp [hneg]
  refine ⟨a, b, rfl, ?_⟩
  simp
  refine ⟨key.1, key.2, by decide, rtQ.same ?_⟩
  obtain ⟨e1, e2⟩ := ratio_pos (p := a) (q := b) hb
  unfold frac at q
  rw [e1, e2] at q
  exact q
theorem den_mul_pos (a b : Rat) : (0 : Int) < (a.den : Int) * (b.den : Int) := Int.mul_pos (den_pos' a) (den_pos' b)
theorem spec_law_over (hsp : sp_law_over c xs h Q E) : rd_law_over c E (fin Q) (startQ ["one", "other"] xs) h := by
  obtain ⟨a, b, rfl, fa, fb, hb, hd, q⟩ := hsp
  unfold rd_law_over frac
  simp
  refine ⟨mulW fa.num fb.den (by decide) (by decide) (by decide), mulW fa.den fb.num (by decide) (by decide) (by decide), _, _, rfl, Int.mul_pos (den_pos' a) (num_pos.mpr hb), ?_, rtQ.same ?_⟩
  · rw [Int.natAbs_mul]; exact hd
  · rw [div_eq] at q
    exact q
theorem sum_loop {D : EndQ} {x : PV} {qs : List Rat} (sf : SumsFit qs) {h : Hq} {body : SQ} {st : Hq → Prop} (hst : st h) (hb : ∀ (a b : Rat) (D : EndQ) (h : Hq), Fits a → Fits b → a.den * b.den < 2 ^ 9000 → (D.nx [some x, some (frac (a + b)), some (.int b.num), some (.int b.den)] h) → body D [some x, some (frac a), some (.int b.num), some (.int b.den)] h)
    (fn : ∀ y z, D.nx [some x, some (frac qs.sum), y, z] h) : ∀ (m k : Nat) (y z : Option PV), m + k = qs.length → forQ st (tupG 2 (consG (nameG 2) (consG (nameG 3) nilG))) body D ((qs.drop k).map frac) [some x, some (frac (qs.take k).sum), y, z] h
  | 0, k, y, z, hm => by
    rw [List.drop_of_length_le (by omega), List.map_nil, s_forN, List.take_of_length_le (by omega)]
    exact ⟨hst, fn y z⟩
  | m + 1, k, y, z, hm => by
    have hk : k < qs.length := by omega
    rw [List.drop_eq_getElem_cons hk, List.map_cons, s_forC]
    have e : qs[k]? = some qs[k] := List.getElem?_eq_getElem hk
    obtain ⟨f1, f2, f3⟩ := sf k _ e
    refine ⟨hst, ?_⟩
    unfold frac
    simp only [s_tupG, s_consG, s_name, s_nilG, List.set_cons_succ, List.set_cons_zero]
    refine ⟨rfl, trivial, ?_⟩
    refine hb _ _ _ _ f1 f2 f3 (wk_same ?_)
    rw [← sum_take_succ e]
    exact sum_loop sf hst hb fn m (k + 1) _ _ (by omega)
theorem spec_law_sum (hsp : sp_law_sum c xs h Q E) : rd_law_sum c E (fin Q) (startQ ["fractions", "found", "upper", "under"] xs) h := by
  obtain ⟨x, qs, rfl, hx, sf, q⟩ := hsp
  unfold rd_law_sum
  simp
  refine ⟨by decide, _, hx, ?_⟩
  have := sum_loop (D := { fin Q with nx := retS (varQ 1) (fin Q) }) (x := x) sf (h := h) (body := (asgS (fcQ (sp_law_ratio c) 0 noX (consQ (opQ (I20 fun i j => .int (i + j)) (opQ (I2 CMulW fun i j => .int (i * j)) (opQ ixQ (varQ 1) (cQ (.int 0))) (varQ 3)) (opQ (I2 CMulW fun i j => .int (i * j)) (varQ 2) (opQ ixQ (varQ 1) (cQ (.int 1))))) (consQ (opQ (I2 CMulW fun i j => .int (i * j)) (opQ ixQ (varQ 1) (cQ (.int 1))) (varQ 3)) nilQ))) (nameG 1))) (st := stOf x (qs.map frac)) hx
    (fun a b D h fa fb hd k => by
      unfold frac
      simp
      refine ⟨mulW fa.num fb.den (by decide) (by decide) (by decide), mulW fb.num fa.den (by decide) (by decide) (by decide), mulW fa.den fb.den (by decide) (by decide) (by decide), _, _, rfl, den_mul_pos a b, ?_, ?_⟩
      · rw [natAbs_den]; exact hd
      · rw [add_eq] at k
        exact k) (fun y z => ⟨_, rfl, rtQ.same q⟩) qs.length 0 none none (by omega)
  simpa [frac] using this
theorem spec_law_times (hsp : sp_law_times c xs h Q E) : rd_law_times c E (fin Q) (startQ ["fractions", "found", "upper", "under"] xs) h := by
  obtain ⟨x, a, b, rfl, hx, fa, fb, hd, q⟩ := hsp
  unfold rd_law_times
  simp
  refine ⟨by decide, _, hx, hx, ?_⟩
  unfold frac
  have one : ∀ i : Int, i.natAbs < 2 ^ 20000 → CMulW 1 i := fun i hi => mulW (a := 1) (b := 20000) (by decide) hi (by decide) (by decide) (by decide)
  have da : ((a.den : Int)).natAbs < 2 ^ 20000 := by
    have h1 : (2 : Nat) ^ 9000 < 2 ^ 20000 := Nat.pow_lt_pow_right (by decide) (by decide)
    exact Nat.lt_trans fa.den h1
  simp only [s_tupG, s_consG, s_name, s_nilG, List.set_cons_succ, List.set_cons_zero]
  refine ⟨rfl, trivial, ?_⟩
  simp
  refine ⟨one _ fa.num, one _ da, _, _, rfl, den_pos' a, by simpa using fa.2, ?_⟩
  have ea : Rat.divInt a.num (a.den : Int) = a := Rat.num_divInt_den a
  rw [ea]
  refine wk_same ⟨hx, ?_⟩
  simp only [s_tupG, s_consG, s_name, s_nilG, List.set_cons_succ, List.set_cons_zero]
  refine ⟨rfl, trivial, ?_⟩
  simp [frac]
  refine ⟨mulW fa.num fb.num (by decide) (by decide) (by decide), mulW fa.den fb.den (by decide) (by decide) (by decide), _, _, rfl, den_mul_pos a b, by rw [natAbs_den]; exact hd, ?_⟩
  refine wk_same ⟨hx, ?_⟩
  simp
  rw [mul_eq] at q
  exact rtQ.same q
end L3

/-! L5b: the law's draws. -/
namespace L3
open PySem PySem.Spec PyProof.Rows L2 L4
variable {c : Str → Addr} {xs : List PV} {h : Hq} {Q : VQ} {E : XQ}
theorem lay_ints (l : List Int) : PyData.canLayAll0 (l.map .int) = true := by
  induction l with
  | nil => rfl
  | cons a l ih => simpa [PyData.canLayAll0, PyData.canLay0] using ih
theorem depth_ints (l : List Int) : PyData.depthAll (l.map .int) ≤ 1 := by
  induction l with
  | nil => decide
  | cons a l ih => simp [PyData.depthAll, PyData.depth]; omega
theorem shaped_ints (l : List Int) : SeqAt.shaped (.list (l.map .int)) = true := by
  have a := lay_ints l
  have b := depth_ints l
  unfold SeqAt.shaped
  have e : PyData.depth (.list (l.map .int)) = PyData.depthAll (l.map .int) + 1 := by first | rfl | simp [PyData.depth, Nat.add_comm]
  rw [Bool.and_eq_true]
  refine ⟨?_, decide_eq_true (by rw [e]; omega)⟩
  first | exact a | simpa [PyData.canLay0] using a
theorem dat_ints : ∀ (l : List Int), datFs (l.map .int) = some (l.map .int)
  | [] => rfl
  | a :: l => by
    simp [datFs, datF, dat_ints l]
theorem ne_ints (l : List Int) : PyData.eqv (.list (l.map .int)) (.list []) = l.isEmpty := by
  cases l with
  | nil => rfl
  | cons a l => rfl
@[simp] theorem s_dput {to ti tv : TQ} {D : EndQ} {n : Sq} : dputS to ti tv D n h = tv n h fun x h1 => to n h1 fun o h2 => ti n h2 fun y h3 => ∃ p kvs k, o = .ref p ∧ h3 p = some (.dic kvs) ∧ keyQ y = some k ∧ kvs.length < sizeLine ∧ D.nx n (up h3 p (.dic (putQ kvs k x))) := rfl
def dM (cs : List Int) (ag : Addr) (s : Int) : HV := .dic [(.inr "cells", .fl (cs.map .int)), (.inr "great", .ref ag), (.inr "spot", .int s)]
def kvM (cs : List Int) (ag : Addr) (s : Int) : List (Key × PV) := [(.inr "cells", .fl (cs.map .int)), (.inr "great", .ref ag), (.inr "spot", .int s)]
theorem val_spot {cs : List Int} {ag : Addr} {s : Int} : valQ (kvM cs ag s) (.inr "spot") = some (.int s) := rfl
theorem val_great {cs : List Int} {ag : Addr} {s : Int} : valQ (kvM cs ag s) (.inr "great") = some (.ref ag) := rfl
theorem val_cells {cs : List Int} {ag : Addr} {s : Int} : valQ (kvM cs ag s) (.inr "cells") = some (.fl (cs.map .int)) := rfl
theorem put_spot {cs : List Int} {ag : Addr} {s t : Int} : putQ (kvM cs ag s) (.inr "spot") (.int t) = kvM cs ag t := rfl
theorem s_dget {p : Addr} {kvs : List (Key × PV)} {k : Str} {z : PV} (e : h p = some (.dic kvs)) (v : valQ kvs (.inr k) = some z) (q : Q z h) : dgetQ (.ref p) (.str k) h Q := ⟨p, kvs, .inr k, z, rfl, e, rfl, v, q⟩
theorem eq_ref_nil {a p : Addr} {l : List Int} {f : Bool → Bool} (e : h a = some (.lst (l.map .int))) (e2 : h p = some (.lst [])) (q : Q (.bl (f l.isEmpty)) h) : eqDQ f (.ref a) (.ref p) h Q := by
  refine s_eqD (d := .list (l.map .int)) (e := .list []) ?_ ?_ (shaped_ints l) rfl ?_
  · show (match h a with | some (.lst xs) => (datFs xs).map PyData.list | _ => none) = _
    rw [e]
    show (datFs (l.map .int)).map PyData.list = _
    rw [dat_ints]
    rfl
  · show (match h p with | some (.lst xs) => (datFs xs).map PyData.list | _ => none) = _
    rw [e2]
    rfl
  · rw [ne_ints]
    exact q
theorem spec_law_mixed (hsp : sp_law_mixed c xs h Q E) : rd_law_mixed c E (fin Q) (startQ ["cell", "n", "blend"] xs) h := by
  obtain ⟨cell, n, rfl, hc, h0, hn, q⟩ := hsp
  unfold rd_law_mixed
  simp
  have b1 : (1 + 2 * n).natAbs < 2 ^ 70 := by omega
  have bn : n.natAbs < 2 ^ 61 := by omega
  have m1 : (cell * (1 + 2 * n)).natAbs < 2 ^ 170 := by
    rw [Int.natAbs_mul]
    have : cell.natAbs * (1 + 2 * n).natAbs < 2 ^ 100 * 2 ^ 70 := Nat.mul_lt_mul_of_lt_of_le hc (Nat.le_of_lt b1) (by decide)
    exact Nat.lt_of_lt_of_le this (by decide)
  have e1 : 0 ≤ cell * (1 + 2 * n) * 48271 % 2147483647 := Int.emod_nonneg _ (by decide)
  have e2 : cell * (1 + 2 * n) * 48271 % 2147483647 < 2147483647 := Int.emod_lt_of_pos _ (by decide)
  have b7 : (7919 * n).natAbs < 2 ^ 80 := by omega
  have b8 : (7919 * n * n).natAbs < 2 ^ 141 := by
    rw [Int.natAbs_mul]
    have : (7919 * n).natAbs * n.natAbs < 2 ^ 80 * 2 ^ 61 := Nat.mul_lt_mul_of_lt_of_le b7 (Nat.le_of_lt bn) (by decide)
    exact Nat.lt_of_lt_of_le this (by decide)
  have bb : (cell * (1 + 2 * n) * 48271 % 2147483647 + 7919 * n * n + 104729 * n).natAbs < 2 ^ 142 := by omega
  refine ⟨mulW (a := 10) (b := 61) (by decide) bn (by decide) (by decide) (by decide), mulW hc b1 (by decide) (by decide) (by decide), mulW (b := 20) m1 (by decide) (by decide) (by decide) (by decide), mulW (a := 20) (by decide) bn (by decide) (by decide) (by decide), mulW b7 bn (by decide) (by decide) (by decide), mulW (a := 20) (by decide) bn (by decide) (by decide) (by decide), mulW (b := 20) bb (by decide) (by decide) (by decide) (by decide), ⟨by decide, by decide⟩, rtQ.same ?_⟩
  have e3 : 0 ≤ (cell * (1 + 2 * n) * 48271 % 2147483647 + 7919 * n * n + 104729 * n) * 69621 % 2147483629 := Int.emod_nonneg _ (by decide)
  have e4 : (cell * (1 + 2 * n) * 48271 % 2147483647 + 7919 * n * n + 104729 * n) * 69621 % 2147483629 < 2147483629 := Int.emod_lt_of_pos _ (by decide)
  refine q _ (Int.ediv_nonneg e3 (by decide)) ?_
  omega
theorem idx64 {s : Int} (h : 0 ≤ s) : ∃ j : Nat, s % 64 = (j : Nat) ∧ j < 64 := by
  refine ⟨(s % 64).toNat, ?_, ?_⟩ <;> omega
theorem draw_cells {m ag : Addr} {cs : List Int} {s lim : Int} {h2 : Hq} (em2 : h2 m = some (.dic (kvM cs ag (s + 1)))) (s0 : 0 ≤ s) (sbig : s < 2 ^ 60) (hcl : cs.length = 64) (hcs : ∀ c ∈ cs, 0 ≤ c ∧ c < 2 ^ 31) (l0 : 0 < lim) (q : ∀ i : Nat, (i : Int) < lim → Q (.int (i : Nat)) h2) :
    dgetQ (.ref m) (.str "cells") h2 (fun x h1 => intQ [.int s] h1 fun x_2 h1 => I2 (fun _ j => 0 < j) (fun i j => .int (i % j)) x_2 (.int 64) h1 fun y h2 => ixQ x y h2 fun x h1 => I2 CDivW (fun i j => .int (i / j)) (.int s) (.int 64) h1 fun y h2 => I2 CMulW (fun i j => .int (i * j)) (.int 31) y h2 fun y h2 => I20 (fun i j => .int (i + j)) x y h2 fun x h1 =>
      sp_law_mixed c [x, .int s] h1 (fun x h1 => I20 (fun i j => .int (i + j)) (.int s) (.int 7) h1 fun x_3 h1 => sp_law_mixed c [x, x_3] h1 (fun x h1 => intQ [x] h1 fun x h1 => I2 (fun _ j => 0 < j) (fun i j => .int (i % j)) x (.int lim) h1 (rtQ Q)) noX) noX) := by
  refine s_dget em2 val_cells ?_
  obtain ⟨j, ej, hj⟩ := idx64 s0
  have hjl : j < cs.length := by omega
  simp
  have w31 : CMulW 31 (s / 64) := mulW (a := 10) (b := 60) (by decide) (by omega) (by decide) (by decide) (by decide)
  have d64 : CDivW s 64 := ⟨by decide, by decide⟩
  refine ⟨.int cs[j], ?_, d64, w31, ?_⟩
  · rw [ej, atQ_nat, List.getElem?_map, List.getElem?_eq_getElem hjl]
    rfl
  · obtain ⟨c0, c1⟩ := hcs _ (List.getElem_mem hjl)
    generalize cs[j] = cc at c0 c1
    simp
    refine ⟨_, _, rfl, by omega, by omega, by omega, fun r r0 r1 => ⟨_, _, rfl, by omega, by omega, by omega, fun r' r0' r1' => ?_⟩⟩
    simp
    refine ⟨l0, rtQ.same ?_⟩
    have a0 := Int.emod_nonneg r' (show lim ≠ 0 by omega)
    have a1 := Int.emod_lt_of_pos r' l0
    have e : r' % lim = (((r' % lim).toNat : Nat) : Int) := by omega
    rw [e]
    exact q _ (by omega)
theorem spec_law_draw (hsp : sp_law_draw c xs h Q E) : rd_law_draw c E (fin Q) (startQ ["m", "limit", "n", "lot", "here", "cell"] xs) h := by
  obtain ⟨m, ag, k, lim, rfl, ⟨cs, gs, s, em, ea, ne, hcl, hcs, hgl, s0, sk⟩, hk, l0, l60, q⟩ := hsp
  unfold rd_law_draw
  have em : h m = some (.dic (kvM cs ag s)) := em
  simp
  refine s_dget em val_spot ?_
  rw [s_I20]
  refine ⟨_, em, _, rfl, by show 3 < sizeLine; decide, ?_⟩
  rw [put_spot]
  have em1 : up h m (.dic (kvM cs ag (s + 1))) m = some (.dic (kvM cs ag (s + 1))) := up_same
  have ea1 : up h m (.dic (kvM cs ag (s + 1))) ag = some (.lst (gs.map .int)) := by rw [up_ne (Ne.symm ne)]; exact ea
  have kp1 : ∀ b o, b ≠ m → b ≠ ag → h b = some o → up h m (.dic (kvM cs ag (s + 1))) b = some o := fun b o nm na e => by rw [up_ne nm]; exact e
  generalize up h m (.dic (kvM cs ag (s + 1))) = h1 at em1 ea1 kp1
  refine s_dget em1 val_great fun p0 np0 => ?_
  have nep : ag ≠ p0 := fun z => by rw [← z, ea1] at np0; cases np0
  have nmp : m ≠ p0 := fun z => by rw [← z, em1] at np0; cases np0
  have ea2 : up h1 p0 (.lst []) ag = some (.lst (gs.map .int)) := by rw [up_ne nep]; exact ea1
  have em2 : up h1 p0 (.lst []) m = some (.dic (kvM cs ag (s + 1))) := by rw [up_ne nmp]; exact em1
  have kp2 : ∀ b o, b ≠ m → b ≠ ag → h b = some o → up h1 p0 (.lst []) b = some o := fun b o nm na e => by
    have := kp1 b o nm na e
    rw [up_ne (fun z => by rw [z, np0] at this; cases this)]
    exact this
  have ep2 : up h1 p0 (.lst []) p0 = some (.lst []) := up_same
  generalize up h1 p0 (.lst []) = h2 at ea2 em2 kp2 ep2
  refine eq_ref_nil ea2 ep2 ?_
  have sbig : s < 2 ^ 60 := by omega
  have done : ∀ i : Nat, (i : Int) < lim → Q (.int (i : Nat)) h2 := fun i hi => q i _ hi ⟨⟨cs, gs, s + 1, em2, ea2, ne, hcl, hcs, hgl, by omega, by omega⟩, kp2⟩
  cases hg : gs.isEmpty with
  | true =>
    refine .inl ⟨rfl, ?_⟩
    exact draw_cells em2 s0 sbig hcl hcs l0 done
  | false =>
    refine .inr ⟨rfl, ?_⟩
    refine s_dget em2 val_great ?_
    have gl : 0 < gs.length := by
      cases gs with
      | nil => cases hg
      | cons _ _ => simp
    rw [s_int]
    refine ⟨_, seqOf_ref ea2, ?_⟩
    simp
    refine ⟨gl, _, seqOf_ref ea2, ?_⟩
    obtain ⟨j, ej, hj⟩ : ∃ j : Nat, s % (gs.length : Int) = (j : Nat) ∧ j < gs.length := by
      have a0 := Int.emod_nonneg s (show (gs.length : Int) ≠ 0 by omega)
      have a1 := Int.emod_lt_of_pos s (show (0 : Int) < (gs.length : Int) by omega)
      exact ⟨(s % (gs.length : Int)).toNat, by omega, by omega⟩
    rw [ej]
    refine ⟨.int gs[j], by rw [atQ_nat, List.getElem?_map, List.getElem?_eq_getElem hj]; rfl, ?_⟩
    rw [s_I20]
    by_cases hp : 0 < gs[j]
    · refine .inr ⟨by rw [decide_eq_true hp], ?_⟩
      rw [s_I2]
      refine ⟨⟨l0, Nat.lt_trans (log_lt (k := 60) (by omega) (by decide)) (by decide)⟩, ?_⟩
      refine s_setG (a := ag) (j := j) (fun Q q => ⟨_, rfl, q⟩) (fun Q q => ⟨_, rfl, q⟩) ea2 (by simpa using hj) ?_
      simp
      refine ⟨l0, rtQ.same ?_⟩
      have a0 := Int.emod_nonneg gs[j] (show lim ≠ 0 by omega)
      have a1 := Int.emod_lt_of_pos gs[j] l0
      have e : gs[j] % lim = (((gs[j] % lim).toNat : Nat) : Int) := by omega
      rw [e]
      refine q _ _ (by omega) ⟨⟨cs, gs.set j (gs[j] / lim), s + 1, by rw [up_ne ne]; exact em2, by rw [up_same, List.map_set], ne, hcl, hcs, by rw [List.length_set]; exact hgl, by omega, by omega⟩, fun b o nm na e => by rw [up_ne na]; exact kp2 b o nm na e⟩
    · refine .inl ⟨by rw [decide_eq_false hp], ?_⟩
      have fin' := draw_cells (c := c) em2 s0 sbig hcl hcs l0 done
      simpa using fin'
theorem Mv.ref {h h' : Hq} {m ag p : Addr} {k : Nat} {o : HV} (v : Mv h h' m ag k) (n1 : p ≠ m) (n2 : p ≠ ag) (e : h p = some o) : h' p = some o := v.kp p o n1 n2 e
theorem spec_law_of (hsp : sp_law_of c xs h Q E) : rd_law_of c E (fin Q) (startQ ["m", "some"] xs) h := by
  obtain ⟨m, ag, k, p, ys, rfl, ds, hk, n1, n2, ep, hl, hl2, q⟩ := hsp
  unfold rd_law_of
  simp
  refine ⟨_, seqOf_ref ep, m, ag, k, _, rfl, ds, hk, by omega, by omega, fun i h' hi mv => ?_⟩
  simp
  have hi' : i < ys.length := by omega
  exact ⟨_, seqOf_ref (mv.ref n1 n2 ep), ys[i], by rw [atQ_nat, List.getElem?_eq_getElem hi'], rtQ.same (q _ (List.getElem_mem hi') _ mv)⟩
end L3

/-! L5c: loops by an invariant; the cells, the beginning, orders, strengths. -/
namespace L3
open PySem PySem.Spec PyProof.Rows L2 L4
variable {c : Str → Addr} {xs : List PV} {h : Hq} {Q : VQ} {E : XQ}
theorem for_k' {st : Hq → Prop} {g : GQ} {b : SQ} {D : EndQ} {its : List PV} (I : Nat → Sq → Hq → Prop) (hst : ∀ k n h, I k n h → st h)
    (step : ∀ k x, its[k]? = some x → ∀ n h (K : Sq → Hq → Prop), I k n h → (∀ n' h', I (k + 1) n' h' → K n' h') → g x n h fun n1 h1 => b { D with nx := K, ct := K, bk := D.nx } n1 h1) (fn : ∀ n h, I its.length n h → D.nx n h) :
    ∀ (m k : Nat) {n h}, m + k = its.length → I k n h → forQ st g b D (its.drop k) n h
  | 0, k, n, h, hm, i => by
    rw [List.drop_of_length_le (by omega)]
    have : k = its.length := by omega
    subst this
    exact ⟨hst _ _ _ i, fn _ _ i⟩
  | m + 1, k, n, h, hm, i => by
    have hk : k < its.length := by omega
    rw [List.drop_eq_getElem_cons hk, s_forC]
    exact ⟨hst _ _ _ i, step k _ (List.getElem?_eq_getElem hk) n h _ i fun n' h' i' => wk_same (for_k' I hst step fn m (k + 1) (by omega) i')⟩
theorem for_k {st : Hq → Prop} {g : GQ} {b : SQ} {D : EndQ} {its : List PV} (I : Nat → Sq → Hq → Prop) {n : Sq} {h : Hq} (i0 : I 0 n h) (hst : ∀ k n h, I k n h → st h)
    (step : ∀ k x, its[k]? = some x → ∀ n h (K : Sq → Hq → Prop), I k n h → (∀ n' h', I (k + 1) n' h' → K n' h') → g x n h fun n1 h1 => b { D with nx := K, ct := K, bk := D.nx } n1 h1) (fn : ∀ n h, I its.length n h → D.nx n h) : forQ st g b D its n h := by
  have := for_k' I hst step fn its.length 0 (by omega) i0
  simpa using this
theorem Mv.trans {h h1 h2 : Hq} {m ag : Addr} {k1 k2 : Nat} (a : Mv h h1 m ag k1) (b : Mv h1 h2 m ag k2) : Mv h h2 m ag k2 := ⟨b.ds, fun p o n1 n2 e => b.kp p o n1 n2 (a.kp p o n1 n2 e)⟩
theorem DS.up {m ag p : Addr} {k : Nat} {o : HV} (d : DS h m ag k) (n1 : p ≠ m) (n2 : p ≠ ag) : DS (up h p o) m ag k := by
  obtain ⟨cs, gs, s, a, b, r⟩ := d
  exact ⟨cs, gs, s, by rw [up_ne (Ne.symm n1)]; exact a, by rw [up_ne (Ne.symm n2)]; exact b, r⟩
theorem DS.mono {m ag : Addr} {k k' : Nat} (d : DS h m ag k) (hk : k ≤ k') : DS h m ag k' := by
  obtain ⟨cs, gs, s, a, b, c1, c2, c3, c4, c5, c6⟩ := d
  exact ⟨cs, gs, s, a, b, c1, c2, c3, c4, c5, by omega⟩
theorem DS.fresh {m ag p : Addr} {k : Nat} (d : DS h m ag k) (np : h p = none) : p ≠ m ∧ p ≠ ag := by
  obtain ⟨cs, gs, s, a, b, _⟩ := d
  exact ⟨(fun z => by rw [z, a] at np; cases np), fun z => by rw [z, b] at np; cases np⟩
theorem Mv.up {h h' : Hq} {m ag p : Addr} {k : Nat} {o : HV} (v : Mv h h' m ag k) (np : h p = none) (n1 : p ≠ m) (n2 : p ≠ ag) : Mv h (up h' p o) m ag k :=
  ⟨v.ds.up n1 n2, fun b u x1 x2 e => by
    rw [up_ne]
    · exact v.kp b u x1 x2 e
    · intro z; rw [z, np] at e; cases e⟩
theorem Mv.mono {h h' : Hq} {m ag : Addr} {k k' : Nat} (v : Mv h h' m ag k) (hk : k ≤ k') : Mv h h' m ag k' := ⟨v.ds.mono hk, v.kp⟩
theorem Mv.refl {h : Hq} {m ag : Addr} {k : Nat} (d : DS h m ag k) : Mv h h m ag k := ⟨d, fun _ _ _ _ e => e⟩
theorem perm_map {α β : Type} {f : α → β} : ∀ {a b : List β}, a.Perm b → ∀ {l : List α}, b = l.map f → ∃ l' : List α, l'.Perm l ∧ a = l'.map f := by
  intro a b p
  induction p with
  | nil =>
    intro l e
    cases l with
    | nil => exact ⟨[], .refl _, rfl⟩
    | cons _ _ => cases e
  | cons x p ih =>
    intro l e
    cases l with
    | nil => cases e
    | cons y l =>
      rw [List.map_cons] at e
      injection e with e1 e2
      obtain ⟨l', p', e'⟩ := ih e2
      exact ⟨y :: l', .cons _ p', by rw [List.map_cons, e1, e']⟩
  | swap x y t =>
    intro l e
    match l, e with
    | u :: v :: l, e =>
      simp only [List.map_cons, List.cons.injEq] at e
      obtain ⟨e1, e2, e3⟩ := e
      exact ⟨v :: u :: l, .swap _ _ _, by simp [e1, e2, e3]⟩
    | [_], e => simp at e
    | [], e => simp at e
  | trans p q ih1 ih2 =>
    intro l e
    obtain ⟨l1, p1, e1⟩ := ih2 e
    obtain ⟨l2, p2, e2⟩ := ih1 e1
    exact ⟨l2, p2.trans p1, e2⟩
/-! ### the cells -/
def Cells (cs : List Int) : Prop := cs.length = 64 ∧ ∀ c ∈ cs, 0 ≤ c ∧ c < 2 ^ 31
theorem Cells.set {cs : List Int} (C : Cells cs) {i : Nat} {x : Int} : Cells (cs.set i (x % 2147483647)) := by
  refine ⟨by rw [List.length_set]; exact C.1, fun y hy => ?_⟩
  rcases List.mem_or_eq_of_mem_set hy with h | h
  · exact C.2 y h
  · subst h
    have a := Int.emod_nonneg x (show (2147483647 : Int) ≠ 0 by decide)
    have b := Int.emod_lt_of_pos x (show (0 : Int) < 2147483647 by decide)
    omega
theorem cell_at {cs : List Int} {j : Nat} (hj : j < cs.length) : atQ (cs.map .int) ((j : Nat) : Int) = some (.int cs[j]) := by
  rw [atQ_nat, List.getElem?_map, List.getElem?_eq_getElem hj]
  rfl
theorem lst_seq {h : Hq} {a : Addr} {l : List PV} (e : h a = some (.lst l)) : seqOf h (.ref a) = some l := seqOf_ref e
theorem spec_law_folded (hsp : sp_law_folded c xs h Q E) : rd_law_folded c E (fin Q) (startQ ["script", "n", "found", "cell"] xs) h := by
  obtain ⟨x, ns, rfl, hx, hl, q⟩ := hsp
  unfold rd_law_folded
  simp
  show rg1I _ _ _ _
  simp
  refine ⟨small_size (by simp [rgItems]), ?_⟩
  unfold rgItems
  refine lc_map (b := fun v => .int (17 + (v : Nat) : Int)) trivial ?_ ?_
  · intro v hv K hK
    simp
    have := hK h (Sub.refl h)
    simpa using this
  intro P nP
  have e0 : (List.range 64).map (fun v : Nat => PV.int (17 + (v : Nat) : Int)) = ((List.range 64).map fun v : Nat => (17 + (v : Nat) : Int)).map .int := by
    rw [List.map_map]
    rfl
  rw [e0]
  have C0 : Cells ((List.range 64).map fun v : Nat => (17 + (v : Nat) : Int)) := ⟨by simp, fun c hc => by
    obtain ⟨v, hv, rfl⟩ := List.mem_map.mp hc
    have : v < 64 := by simpa using hv
    omega⟩
  have en : ∀ {R : LIt → Hq → Prop} {hh : Hq} {n : Sq}, n[0]? = some (some x) → lstOf hh x = some (ns.map .int) → R ⟨enQ 0 (ns.map .int), fun h => lstOf h x = some (ns.map .int)⟩ hh → enumI (varQ 0) n hh R := by
    intro R hh n e0 e1 r
    refine ⟨x, e0, ?_⟩
    cases x with
    | tup _ => cases e1
    | _ => exact ⟨_, e1, r⟩
  have sbx : ∀ hh, Sub h hh → lstOf hh x = some (ns.map .int) := fun hh s => by
    cases x with
    | ref a =>
      have : (match h a with | some (.lst xs) => some xs | _ => none) = some (ns.map .int) := hx
      split at this
      · rename_i ys ea
        cases this
        exact lstOf_ref (s _ _ ea)
      · cases this
    | fl ys => exact hx
    | _ => cases hx
  refine en rfl (sbx _ (Sub.up nP)) ?_
  dsimp only
  refine for_k (fun k n hh => ∃ cs a1 a3, n = [some x, a1, some (.ref P), a3] ∧ Sub h hh ∧ hh P = some (.lst (cs.map .int)) ∧ Cells cs) ⟨_, _, _, rfl, Sub.up nP, up_same, C0⟩ (fun k n hh ⟨_, _, _, _, s, _⟩ => sbx hh s) ?_ ?_
  · rintro k y hy n hh K ⟨cs, a1, a3, rfl, s, eP, C⟩ kk
    rw [enQ_get, List.getElem?_map] at hy
    cases hns : ns[k]? with
    | none => rw [hns] at hy; cases hy
    | some z =>
      rw [hns] at hy
      cases hy
      simp
      obtain ⟨j, ej, hj⟩ := idx64 (show (0 : Int) ≤ ((k : Nat) : Int) by omega)
      have hjl : j < cs.length := by rw [C.1]; exact hj
      have C2 := C.2 _ (List.getElem_mem hjl)
      rw [ej]
      refine ⟨_, lst_seq eP, _, cell_at hjl, ?_⟩
      simp
      refine ⟨mulW (a := 31) (b := 20) (by omega) (by decide) (by decide) (by decide) (by decide), ?_⟩
      refine s_setG (a := P) (j := j) (fun Q q => ⟨_, rfl, q⟩) (fun Q q => by simp; rw [ej]; exact q) eP (by simpa using hjl) ?_
      refine kk _ _ ⟨cs.set j ((cs[j] * 48271 + z) % 2147483647), _, _, rfl, fun b o eb => ?_, by rw [up_same, List.map_set], C.set⟩
      rw [up_ne]
      · exact s b o eb
      · intro w; rw [w, nP] at eb; cases eb
  · rintro n hh ⟨cs, a1, a3, rfl, s, eP, C⟩
    simp
    show rg2I _ _ _ _ _
    refine ⟨1, 64, rfl, rfl, by decide, ?_⟩
    refine for_k (fun k n hh => ∃ cs a1 a3, n = [some x, a1, some (.ref P), a3] ∧ Sub h hh ∧ hh P = some (.lst (cs.map .int)) ∧ Cells cs) ⟨cs, _, _, rfl, s, eP, C⟩ (fun _ _ _ _ => trivial) ?_ ?_
    · rintro k y hy n hh K ⟨cs, a1, a3, rfl, s, eP, C⟩ kk
      have hk : k < 63 := by
        have := (List.getElem?_eq_some_iff.mp hy).1
        simpa [rgItems] using this
      have ey : y = .int ((k + 1 : Nat) : Int) := by
        unfold rgItems at hy
        rw [List.getElem?_map, List.getElem?_range (show k < (64 - 1 : Int).toNat from hk)] at hy
        simp at hy
        rw [← hy]
        congr 1
        omega
      subst ey
      have h1 : k + 1 < cs.length := by rw [C.1]; omega
      have h0 : k < cs.length := by omega
      have b1 := C.2 _ (List.getElem_mem h1)
      have b0 := C.2 _ (List.getElem_mem h0)
      simp only [s_name, List.set_cons_succ, List.set_cons_zero]
      simp
      refine ⟨_, lst_seq eP, _, cell_at h1, ?_⟩
      have ek : ((k : Int) + 1 - 1) = ((k : Nat) : Int) := by omega
      refine ⟨_, lst_seq eP, .int cs[k], by first | exact cell_at h0 | (rw [show ((k + 1 : Nat) : Int) - 1 = ((k : Nat) : Int) by omega]; exact cell_at h0), ?_⟩
      simp
      refine ⟨mulW (a := 31) (b := 20) (by omega) (by decide) (by decide) (by decide) (by decide), ?_⟩
      refine s_setG (a := P) (j := k + 1) (fun Q q => ⟨_, rfl, q⟩) (fun Q q => ⟨_, rfl, q⟩) eP (by simpa using h1) ?_
      refine kk _ _ ⟨cs.set (k + 1) ((cs[k + 1] + cs[k] * 16807) % 2147483647), _, _, rfl, fun b o eb => ?_, by rw [up_same, List.map_set], C.set⟩
      rw [up_ne]
      · exact s b o eb
      · intro w; rw [w, nP] at eb; cases eb
    · rintro n hh ⟨cs, a1, a3, rfl, s, eP, C⟩
      simp
      exact rtQ.freeze eP s nP (q cs C.1 C.2)
end L3

/-! L5d: the beginning, orders, strengths. -/
namespace L3
open PySem PySem.Spec PyProof.Rows L2 L4
variable {c : Str → Addr} {xs : List PV} {h : Hq} {Q : VQ} {E : XQ}
@[simp] theorem pairs_nil {n : Sq} {A : List (PV × PV) → Hq → Prop} : pairsQ [] n h A = A [] h := rfl
@[simp] theorem pairs_cons {n : Sq} {tk tv : TQ} {r : List (TQ × TQ)} {A : List (PV × PV) → Hq → Prop} : pairsQ ((tk, tv) :: r) n h A = tk n h fun k h1 => tv n h1 fun v h2 => pairsQ r n h2 fun ps h3 => A ((k, v) :: ps) h3 := rfl
@[simp] theorem s_disp {ps : List (TQ × TQ)} {n : Sq} : dispQ ps n h Q = pairsQ ps n h fun xs h1 => ∃ kvs, keysQ xs = some kvs ∧ kvs.length ≤ 15 ∧ ∀ p, h1 p = none → Q (.ref p) (up h1 p (.dic (mergeQ [] kvs))) := rfl
theorem merge_kv {x y z : PV} : mergeQ [] [((.inr "cells" : Key), x), (.inr "great", y), (.inr "spot", z)] = [(.inr "cells", x), (.inr "great", y), (.inr "spot", z)] := rfl
theorem put_great {cs : List Int} {p q : Addr} {s : Int} : putQ (kvM cs p s) (.inr "great") (.ref q) = kvM cs q s := rfl
theorem spec_law_begun (hsp : sp_law_begun c xs h Q E) : rd_law_begun c E (fin Q) (startQ ["script", "m", "cell"] xs) h := by
  obtain ⟨x, ns, rfl, hx, hl, q⟩ := hsp
  unfold rd_law_begun
  simp
  refine ⟨x, ns, rfl, hx, hl, fun cs hcl hcs p0 np0 => ?_⟩
  refine ⟨_, rfl, by show 3 ≤ 15; decide, fun p np => ?_⟩
  rw [merge_kv]
  have sb0 : Sub h (up h p0 (.lst [])) := Sub.up np0
  have sb1 := sb0.trans (Sub.up (o := HV.dic (kvM cs p0 0)) np)
  have ep : up (up h p0 (.lst [])) p (.dic (kvM cs p0 0)) p = some (.dic (kvM cs p0 0)) := up_same
  have hp : h p = none := sb0.none np
  show seqI _ _ _ _
  generalize hh1 : up (up h p0 (.lst [])) p (.dic (kvM cs p0 0)) = h1 at sb1 ep
  have hx1 : lstOf h1 x = some (ns.map .int) := by
    cases x with
    | ref a =>
      have : (match h a with | some (.lst xs) => some xs | _ => none) = some (ns.map .int) := hx
      split at this
      · rename_i ys ea
        cases this
        exact lstOf_ref (sb1 _ _ ea)
      · cases this
    | fl ys => exact hx
    | _ => cases hx
  refine ⟨x, rfl, ?_⟩
  have e1 : up (up h p0 (.lst [])) p (.dic [(.inr "cells", .fl (cs.map .int)), (.inr "great", .ref p0), (.inr "spot", .int 0)]) = h1 := hh1
  rw [e1]
  refine ⟨_, seq_of_lst hx1, small_size (by simp; omega), ?_⟩
  refine lc_map (b := fun z => .int (if (10 ^ 18 : Int) ≤ z then z else 0)) ?_ ?_ ?_
  · exact seq_of_lst hx1
  · intro z hz K hK
    simp
    refine ⟨⟨by decide, by decide, by decide⟩, ?_⟩
    have := hK h1 (Sub.refl _)
    by_cases hz : (10 ^ 18 : Int) ≤ z
    · rw [if_pos hz] at this
      first | exact .inr ⟨by simpa using hz, this⟩ | exact .inl ⟨by simpa using hz, this⟩
    · rw [if_neg hz] at this
      first | exact .inl ⟨by omega, this⟩ | exact .inr ⟨by omega, this⟩
  · intro P nP
    have neP : p ≠ P := fun z => by rw [← z, ep] at nP; cases nP
    simp
    refine ⟨_, by rw [up_ne neP]; exact ep, _, rfl, by show 3 < sizeLine; decide, ?_⟩
    rw [put_great]
    refine rtQ.same (q p P _ ⟨cs, ns.map fun z => if (10 ^ 18 : Int) ≤ z then z else 0, 0, up_same, by rw [up_ne (Ne.symm neP), up_same, List.map_map]; rfl, neP, hcl, hcs, by simp; omega, by decide, by decide⟩ fun b o eb => ?_)
    have n1 : b ≠ p := fun z => by rw [z, hp] at eb; cases eb
    have n2 : b ≠ P := fun z => by rw [z, sb1.none nP] at eb; cases eb
    exact ⟨n1, n2, by rw [up_ne n1, up_ne n2]; exact sb1 b o eb⟩
theorem Mv.del {h h' : Hq} {m ag p : Addr} {k : Nat} (v : Mv h h' m ag k) (np : h p = none) (n1 : p ≠ m) (n2 : p ≠ ag) : Mv h (delQ h' p) m ag k := by
  refine ⟨?_, fun b o x1 x2 e => ?_⟩
  · obtain ⟨cs, gs, s, a, b, r⟩ := v.ds
    exact ⟨cs, gs, s, by rw [delQ_ne (Ne.symm n1)]; exact a, by rw [delQ_ne (Ne.symm n2)]; exact b, r⟩
  · rw [delQ_ne]
    · exact v.kp b o x1 x2 e
    · intro z; rw [z, np] at e; cases e
theorem map_erase {α β : Type} {f : α → β} : ∀ {l : List α} {i : Nat}, (l.map f).eraseIdx i = (l.eraseIdx i).map f
  | [], _ => by simp
  | _ :: _, 0 => by simp
  | x :: l, i + 1 => by
    rw [List.map_cons, List.eraseIdx_cons_succ, List.eraseIdx_cons_succ, List.map_cons, map_erase]
theorem perm_erase {α : Type} : ∀ {l : List α} {i : Nat} {x : α}, l[i]? = some x → l.Perm (x :: l.eraseIdx i)
  | [], _, _, e => by simp at e
  | y :: l, 0, x, e => by
    simp at e
    subst e
    exact .refl _
  | y :: l, i + 1, x, e => by
    rw [List.eraseIdx_cons_succ]
    exact (List.Perm.cons y (perm_erase (by simpa using e))).trans (.swap _ _ _)
theorem order_loop {D : EndQ} {h : Hq} {m ag pl pf : Addr} {n k : Nat} {x : PV} (npl : h pl = none) (npf : h pf = none) (ne : pl ≠ pf) (d1 : pl ≠ m) (d2 : pl ≠ ag) (d3 : pf ≠ m) (d4 : pf ≠ ag) (hk : k + n < 2 ^ 60) (hn : n ≤ 2 ^ 20)
    (fn : ∀ (F : List Int) hh, F.Perm ((List.range n).map fun i : Nat => (i : Int)) → Mv h hh m ag (k + n) → hh pf = some (.lst (F.map .int)) → D.nx [some (.ref m), some x, some (.ref pl), some (.ref pf)] hh) : ∀ (j : Nat) (L F : List Int) (hh : Hq), L.length = j → F.length + j = n → (F ++ L).Perm ((List.range n).map fun i : Nat => (i : Int)) → Mv h hh m ag (k + F.length) → hh pl = some (.lst (L.map .int)) → hh pf = some (.lst (F.map .int)) →
    whQ (bQ (opQ (eqDQ not) (varQ 2) (lstQ nilQ))) (dropS (mtQ appQ (varQ 3) (mtQ popQ (varQ 2) (fcQ (sp_law_draw c) 0 noX (consQ (varQ 0) (consQ (callQ lenQ (consQ (varQ 2) nilQ)) nilQ)))))) D (j + 1) [some (.ref m), some x, some (.ref pl), some (.ref pf)] hh
  | j, L, F, hh, hL, hF, hp, mv, el, ef => by
    unfold whQ
    simp
    intro p0 np0
    have n0 : pl ≠ p0 := fun z => by rw [← z, el] at np0; cases np0
    have n1 : pf ≠ p0 := fun z => by rw [← z, ef] at np0; cases np0
    obtain ⟨f1, f2⟩ := mv.ds.fresh np0
    have mv1 : Mv h (up hh p0 (.lst [])) m ag (k + F.length) := ⟨mv.ds.up f1 f2, fun b o x1 x2 e => by
      have := mv.kp b o x1 x2 e
      rw [up_ne]
      · exact this
      · intro z; rw [z, np0] at this; cases this⟩
    have el1 : up hh p0 (.lst []) pl = some (.lst (L.map .int)) := by rw [up_ne n0]; exact el
    have ef1 : up hh p0 (.lst []) pf = some (.lst (F.map .int)) := by rw [up_ne n1]; exact ef
    have e01 : up hh p0 (.lst []) p0 = some (.lst []) := up_same
    generalize up hh p0 (.lst []) = h1 at mv1 el1 ef1 e01
    refine eq_ref_nil el1 e01 ?_
    cases j with
    | zero =>
      have : L = [] := List.eq_nil_of_length_eq_zero hL
      subst this
      refine .inl ⟨rfl, ?_⟩
      have hFn : F.length = n := by omega
      rw [List.append_nil] at hp
      rw [hFn] at mv1
      exact fn F h1 hp mv1 ef1
    | succ j =>
      have hLe : L.isEmpty = false := by
        cases L with
        | nil => simp at hL
        | cons _ _ => rfl
      refine .inr ⟨by rw [hLe]; rfl, ?_⟩
      refine ⟨_, rfl, ⟨_, _, rfl, ef1⟩, _, rfl, ⟨_, _, rfl, el1⟩, _, rfl, ?_⟩
      simp
      refine ⟨_, lst_seq el1, m, ag, k + F.length, _, rfl, mv1.ds, by omega, by simp; omega, by simp; omega, fun i h2 hi mv2 => ?_⟩
      have hi' : i < L.length := by simp at hi; omega
      have el2 : h2 pl = some (.lst (L.map .int)) := mv2.ref d1 d2 el1
      have ef2 : h2 pf = some (.lst (F.map .int)) := mv2.ref d3 d4 ef1
      refine ⟨pl, L.map .int, i, .int L[i], rfl, rfl, el2, by omega, by rw [List.getElem?_map, List.getElem?_eq_getElem hi']; rfl, ?_⟩
      refine ⟨pf, F.map .int, rfl, by rw [up_ne (Ne.symm ne)]; exact ef2, ?_, ?_⟩
      · have : (2 : Nat) ^ 20 < sizeLine := by decide
        simp
        omega
      · refine wk_same (order_loop npl npf ne d1 d2 d3 d4 hk hn fn j (L.eraseIdx i) (F ++ [L[i]]) _ ?_ ?_ ?_ ?_ ?_ ?_)
        · rw [List.length_eraseIdx, if_pos hi']; omega
        · simp; omega
        · refine List.Perm.trans ?_ hp
          rw [List.append_assoc]
          exact List.Perm.append_left F (perm_erase (List.getElem?_eq_getElem hi')).symm
        · rw [List.length_append, List.length_singleton]
          have := mv1.trans mv2
          exact ((this.up npl d1 d2).up npf d3 d4)
        · rw [up_ne ne, up_same]
          congr 2
          rw [map_erase]
        · rw [up_same, List.map_append]
          rfl
theorem spec_law_order (hsp : sp_law_order c xs h Q E) : rd_law_order c E (fin Q) (startQ ["m", "many", "left", "found"] xs) h := by
  obtain ⟨m, ag, k, n, rfl, ds, hk, hn, q⟩ := hsp
  unfold rd_law_order
  simp
  refine ⟨_, rfl, n, rfl, hn, fun pl npl pf npf => ?_⟩
  have ne : pl ≠ pf := fun z => by rw [← z, up_same] at npf; cases npf
  have npf0 : h pf = none := by rw [up_ne (Ne.symm ne)] at npf; exact npf
  obtain ⟨d1, d2⟩ := ds.fresh npl
  obtain ⟨d3, d4⟩ := ds.fresh npf0
  have e0 : rgItems 0 n = ((List.range n).map fun i : Nat => (i : Int)).map .int := by
    unfold rgItems
    rw [List.map_map]
    refine List.map_congr_left fun i _ => ?_
    simp
  refine ⟨n + 1, order_loop (c := c) npl npf0 ne d1 d2 d3 d4 hk hn (fun F hh hp mv ef => ?_) n ((List.range n).map fun i : Nat => (i : Int)) [] _ (by simp) (by simp) (.refl _) (((Mv.refl ds).up npl d1 d2).up npf0 d3 d4) ?_ up_same⟩
  · simp
    obtain ⟨l, pl', e⟩ := perm_map hp rfl
    subst e
    refine rtQ.freeze ef delQ_sub delQ_self ?_
    rw [List.map_map]
    exact q l _ pl' (mv.del npf0 d3 d4)
  · rw [up_ne ne, up_same, e0]
theorem str_ratio {a b : Int} (ha : 0 < a) (hb : 0 < b) (ha6 : a ≤ 10 ^ 6) (hb6 : b ≤ 10 ^ 6) : StrOk (Rat.divInt a b) ∧ (Rat.divInt a b).num.natAbs ≤ a.natAbs ∧ (Rat.divInt a b).den ≤ b.natAbs := by
  obtain ⟨e1, e2⟩ := ratio_pos (p := a) hb
  have g0 : 0 < Int.gcd a b := Int.gcd_pos_of_ne_zero_right a (by omega)
  have da : ((Int.gcd a b : Nat) : Int) ∣ a := Int.gcd_dvd_left ..
  obtain ⟨u, hu⟩ := da
  have gp : (0 : Int) < ((Int.gcd a b : Nat) : Int) := by omega
  have n1 : (Rat.divInt a b).num = u := by
    rw [e1]
    exact Int.ediv_eq_of_eq_mul_right (by omega) hu
  have up0 : 0 < u := by
    rcases Int.lt_or_le 0 u with h | h
    · exact h
    · have : ((Int.gcd a b : Nat) : Int) * u ≤ 0 := Int.mul_nonpos_of_nonneg_of_nonpos (by omega) h
      omega
  have ule : u ≤ a := by
    have : 1 * u ≤ ((Int.gcd a b : Nat) : Int) * u := Int.mul_le_mul_of_nonneg_right (by omega) (by omega)
    omega
  have dle : ((Rat.divInt a b).den : Int) ≤ b := by
    rw [e2]
    exact Int.ediv_le_self _ (by omega)
  exact ⟨⟨num_pos.mp (by omega), by omega, by omega⟩, by omega, by omega⟩
theorem lt9000 {b : Int} (h : b ≤ 10 ^ 6) (h0 : 0 < b) : b.natAbs < 2 ^ 9000 := by
  have h1 : b.natAbs < 2 ^ 20 := by omega
  exact Nat.lt_trans h1 (Nat.pow_lt_pow_right (by decide) (by decide))
theorem spec_law_strength (hsp : sp_law_strength c xs h Q E) : rd_law_strength c E (fin Q) (startQ ["m", "pick"] xs) h := by
  obtain ⟨m, ag, k, rfl, ds, hk, q⟩ := hsp
  unfold rd_law_strength
  simp
  refine ⟨m, ag, k, 8, rfl, ds, by omega, by decide, by decide, fun i h1 hi mv1 => ?_⟩
  simp
  by_cases h3 : (i : Int) < 3
  · have : ¬ ((3 : Int) ≤ (i : Int)) := by omega
    simp [h3, this]
    refine ⟨by decide, rtQ.same ?_⟩
    exact q 1 h1 ⟨by decide, by decide, by decide⟩ (mv1.mono (by omega))
  · have h3' : ((3 : Int) ≤ (i : Int)) := by omega
    simp [h3, h3']
    have two : ∀ (A B : Int), 0 < A → A ≤ 10 ^ 6 → 0 < B → B ≤ 10 ^ 6 → ∀ (W : Hq), Mv h W m ag (k + 1) → sp_law_draw c [.ref m, .int A] W (fun x h1 => I20 (fun i j => PV.int (i + j)) (.int 1) x h1 fun x h1 => sp_law_draw c [.ref m, .int B] h1 (fun x_1 h1 => I20 (fun i j => PV.int (i + j)) (.int 1) x_1 h1 fun x_1 h1 => sp_law_ratio c [x, x_1] h1 (rtQ Q) noX) noX) noX := by
      intro A B a0 a1 b0 b1 W mvW
      refine ⟨m, ag, k + 1, A, rfl, mvW.ds, by omega, a0, by omega, fun i2 h2 hi2 mv2 => ?_⟩
      simp only [s_I20]
      refine ⟨m, ag, k + 1 + 1, B, rfl, mv2.ds, by omega, b0, by omega, fun i3 h3 hi3 mv3 => ?_⟩
      simp only [s_I20]
      obtain ⟨so, _, _⟩ := str_ratio (a := 1 + (i2 : Int)) (b := 1 + (i3 : Int)) (by omega) (by omega) (by omega) (by omega)
      refine ⟨_, _, rfl, by omega, lt9000 (by omega) (by omega), rtQ.same (q _ _ so (((mvW.trans mv2).trans mv3).mono (by omega)))⟩
    by_cases h7 : (i : Int) < 7
    · have : ¬ ((7 : Int) ≤ (i : Int)) := by omega
      simp [h7, this]
      exact two 6 5 (by decide) (by decide) (by decide) (by decide) _ mv1
    · have h7' : ((7 : Int) ≤ (i : Int)) := by omega
      simp [h7, h7']
      refine ⟨⟨by decide, by decide, by decide⟩, m, ag, k + 1, _, rfl, mv1.ds, by omega, by decide, by decide, fun i2 h2 hi2 mv2 => ?_⟩
      simp only [s_I20]
      refine ⟨⟨by decide, by decide, by decide⟩, m, ag, k + 1 + 1, _, rfl, mv2.ds, by omega, by decide, by decide, fun i3 h3 hi3 mv3 => ?_⟩
      simp only [s_I20]
      obtain ⟨so, _, _⟩ := str_ratio (a := 1 + (i2 : Int)) (b := 1 + (i3 : Int)) (by omega) (by omega) (by omega) (by omega)
      exact ⟨_, _, rfl, by omega, lt9000 (by omega) (by omega), rtQ.same (q _ _ so (((mv1.trans mv2).trans mv3).mono (by omega)))⟩
end L3

/-! L5e: drawn nets. -/
namespace L3
open PySem PySem.Spec PyProof.Rows L2 L4
variable {c : Str → Addr} {xs : List PV} {h : Hq} {Q : VQ} {E : XQ}
/-- wires between n nodes, of the law's strengths -/
def WsOk (n : Nat) (ws : List W3) : Prop := ∀ w ∈ ws, w.1 < w.2.1 ∧ w.2.1 < n ∧ StrOk w.2.2
theorem WsOk.snoc {n : Nat} {ws : List W3} (o : WsOk n ws) {w : W3} (h : w.1 < w.2.1 ∧ w.2.1 < n ∧ StrOk w.2.2) : WsOk n (ws ++ [w]) := fun u hu => by
  rcases List.mem_append.mp hu with hu | hu
  · exact o u hu
  · rw [List.mem_singleton.mp hu]; exact h
theorem good_of {n p : Nat} {ws zs : List W3} (o : WsOk n ws) (pm : zs.Perm ws) (srt : zs.Pairwise fun x y => ltW (wW y) (wW x) = false) (h48 : n ≤ 48) (hp : p ≤ n) (hp8 : p ≤ 8) (hl : ws.length ≤ 40) : GoodNet n p zs ∧ SzNet zs ∧ zs.length = ws.length :=
  ⟨⟨h48, hp, hp8, by rw [pm.length_eq]; exact hl, fun w hw => let ⟨a, b, c⟩ := o w (pm.mem_iff.mp hw); ⟨a, b, c.1⟩, srt⟩, fun w hw => (o w (pm.mem_iff.mp hw)).2.2.2, pm.length_eq⟩
/-- sorted(..) of a list of wires -/
theorem srt_ws {hh : Hq} {P : Addr} {ws : List W3} {K : VQ} (e : hh P = some (.lst (ws.map wP))) (k : ∀ zs : List W3, zs.Perm ws → (zs.Pairwise fun x y => ltW (wW y) (wW x) = false) → ∀ p, hh p = none → K (.ref p) (up hh p (.lst (zs.map wP)))) : srtQ [.ref P] hh K := by
  refine ⟨P, ws.map wW, rfl, by rw [e, List.map_map]; rfl, fun zs pm srt p np => ?_⟩
  obtain ⟨zs', pm', e'⟩ := perm_map pm rfl
  subst e'
  rw [List.map_map]
  exact k zs' pm' (List.pairwise_map.mp srt) p np
theorem min_nat (a b : Nat) : min (a : Int) (b : Int) = ((min a b : Nat) : Int) := by omega
theorem max_nat (a b : Nat) : max (a : Int) (b : Int) = ((max a b : Nat) : Int) := by omega
/-- two unlike nodes, drawn -/
def otherN (i j : Nat) : Nat := if i ≤ j then j + 1 else j
theorem otherN_lt {i j n : Nat} (hj : j < n - 1) : otherN i j < n := by unfold otherN; split <;> omega
theorem otherN_ne {i j : Nat} : otherN i j ≠ i := by unfold otherN; split <;> omega
theorem wire_ok {a b n : Nat} {s : Rat} (ha : a < n) (hb : b < n) (ne : b ≠ a) (so : StrOk s) : (min a b, max a b, s).1 < (min a b, max a b, s).2.1 ∧ (min a b, max a b, s).2.1 < n ∧ StrOk s := by
  refine ⟨?_, ?_, so⟩
  · show min a b < max a b; omega
  · show max a b < n; omega
theorem app_ok {hh : Hq} {P : Addr} {l : List PV} {y : PV} {K : VQ} (e : hh P = some (.lst l)) (hl : l.length ≤ 1000) (k : K .non (up hh P (.lst (l ++ [y])))) : appQ (.ref P) y hh K := ⟨P, l, rfl, e, small1000 hl, k⟩
theorem rg_len {k : Nat} {lo : Int} : (rgItems lo k).length = k := by simp [rgItems]
theorem net_body {m ag P : Addr} {n k0 : Nat} {pv wv : PV} {hh h0 : Hq} {ws : List W3} {a5 a6 a7 : Option PV} {D : EndQ} (hn : 1 < n) (h48 : n ≤ 48) (np : h0 P = none) (n1 : P ≠ m) (n2 : P ≠ ag) (mv : Mv h0 hh m ag k0) (hk : k0 + 5 < 2 ^ 60) (eP : hh P = some (.lst (ws.map wP))) (ok : WsOk n ws) (hl : ws.length ≤ 1000)
    (kk : ∀ w hh' a5 a6 a7, Mv h0 hh' m ag (k0 + 5) → hh' P = some (.lst ((ws ++ [w]).map wP)) → WsOk n (ws ++ [w]) → D.nx [some (.ref m), some (.int n), some pv, some wv, some (.ref P), a5, a6, a7] hh') :
    (seqS (parS 6 7 (fcQ (sp_law_draw c) 0 noX (consQ (varQ 0) (consQ (varQ 1) nilQ))) (fcQ (sp_law_draw c) 0 noX (consQ (varQ 0) (consQ (opQ (I20 fun i j => .int (i - j)) (varQ 1) (cQ (.int 1))) nilQ)))) (seqS (asgS (ifQ (bQ (opQ (I20 fun i j => .bl (decide (j ≤ i))) (varQ 7) (varQ 6))) (opQ (I20 fun i j => .int (i + j)) (varQ 7) (cQ (.int 1))) (varQ 7)) (nameG 7)) (dropS (mtQ appQ (varQ 4) (tupQ (consQ (callQ minQ (consQ (varQ 6) (consQ (varQ 7) nilQ))) (consQ (callQ maxQ (consQ (varQ 6) (consQ (varQ 7) nilQ))) (consQ (fcQ (sp_law_strength c) 0 noX (consQ (varQ 0) nilQ)) nilQ)))))))) D [some (.ref m), some (.int n), some pv, some wv, some (.ref P), a5, a6, a7] hh := by
  simp
  refine ⟨m, ag, k0, _, rfl, mv.ds, by omega, by omega, by omega, fun i h1 hi mv1 => ?_⟩
  refine ⟨m, ag, k0 + 1, _, rfl, mv1.ds, by omega, by omega, by omega, fun j h2 hj mv2 => ?_⟩
  have hi' : i < n := by omega
  have hj' : j < n - 1 := by omega
  have go : ∀ a7' : Nat, a7' = otherN i j → mtQ appQ (varQ 4) (tupQ (consQ (callQ minQ (consQ (varQ 6) (consQ (varQ 7) nilQ))) (consQ (callQ maxQ (consQ (varQ 6) (consQ (varQ 7) nilQ))) (consQ (fcQ (sp_law_strength c) 0 noX (consQ (varQ 0) nilQ)) nilQ))))
      [some (.ref m), some (.int n), some pv, some wv, some (.ref P), a5, some (.int (i : Nat)), some (.int (a7' : Nat))] h2 fun _ h1 => D.nx [some (.ref m), some (.int n), some pv, some wv, some (.ref P), a5, some (.int (i : Nat)), some (.int (a7' : Nat))] h1 := by
    rintro b rfl
    have eP2 : h2 P = some (.lst (ws.map wP)) := (mv1.trans mv2).ref n1 n2 eP
    refine ⟨_, rfl, ⟨_, _, rfl, eP2⟩, ?_⟩
    simp
    refine ⟨m, ag, k0 + 1 + 1, rfl, mv2.ds, by omega, fun s h3 so mv3 => ?_⟩
    have eP3 : h3 P = some (.lst (ws.map wP)) := mv3.ref n1 n2 eP2
    refine ⟨by decide, app_ok eP3 (by simpa using hl) ?_⟩
    have w : ws.map wP ++ [PV.tup [.int (min (i : Int) (otherN i j : Nat)), .int (max (i : Int) (otherN i j : Nat)), frac s]] = (ws ++ [(min i (otherN i j), max i (otherN i j), s)]).map wP := by
      rw [List.map_append, min_nat, max_nat]
      rfl
    rw [w]
    refine kk _ _ _ _ _ ((((mv.trans mv1).trans mv2).trans mv3).mono (by omega) |>.up np n1 n2) up_same (ok.snoc (wire_ok hi' (otherN_lt hj') otherN_ne so))
  simp only [s_I20]
  by_cases hij : i ≤ j
  · have e1 : ((j : Nat) : Int) + 1 = ((j + 1 : Nat) : Int) := by omega
    have := go (j + 1) (by unfold otherN; rw [if_pos hij])
    refine .inr ⟨by rw [decide_eq_true (show ((i : Nat) : Int) ≤ (j : Nat) by omega)], ?_⟩
    rw [e1]
    exact this
  · have := go j (by unfold otherN; rw [if_neg hij])
    exact .inl ⟨by rw [decide_eq_false (show ¬ ((i : Nat) : Int) ≤ (j : Nat) by omega)], this⟩
theorem spec_law_net (hsp : sp_law_net c xs h Q E) : rd_law_net c E (fin Q) (startQ ["m", "nodes", "ports", "wires", "found", "turn", "one", "two"] xs) h := by
  obtain ⟨m, ag, k, n, p, w, rfl, ds, hk, n0, h48, hp, hp8, hw, q⟩ := hsp
  unfold rd_law_net
  simp
  intro P nP
  obtain ⟨n1, n2⟩ := ds.fresh nP
  have fini : ∀ (ws : List W3) (hh : Hq) (a5 a6 a7 : Option PV), Mv h hh m ag (k + 300) → hh P = some (.lst (ws.map wP)) → WsOk n ws → ws.length ≤ w → retS (tupQ (consQ (varQ 1) (consQ (varQ 2) (consQ (callQ tupleQ (consQ (callQ srtQ (consQ (varQ 4) nilQ)) nilQ)) nilQ)))) (fin Q) [some (.ref m), some (.int n), some (.int p), some (.int w), some (.ref P), a5, a6, a7] hh := by
    intro ws hh a5 a6 a7 mv eP ok hl
    simp
    refine srt_ws eP fun zs pm srt p2 np2 => ?_
    refine ⟨_, lst_seq up_same, by decide, rtQ.same ?_⟩
    obtain ⟨g1, g2, g3⟩ := good_of ok pm srt h48 hp hp8 (by omega)
    obtain ⟨f1, f2⟩ := mv.ds.fresh np2
    refine q zs _ g1 g2 (by omega) ⟨(mv.ds.up f1 f2).mono (by omega), fun b o x1 x2 e => ?_⟩
    have := mv.kp b o x1 x2 e
    rw [up_ne]
    · exact this
    · intro z; rw [z, np2] at this; cases this
  have mv0 : Mv h (up h P (.lst [])) m ag k := (Mv.refl ds).up nP n1 n2
  by_cases hn : 1 < n
  · have loop : sp_law_draw c [.ref m, .int ((w : Int) + 1)] (up h P (.lst [])) (fun x h1 => ∃ j, x = .int j ∧ (-4611686018427387904 ≤ j ∧ j < 4611686018427387904) ∧ forQ (fun _ => True) (nameG 5) ((seqS (parS 6 7 (fcQ (sp_law_draw c) 0 noX (consQ (varQ 0) (consQ (varQ 1) nilQ))) (fcQ (sp_law_draw c) 0 noX (consQ (varQ 0) (consQ (opQ (I20 fun i j => .int (i - j)) (varQ 1) (cQ (.int 1))) nilQ)))) (seqS (asgS (ifQ (bQ (opQ (I20 fun i j => .bl (decide (j ≤ i))) (varQ 7) (varQ 6))) (opQ (I20 fun i j => .int (i + j)) (varQ 7) (cQ (.int 1))) (varQ 7)) (nameG 7)) (dropS (mtQ appQ (varQ 4) (tupQ (consQ (callQ minQ (consQ (varQ 6) (consQ (varQ 7) nilQ))) (consQ (callQ maxQ (consQ (varQ 6) (consQ (varQ 7) nilQ))) (consQ (fcQ (sp_law_strength c) 0 noX (consQ (varQ 0) nilQ)) nilQ)))))))))
        { nx := retS (tupQ (consQ (varQ 1) (consQ (varQ 2) (consQ (callQ tupleQ (consQ (callQ srtQ (consQ (varQ 4) nilQ)) nilQ)) nilQ)))) (fin Q), rt := rtQ Q } (rgItems 0 j.toNat) [some (.ref m), some (.int n), some (.int p), some (.int w), some (.ref P), none, none, none] h1) noX := by
      refine ⟨m, ag, k, _, rfl, mv0.ds, by omega, by omega, by omega, fun j h1 hj mv1 => ⟨_, rfl, by omega, ?_⟩⟩
      refine for_k (fun i s hh => ∃ ws a5 a6 a7, s = [some (.ref m), some (.int n), some (.int p), some (.int w), some (.ref P), a5, a6, a7] ∧ Mv h hh m ag (k + 1 + 5 * i) ∧ hh P = some (.lst (ws.map wP)) ∧ WsOk n ws ∧ ws.length = i ∧ i ≤ j) ⟨[], _, _, _, rfl, mv0.trans mv1, mv1.ref n1 n2 up_same, (fun _ hw => by cases hw), rfl, by omega⟩ (fun _ _ _ _ => trivial) ?_ ?_
      · rintro i x hx s hh K ⟨ws, a5, a6, a7, rfl, mv, eP, ok, hl, hij⟩ kk
        have hi : i < j := by
          have := (List.getElem?_eq_some_iff.mp hx).1
          rw [rg_len] at this
          simpa using this
        simp only [s_name, List.set_cons_succ, List.set_cons_zero]
        refine net_body (c := c) hn h48 nP n1 n2 mv (by omega) eP ok (by omega) fun w' hh' b5 b6 b7 mv' eP' ok' => ?_
        exact kk _ _ ⟨_, _, _, _, rfl, by rw [show k + 1 + 5 * (i + 1) = k + 1 + 5 * i + 5 by omega]; exact mv', eP', ok', by simp [hl], by omega⟩
      · rintro s hh ⟨ws, a5, a6, a7, rfl, mv, eP, ok, hl, hij⟩
        have hle : ws.length ≤ w := by omega
        exact fini ws hh a5 a6 a7 (mv.mono (by rw [rg_len] at hl hij ⊢; omega)) eP ok hle
    have hn' : ((1 : Int) < (n : Int)) := by omega
    first
      | (simp [hn]; exact loop)
      | exact .inr ⟨by omega, loop⟩
      | exact .inl ⟨by omega, loop⟩
  · have last := fini [] _ none none none (mv0.mono (by omega)) up_same (fun _ hw => by cases hw) (by simp)
    simp at last
    first
      | (simp [hn]; exact last)
      | exact .inl ⟨by omega, last⟩
      | exact .inr ⟨by omega, last⟩
end L3

/-! L5f: drawn held nets. -/
namespace L3
open PySem PySem.Spec PyProof.Rows L2 L4
variable {c : Str → Addr} {xs : List PV} {h : Hq} {Q : VQ} {E : XQ}
theorem net_body2 {m ag P : Addr} {n k0 : Nat} {pv wv : PV} {hh h0 : Hq} {ws : List W3} {a5 a6 a7 a8 a9 a10 a11 : Option PV} {D : EndQ} (hn : 1 < n) (h48 : n ≤ 48) (np : h0 P = none) (n1 : P ≠ m) (n2 : P ≠ ag) (mv : Mv h0 hh m ag k0) (hk : k0 + 5 < 2 ^ 60) (eP : hh P = some (.lst (ws.map wP))) (ok : WsOk n ws) (hl : ws.length ≤ 1000)
    (kk : ∀ w hh' a7 a8, Mv h0 hh' m ag (k0 + 5) → hh' P = some (.lst ((ws ++ [w]).map wP)) → WsOk n (ws ++ [w]) → D.nx [some (.ref m), some (.int n), some pv, some wv, some (.ref P), a5, a6, a7, a8, a9, a10, a11] hh') :
    (seqS (parS 7 8 (fcQ (sp_law_draw c) 0 noX (consQ (varQ 0) (consQ (varQ 1) nilQ))) (fcQ (sp_law_draw c) 0 noX (consQ (varQ 0) (consQ (opQ (I20 fun i j => .int (i - j)) (varQ 1) (cQ (.int 1))) nilQ)))) (seqS (asgS (ifQ (bQ (opQ (I20 fun i j => .bl (decide (j ≤ i))) (varQ 8) (varQ 7))) (opQ (I20 fun i j => .int (i + j)) (varQ 8) (cQ (.int 1))) (varQ 8)) (nameG 8)) (dropS (mtQ appQ (varQ 4) (tupQ (consQ (callQ minQ (consQ (varQ 7) (consQ (varQ 8) nilQ))) (consQ (callQ maxQ (consQ (varQ 7) (consQ (varQ 8) nilQ))) (consQ (fcQ (sp_law_strength c) 0 noX (consQ (varQ 0) nilQ)) nilQ)))))))) D [some (.ref m), some (.int n), some pv, some wv, some (.ref P), a5, a6, a7, a8, a9, a10, a11] hh := by
  simp
  refine ⟨m, ag, k0, _, rfl, mv.ds, by omega, by omega, by omega, fun i h1 hi mv1 => ?_⟩
  refine ⟨m, ag, k0 + 1, _, rfl, mv1.ds, by omega, by omega, by omega, fun j h2 hj mv2 => ?_⟩
  have hi' : i < n := by omega
  have hj' : j < n - 1 := by omega
  have go : ∀ a7' : Nat, a7' = otherN i j → mtQ appQ (varQ 4) (tupQ (consQ (callQ minQ (consQ (varQ 7) (consQ (varQ 8) nilQ))) (consQ (callQ maxQ (consQ (varQ 7) (consQ (varQ 8) nilQ))) (consQ (fcQ (sp_law_strength c) 0 noX (consQ (varQ 0) nilQ)) nilQ))))
      [some (.ref m), some (.int n), some pv, some wv, some (.ref P), a5, a6, some (.int (i : Nat)), some (.int (a7' : Nat)), a9, a10, a11] h2 fun _ h1 => D.nx [some (.ref m), some (.int n), some pv, some wv, some (.ref P), a5, a6, some (.int (i : Nat)), some (.int (a7' : Nat)), a9, a10, a11] h1 := by
    rintro b rfl
    have eP2 : h2 P = some (.lst (ws.map wP)) := (mv1.trans mv2).ref n1 n2 eP
    refine ⟨_, rfl, ⟨_, _, rfl, eP2⟩, ?_⟩
    simp
    refine ⟨m, ag, k0 + 1 + 1, rfl, mv2.ds, by omega, fun s h3 so mv3 => ?_⟩
    have eP3 : h3 P = some (.lst (ws.map wP)) := mv3.ref n1 n2 eP2
    refine ⟨by decide, app_ok eP3 (by simpa using hl) ?_⟩
    have w : ws.map wP ++ [PV.tup [.int (min (i : Int) (otherN i j : Nat)), .int (max (i : Int) (otherN i j : Nat)), frac s]] = (ws ++ [(min i (otherN i j), max i (otherN i j), s)]).map wP := by
      rw [List.map_append, min_nat, max_nat]
      rfl
    rw [w]
    refine kk _ _ _ _ ((((mv.trans mv1).trans mv2).trans mv3).mono (by omega) |>.up np n1 n2) up_same (ok.snoc (wire_ok hi' (otherN_lt hj') otherN_ne so))
  simp only [s_I20]
  by_cases hij : i ≤ j
  · have e1 : ((j : Nat) : Int) + 1 = ((j + 1 : Nat) : Int) := by omega
    have := go (j + 1) (by unfold otherN; rw [if_pos hij])
    refine .inr ⟨by rw [decide_eq_true (show ((i : Nat) : Int) ≤ (j : Nat) by omega)], ?_⟩
    rw [e1]
    exact this
  · have := go j (by unfold otherN; rw [if_neg hij])
    exact .inl ⟨by rw [decide_eq_false (show ¬ ((i : Nat) : Int) ≤ (j : Nat) by omega)], this⟩
/-- an order of the nodes: each once -/
structure OrdOk (n : Nat) (O : List Nat) : Prop where
  len : O.length = n
  lt : ∀ i < n, O.getD i 0 < n
  ne : ∀ i < n, ∀ j < n, i ≠ j → O.getD i 0 ≠ O.getD j 0
theorem ord_of_perm {n : Nat} {O : List Nat} (p : O.Perm (List.range n)) : OrdOk n O := by
  have hl : O.length = n := by rw [p.length_eq]; simp
  have nd : O.Nodup := p.nodup_iff.mpr List.nodup_range
  have g : ∀ i < n, O[i]? = some (O.getD i 0) := fun i hi => by
    rw [List.getD_eq_getElem?_getD, List.getElem?_eq_getElem (by omega)]
    rfl
  refine ⟨hl, fun i hi => ?_, fun i hi j hj ne e => ne (nodup_inj nd (g i hi) (by rw [e]; exact g j hj))⟩
  have := p.mem_iff.mp (List.mem_of_getElem? (g i hi))
  simpa using this
theorem range_app (p k : Nat) : List.range (p + k) = List.range p ++ (List.range k).map (p + ·) := List.range_add
def ordW (O : List Nat) (w : W3) : W3 := (min (O.getD w.1 0) (O.getD w.2.1 0), max (O.getD w.1 0) (O.getD w.2.1 0), w.2.2)
theorem ordW_ok {n : Nat} {O : List Nat} {ws : List W3} (o : OrdOk n O) (ok : WsOk n ws) : WsOk n (ws.map (ordW O)) := fun u hu => by
  obtain ⟨w, hw, rfl⟩ := List.mem_map.mp hu
  obtain ⟨a, b, s⟩ := ok w hw
  have := wire_ok (o.lt w.1 (by omega)) (o.lt w.2.1 b) (Ne.symm (o.ne w.1 (by omega) w.2.1 b (by omega))) s
  exact this
theorem ord_at {O : List Nat} {n i : Nat} (hl : O.length = n) (hi : i < n) : atQ (O.map fun i => PV.int (i : Nat)) ((i : Nat) : Int) = some (.int (O.getD i 0 : Nat)) := by
  rw [atQ_nat, List.getElem?_map, List.getElem?_eq_getElem (by omega), List.getD_eq_getElem?_getD, List.getElem?_eq_getElem (by omega)]
  rfl
end L3

/-! L5g: held nets. -/
namespace L3
open PySem PySem.Spec PyProof.Rows L2 L4
variable {c : Str → Addr} {xs : List PV} {h : Hq} {Q : VQ} {E : XQ}
theorem Mv.upf {h h' : Hq} {m ag p : Addr} {k : Nat} {o : HV} (v : Mv h h' m ag k) (np : h' p = none) : Mv h (L3.up h' p o) m ag k := by
  obtain ⟨f1, f2⟩ := v.ds.fresh np
  refine ⟨v.ds.up f1 f2, fun b u x1 x2 e => ?_⟩
  have := v.kp b u x1 x2 e
  rw [up_ne]
  · exact this
  · intro z; rw [z, np] at this; cases this
theorem sz3 (a b d : PV) : [a, b, d].length ≤ sizeLine := by
  show 3 ≤ sizeLine
  decide
theorem up_keep {hh : Hq} {p a : Addr} {o u : HV} (e : hh a = some u) (np : hh p = none) : up hh p o a = some u := by
  rw [up_ne]
  · exact e
  · intro z; rw [z, np] at e; cases e
/-- the end: all wires renumbered, sorted, laid -/
theorem spec_law_held (hsp : sp_law_held c xs h Q E) : rd_law_held c E (fin Q) (startQ ["m", "nodes", "ports", "wires", "found", "node", "turn", "one", "two", "order", "n", "strength"] xs) h := by
  obtain ⟨m, ag, k, n, p, w, rfl, ds, hk, p0, h48, hp, hp8, hnw, hw, q⟩ := hsp
  unfold rd_law_held
  simp
  intro P nP
  obtain ⟨n1, n2⟩ := ds.fresh nP
  have mv0 : Mv h (up h P (.lst [])) m ag k := (Mv.refl ds).up nP n1 n2
  -- the fourth part
  have fini : ∀ (ws : List W3) (hh : Hq) (a5 a6 a7 a8 a9 a10 a11 : Option PV), Mv h hh m ag (k + 700) → hh P = some (.lst (ws.map wP)) → WsOk n ws → ws.length ≤ w →
      (seqS (asgS (opQ catQ (lrgQ (varQ 2)) (lcE (seqI (fcQ (sp_law_order c) 0 noX (consQ (varQ 0) (consQ (opQ (I20 fun i j => .int (i - j)) (varQ 1) (varQ 2)) nilQ)))) (nameG 10) yesT (opQ (I20 fun i j => .int (i + j)) (varQ 2) (varQ 10)) [10])) (nameG 9)) (seqS (asgS (lcE (seqI (varQ 4)) (tupG 3 (consG (nameG 7) (consG (nameG 8) (consG (nameG 11) nilG)))) yesT (tupQ (consQ (callQ minQ (consQ (opQ ixQ (varQ 9) (varQ 7)) (consQ (opQ ixQ (varQ 9) (varQ 8)) nilQ))) (consQ (callQ maxQ (consQ (opQ ixQ (varQ 9) (varQ 7)) (consQ (opQ ixQ (varQ 9) (varQ 8)) nilQ))) (consQ (varQ 11) nilQ)))) [7, 8, 11]) (nameG 4)) (retS (tupQ (consQ (varQ 1) (consQ (varQ 2) (consQ (callQ tupleQ (consQ (callQ srtQ (consQ (varQ 4) nilQ)) nilQ)) nilQ)))))))
        (fin Q) [some (.ref m), some (.int n), some (.int p), some (.int w), some (.ref P), a5, a6, a7, a8, a9, a10, a11] hh := by
    intro ws hh a5 a6 a7 a8 a9 a10 a11 mv eP ok hl
    simp
    refine ⟨_, rfl, p, rfl, by omega, fun pa npa => ?_⟩
    have mva : Mv h (up hh pa (.lst (rgItems 0 p))) m ag (k + 700) := mv.upf npa
    have ePa : up hh pa (.lst (rgItems 0 p)) P = some (.lst (ws.map wP)) := up_keep eP npa
    have eA : up hh pa (.lst (rgItems 0 p)) pa = some (.lst (rgItems 0 p)) := up_same
    obtain ⟨fa1, fa2⟩ := mv.ds.fresh npa
    generalize up hh pa (.lst (rgItems 0 p)) = h1 at mva ePa eA
    show seqI _ _ _ _
    simp
    refine ⟨m, ag, k + 700, n - p, by rw [show ((n : Int) - (p : Int)) = ((n - p : Nat) : Int) by omega], mva.ds, by omega, by omega, fun l h2 pm mv2 => ?_⟩
    have ePb := mv2.ref n1 n2 ePa
    have eAb := mv2.ref fa1 fa2 eA
    refine ⟨_, rfl, small_size (by simp; have := pm.length_eq; simp at this; omega), ?_⟩
    refine lc_map (b := fun i : Nat => .int ((p + i : Nat) : Int)) ?_ ?_ ?_
    · rfl
    · intro i hi K hK
      simp
      have := hK h2 (Sub.refl _)
      simpa using this
    · intro pb npb
      have eB : up h2 pb (.lst (l.map fun i : Nat => PV.int ((p + i : Nat) : Int))) pb = some (.lst (l.map fun i : Nat => PV.int ((p + i : Nat) : Int))) := up_same
      have eAc := up_keep (o := HV.lst (l.map fun i : Nat => PV.int ((p + i : Nat) : Int))) eAb npb
      have ePc := up_keep (o := HV.lst (l.map fun i : Nat => PV.int ((p + i : Nat) : Int))) ePb npb
      have mvc := (mva.trans mv2).upf (o := HV.lst (l.map fun i : Nat => PV.int ((p + i : Nat) : Int))) npb
      generalize up h2 pb (.lst (l.map fun i : Nat => PV.int ((p + i : Nat) : Int))) = h3 at eB eAc ePc mvc
      refine ⟨pa, pb, _, _, rfl, rfl, eAc, eB, small_size (by have := pm.length_eq; simp [rgItems] at this ⊢; omega), fun po npo => ?_⟩
      have hO : ∃ O : List Nat, OrdOk n O ∧ rgItems 0 p ++ l.map (fun i : Nat => PV.int ((p + i : Nat) : Int)) = O.map fun i => PV.int (i : Nat) := by
        refine ⟨List.range p ++ l.map (p + ·), ord_of_perm ?_, ?_⟩
        · have e : n = p + (n - p) := by omega
          conv => rhs; rw [e, range_app]
          exact List.Perm.append_left _ (pm.map _)
        · unfold rgItems
          rw [List.map_append, List.map_map]
          congr 1
          refine List.map_congr_left fun i _ => ?_
          simp
      obtain ⟨O, oo, eO⟩ := hO
      rw [eO]
      have eOo : up h3 po (.lst (O.map fun i => PV.int (i : Nat))) po = some (.lst (O.map fun i => PV.int (i : Nat))) := up_same
      have ePd := up_keep (o := HV.lst (O.map fun i => PV.int (i : Nat))) ePc npo
      have mvd := mvc.upf (o := HV.lst (O.map fun i => PV.int (i : Nat))) npo
      generalize up h3 po (.lst (O.map fun i => PV.int (i : Nat))) = h4 at eOo ePd mvd
      refine ⟨_, rfl, _, lst_seq ePd, small_size (by simp; omega), ?_⟩
      refine lc_map (b := fun w => wP (ordW O w)) ?_ ?_ ?_
      · exact lst_seq ePd
      · intro u hu K hK
        obtain ⟨u1, u2, u3⟩ := ok u hu
        simp [wP_eq]
        have l1 : u.1 < n := by omega
        refine ⟨_, lst_seq eOo, _, ord_at oo.len l1, ?_⟩
        refine ⟨_, lst_seq eOo, _, ord_at oo.len u2, ?_⟩
        simp
        refine ⟨_, lst_seq eOo, _, ord_at oo.len l1, ?_⟩
        refine ⟨_, lst_seq eOo, _, ord_at oo.len u2, ?_⟩
        simp
        refine ⟨by decide, ?_⟩
        rw [min_nat, max_nat]
        exact hK h4 (Sub.refl _)
      · intro pz npz
        have eZ : up h4 pz (.lst (ws.map fun w => wP (ordW O w))) pz = some (.lst ((ws.map (ordW O)).map wP)) := by rw [up_same, List.map_map]; rfl
        have mve := mvd.upf (o := HV.lst (ws.map fun w => wP (ordW O w))) npz
        refine srt_ws eZ fun zs pm2 srt p2 np2 => ?_
        refine ⟨_, lst_seq up_same, by decide, rtQ.same ?_⟩
        obtain ⟨g1, g2, g3⟩ := good_of (ordW_ok oo ok) pm2 srt h48 hp hp8 (by simp; omega)
        exact q zs _ g1 g2 (by rw [g3]; simpa using hl) ((mve.upf np2).mono (by omega))
  show rg2I _ _ _ _ _
  refine ⟨_, rfl, _, rfl, _, _, rfl, rfl, ⟨by omega, by omega, by omega, by omega⟩, ?_⟩
  refine for_k (fun i s hh => ∃ ws a5, s = [some (.ref m), some (.int n), some (.int p), some (.int w), some (.ref P), a5, none, none, none, none, none, none] ∧ Mv h hh m ag (k + 4 * i) ∧ hh P = some (.lst (ws.map wP)) ∧ WsOk n ws ∧ ws.length = i ∧ i ≤ n - p) ⟨[], _, rfl, mv0, up_same, (fun _ hw => by cases hw), rfl, by omega⟩ (fun _ _ _ _ => trivial) ?_ ?_
  · rintro i x hx s hh K ⟨ws, a5, rfl, mv, eP, ok, hl, hij⟩ kk
    have hi : i < n - p := by
      have := (List.getElem?_eq_some_iff.mp hx).1
      rw [rg_len] at this
      omega
    have ex : x = .int ((p + i : Nat) : Int) := by
      unfold rgItems at hx
      rw [List.getElem?_map, List.getElem?_range (by omega)] at hx
      simp at hx
      rw [← hx]
      congr 1
    subst ex
    simp only [s_name, List.set_cons_succ, List.set_cons_zero]
    simp
    refine ⟨_, rfl, ⟨_, _, rfl, eP⟩, ?_⟩
    refine ⟨_, rfl, _, rfl, m, ag, k + 4 * i, _, rfl, mv.ds, by omega, by omega, by omega, fun j h1 hj mv1 => ?_⟩
    have eP1 := mv1.ref n1 n2 eP
    refine ⟨_, rfl, _, rfl, m, ag, _, rfl, mv1.ds, by omega, fun s h2 so mv2 => ?_⟩
    have eP2 := mv2.ref n1 n2 eP1
    refine ⟨sz3 _ _ _, app_ok eP2 (by simp; omega) ?_⟩
    have e : ws.map wP ++ [PV.tup [.int ((j : Nat) : Int), .int ((p : Int) + (i : Int)), frac s]] = (ws ++ [(j, p + i, s)]).map wP := by
      rw [List.map_append]
      congr 1
    refine kk _ _ ⟨ws ++ [(j, p + i, s)], _, rfl, (((mv.trans mv1).trans mv2).mono (by omega)).up nP n1 n2, by rw [up_same]; first | rw [← e] | (rw [List.map_append]; rfl), ok.snoc ⟨by show j < p + i; omega, by show p + i < n; omega, so⟩, by simp [hl], by omega⟩
  · rintro s hh ⟨ws, a5, rfl, mv, eP, ok, hl, hij⟩
    rw [rg_len] at hl hij mv
    have hl' : ws.length = n - p := by omega
    have hle : ws.length ≤ w := by omega
    have mv' : Mv h hh m ag (k + 200) := mv.mono (by omega)
    simp only [s_seq, s_ifS, s_b, s_op, s_var, s_c]
    by_cases hn : 1 < n
    · refine ⟨_, rfl, ?_⟩
      simp only [s_I20]
      refine ⟨true, by rw [decide_eq_true (show (1 : Int) < (n : Int) by omega)], ?_⟩
      rw [if_pos rfl]
      show rg1I _ _ _ _
      simp
      refine ⟨_, lst_seq eP, ?_⟩
      simp
      have mx : max (1 : Int) ((w : Int) - (ws.length : Int) + 1) = ((w - (n - p) + 1 : Nat) : Int) := by omega
      rw [mx]
      refine ⟨m, ag, k + 200, _, rfl, mv'.ds, by omega, by omega, by omega, fun j h1 hj mv1 => ⟨_, rfl, by omega, ?_⟩⟩
      refine for_k (fun i s hh => ∃ ws a5 a6 a7 a8, s = [some (.ref m), some (.int n), some (.int p), some (.int w), some (.ref P), a5, a6, a7, a8, none, none, none] ∧ Mv h hh m ag (k + 201 + 5 * i) ∧ hh P = some (.lst (ws.map wP)) ∧ WsOk n ws ∧ ws.length = n - p + i ∧ i ≤ j) ⟨ws, _, _, _, _, rfl, mv'.trans mv1, mv1.ref n1 n2 eP, ok, by omega, by omega⟩ (fun _ _ _ _ => trivial) ?_ ?_
      · rintro i x hx s hh K ⟨ws, a5, a6, a7, a8, rfl, mv, eP, ok, hl, hij⟩ kk
        have hi : i < j := by
          have := (List.getElem?_eq_some_iff.mp hx).1
          rw [rg_len] at this
          simpa using this
        simp only [s_name, List.set_cons_succ, List.set_cons_zero]
        refine net_body2 (c := c) hn h48 nP n1 n2 mv (by omega) eP ok (by omega) fun w' hh' b7 b8 mv' eP' ok' => ?_
        exact kk _ _ ⟨_, _, _, _, _, rfl, by rw [show k + 201 + 5 * (i + 1) = k + 201 + 5 * i + 5 by omega]; exact mv', eP', ok', by simp [hl]; omega, by omega⟩
      · rintro s hh ⟨ws, a5, a6, a7, a8, rfl, mv, eP, ok, hl, hij⟩
        rw [rg_len] at hl hij mv
        have := fini ws hh a5 a6 a7 a8 none none none (mv.mono (by omega)) eP ok (by omega)
        simpa using this
    · refine ⟨_, rfl, ?_⟩
      simp only [s_I20]
      refine ⟨false, by rw [decide_eq_false (show ¬ (1 : Int) < (n : Int) by omega)], ?_⟩
      rw [if_neg (by decide)]
      have := fini ws hh a5 none none none none none none (mv'.mono (by omega)) eP ok hle
      simpa using this
end L3

/-! L5h: any net, great nets. -/
namespace L3
open PySem PySem.Spec PyProof.Rows L2 L4
variable {c : Str → Addr} {xs : List PV} {h : Hq} {Q : VQ} {E : XQ}
theorem spec_law_any_net (hsp : sp_law_any_net c xs h Q E) : rd_law_any_net c E (fin Q) (startQ ["m", "nodes"] xs) h := by
  obtain ⟨m, ag, k, rfl, ds, hk, q⟩ := hsp
  unfold rd_law_any_net
  simp
  refine ⟨m, ag, k, _, rfl, ds, by omega, by omega, by omega, fun i h1 hi mv1 => ?_⟩
  simp only [s_I20]
  have en : (1 : Int) + (i : Int) = ((i + 1 : Nat) : Int) := by omega
  rw [en]
  refine ⟨m, ag, k + 1, _, rfl, mv1.ds, by omega, by omega, by omega, fun j h2 hj mv2 => ?_⟩
  simp only [s_eqI]
  by_cases hj0 : j = 0
  · subst hj0
    refine .inr ⟨rfl, ?_⟩
    refine ⟨m, ag, k + 2, _, rfl, mv2.ds, by omega, by omega, by omega, fun p h3 hp mv3 => ?_⟩
    refine ⟨m, ag, k + 3, i + 1, p, 9, rfl, mv3.ds, by omega, by omega, by omega, by omega, by omega, by omega, fun ws h4 g1 g2 g3 mv4 => rtQ.same ?_⟩
    exact q _ _ _ _ (by omega) (by omega) g1 g2 g3 ((((mv1.trans mv2).trans mv3).trans mv4).mono (by omega))
  · refine .inl ⟨?_, ?_⟩
    · have : (((j : Nat) : Int) == 0) = false := by
        have : ((j : Nat) : Int) ≠ 0 := by omega
        simp [hj0]
      simp [hj0]
    · refine ⟨m, ag, k + 2, _, rfl, mv2.ds, by omega, by omega, by omega, fun p h3 hp mv3 => ?_⟩
      try simp only [s_I20]
      have ep : (1 : Int) + (p : Int) = ((p + 1 : Nat) : Int) := by omega
      rw [ep]
      refine ⟨m, ag, k + 3, i + 1, p + 1, 9, rfl, mv3.ds, by omega, by omega, by omega, by omega, by omega, by omega, by omega, fun ws h4 g1 g2 g3 mv4 => rtQ.same ?_⟩
      exact q _ _ _ _ (by omega) (by omega) g1 g2 g3 ((((mv1.trans mv2).trans mv3).trans mv4).mono (by omega))
def WsS (n : Nat) (ws : List W3) : Prop := ∀ w ∈ ws, w.1 < w.2.1 ∧ w.2.1 < n ∧ 0 < w.2.2 ∧ w.2.2.num.natAbs ≤ 4 ∧ w.2.2.den ≤ 4
theorem WsS.ok {n : Nat} {ws : List W3} (s : WsS n ws) : WsOk n ws := fun w hw => let ⟨a, b, c, d, e⟩ := s w hw; ⟨a, b, c, by omega, by omega⟩
theorem WsS.snoc {n : Nat} {ws : List W3} (o : WsS n ws) {w : W3} (h : w.1 < w.2.1 ∧ w.2.1 < n ∧ 0 < w.2.2 ∧ w.2.2.num.natAbs ≤ 4 ∧ w.2.2.den ≤ 4) : WsS n (ws ++ [w]) := fun u hu => by
  rcases List.mem_append.mp hu with hu | hu
  · exact o u hu
  · rw [List.mem_singleton.mp hu]; exact h
theorem WsS.perm {n : Nat} {ws zs : List W3} (o : WsS n ws) (p : zs.Perm ws) : WsS n zs := fun w hw => o w (p.mem_iff.mp hw)
theorem WsS.ord {n : Nat} {O : List Nat} {ws : List W3} (o : OrdOk n O) (s : WsS n ws) : WsS n (ws.map (ordW O)) := fun u hu => by
  obtain ⟨w, hw, rfl⟩ := List.mem_map.mp hu
  obtain ⟨a, b, s0, s1, s2⟩ := s w hw
  have hne := o.ne w.1 (by omega) w.2.1 b (by omega)
  have h1 := o.lt w.1 (by omega)
  have h2 := o.lt w.2.1 b
  refine ⟨?_, ?_, s0, s1, s2⟩
  · show min _ _ < max _ _; omega
  · show max _ _ < n; omega
/-- a small strength, drawn -/
theorem small_ratio {m ag : Addr} {k A B : Nat} {hh : Hq} {K : VQ} (ds : DS hh m ag k) (hk : k + 2 < 2 ^ 60) (a0 : 0 < A) (a4 : A ≤ 4) (b0 : 0 < B) (b4 : B ≤ 4) (kk : ∀ s h', 0 < s → s.num.natAbs ≤ 4 → s.den ≤ 4 → Mv hh h' m ag (k + 2) → K (frac s) h') :
    sp_law_draw c [.ref m, .int (A : Nat)] hh (fun y h2 => I20 (fun i j => PV.int (i + j)) (.int 1) y h2 fun x h1 => sp_law_draw c [.ref m, .int (B : Nat)] h1 (fun y h2 => I20 (fun i j => PV.int (i + j)) (.int 1) y h2 fun x_1 h1 => sp_law_ratio c [x, x_1] h1 K noX) noX) noX := by
  refine ⟨m, ag, k, _, rfl, ds, by omega, by omega, by omega, fun i h1 hi mv1 => ?_⟩
  simp only [s_I20]
  refine ⟨m, ag, k + 1, _, rfl, mv1.ds, by omega, by omega, by omega, fun j h2 hj mv2 => ?_⟩
  simp only [s_I20]
  obtain ⟨so, sn, sd⟩ := str_ratio (a := 1 + (i : Int)) (b := 1 + (j : Int)) (by omega) (by omega) (by omega) (by omega)
  exact ⟨_, _, rfl, by omega, lt9000 (by omega) (by omega), kk _ _ so.1 (by omega) (by omega) (mv1.trans mv2)⟩
theorem spec_law_great_net (hsp : sp_law_great_net c xs h Q E) : rd_law_great_net c E (fin Q) (startQ ["m", "nodes", "wires", "node", "turn", "one", "strength", "net", "order", "two"] xs) h := by
  obtain ⟨m, ag, k, rfl, ds, hk, q⟩ := hsp
  unfold rd_law_great_net
  simp
  refine ⟨m, ag, k, _, rfl, ds, by omega, by omega, by omega, fun i0 h0 hi0 mv0 => ?_⟩
  simp only [s_I20]
  intro P nP
  obtain ⟨n, hn⟩ : ∃ n : Nat, n = 7 + i0 := ⟨_, rfl⟩
  have en : (7 : Int) + (i0 : Int) = (n : Nat) := by omega
  have n12 : n ≤ 12 := by omega
  have n7 : 7 ≤ n := by omega
  rw [en]
  have nPh : ∀ o, h P = some o → P = m ∨ P = ag := fun o e => by
    by_cases hm : P = m
    · exact .inl hm
    · by_cases ha : P = ag
      · exact .inr ha
      · have := mv0.kp P o hm ha e
        rw [nP] at this; cases this
  obtain ⟨n1, n2⟩ := mv0.ds.fresh nP
  have nP0 : h P = none := by
    cases e : h P with
    | none => rfl
    | some o => rcases nPh o e with z | z <;> contradiction
  -- the end
  have fini : ∀ (ws : List W3) (hh : Hq) (a3 a4 a5 a6 : Option PV), Mv h hh m ag (k + 500) → hh P = some (.lst (ws.map wP)) → WsS n ws → ws.length ≤ 17 →
      (seqS (asgS (tupQ (consQ (varQ 1) (consQ (cQ (.int 0)) (consQ (callQ tupleQ (consQ (callQ srtQ (consQ (varQ 2) nilQ)) nilQ)) nilQ)))) (nameG 7)) (seqS (asgS (fcQ (sp_law_order c) 0 noX (consQ (varQ 0) (consQ (varQ 1) nilQ))) (nameG 8)) (seqS (asgS (lcE (seqI (opQ ixQ (varQ 7) (cQ (.int 2)))) (tupG 3 (consG (nameG 5) (consG (nameG 9) (consG (nameG 6) nilG)))) yesT (tupQ (consQ (callQ minQ (consQ (opQ ixQ (varQ 8) (varQ 5)) (consQ (opQ ixQ (varQ 8) (varQ 9)) nilQ))) (consQ (callQ maxQ (consQ (opQ ixQ (varQ 8) (varQ 5)) (consQ (opQ ixQ (varQ 8) (varQ 9)) nilQ))) (consQ (varQ 6) nilQ)))) [5, 9, 6]) (nameG 2)) (retS (tupQ (consQ (varQ 1) (consQ (ifQ (bQ (opQ (I20 fun i j => .bl (decide (j < i))) (varQ 1) (cQ (.int 7)))) (fcQ (sp_law_draw c) 0 noX (consQ (varQ 0) (consQ (cQ (.int 9)) nilQ))) (fcQ (sp_law_draw c) 0 noX (consQ (varQ 0) (consQ (cQ (.int 8)) nilQ)))) (consQ (callQ tupleQ (consQ (callQ srtQ (consQ (varQ 2) nilQ)) nilQ)) nilQ))))))))
        (fin Q) [some (.ref m), some (.int n), some (.ref P), a3, a4, a5, a6, none, none, none] hh := by
    intro ws hh a3 a4 a5 a6 mv eP ok hl
    simp
    refine srt_ws eP fun zs pm srt p2 np2 => ?_
    refine ⟨_, lst_seq up_same, by decide, ?_⟩
    have mv2 : Mv h (up hh p2 (.lst (zs.map wP))) m ag (k + 500) := mv.upf np2
    generalize up hh p2 (.lst (zs.map wP)) = h2 at mv2
    refine ⟨m, ag, k + 500, n, rfl, mv2.ds, by omega, by omega, fun l h3 pml mv3 => ?_⟩
    have oo : OrdOk n l := ord_of_perm pml
    show seqI _ _ _ _
    simp
    refine ⟨small_size (by have := pm.length_eq; omega), ?_⟩
    refine lc_map (b := fun w => wP (ordW l w)) ?_ ?_ ?_
    · rfl
    · intro u hu K hK
      obtain ⟨u1, u2, u3⟩ := (ok.perm pm) u hu
      simp [wP_eq]
      have l1 : u.1 < n := by omega
      refine ⟨_, ord_at oo.len l1, ?_⟩
      refine ⟨_, ord_at oo.len u2, ?_⟩
      simp
      refine ⟨_, ord_at oo.len l1, ?_⟩
      refine ⟨_, ord_at oo.len u2, ?_⟩
      simp
      refine ⟨by decide, ?_⟩
      rw [min_nat, max_nat]
      exact hK h3 (Sub.refl _)
    · intro pz npz
      have okO : WsS n (zs.map (ordW l)) := (ok.perm pm).ord oo
      have eZ : up h3 pz (.lst (zs.map fun w => wP (ordW l w))) pz = some (.lst ((zs.map (ordW l)).map wP)) := by rw [up_same, List.map_map]; rfl
      have mv4 : Mv h (up h3 pz (.lst (zs.map fun w => wP (ordW l w)))) m ag (k + 500 + n) := (mv2.trans mv3).upf npz
      have npz2 := mv4.ds
      have dz : pz ≠ m ∧ pz ≠ ag := mv3.ds.fresh npz
      generalize up h3 pz (.lst (zs.map fun w => wP (ordW l w))) = h4 at eZ mv4
      have last : ∀ (A : Nat), 8 ≤ A → (A ≤ n + 1 ∧ A ≤ 9) → sp_law_draw c [.ref m, .int (A : Nat)] h4 (fun x h1 => srtQ [.ref pz] h1 fun x_1 h1 => ∃ ys, seqOf h1 x_1 = some ys ∧ 3 ≤ sizeLine ∧ rtQ Q (.tup [.int (n : Nat), x, .tup ys]) h1) noX := by
        intro A a8 aA
        refine ⟨m, ag, k + 500 + n, _, rfl, mv4.ds, by omega, by omega, by omega, fun p h5 hp mv5 => ?_⟩
        have eZ5 := mv5.ref dz.1 dz.2 eZ
        refine srt_ws eZ5 fun zs2 pm2 srt2 p3 np3 => ?_
        refine ⟨_, lst_seq up_same, by decide, rtQ.same ?_⟩
        obtain ⟨g1, g2, g3⟩ := good_of okO.ok pm2 srt2 (p := p) (by omega) (by omega) (by omega) (by have := pm.length_eq; simp; omega)
        exact q n p zs2 _ (by omega) n12 g1 (fun w hw => ((okO.perm pm2) w hw).2.2.2) (by rw [g3]; have := pm.length_eq; simp; omega) (((mv4.trans mv5).upf np3).mono (by omega))
      by_cases h7 : 7 < n
      · have := last 9 (by decide) ⟨by omega, by decide⟩
        first
          | exact .inr ⟨by omega, this⟩
          | exact .inl ⟨by omega, this⟩
          | (simp [h7]; exact this)
      · have := last 8 (by decide) ⟨by omega, by decide⟩
        first
          | exact .inl ⟨by omega, this⟩
          | exact .inr ⟨by omega, this⟩
          | (simp [h7]; exact this)
  show rg2I _ _ _ _ _
  refine ⟨_, rfl, _, _, rfl, rfl, ⟨by omega, by omega, by omega, by omega⟩, ?_⟩
  refine for_k (fun i s hh => ∃ ws a3, s = [some (.ref m), some (.int n), some (.ref P), a3, none, none, none, none, none, none] ∧ Mv h hh m ag (k + 1 + 5 * i) ∧ hh P = some (.lst (ws.map wP)) ∧ WsS n ws ∧ ws.length ≤ i ∧ i ≤ n - 1) ⟨[], _, rfl, mv0.upf nP, up_same, (fun _ hw => by cases hw), by simp, by omega⟩ (fun _ _ _ _ => trivial) ?_ ?_
  · rintro i x hx s hh K ⟨ws, a3, rfl, mv, eP, ok, hl, hij⟩ kk
    have hi : i < n - 1 := by
      have := (List.getElem?_eq_some_iff.mp hx).1
      rw [rg_len] at this
      omega
    have ex : x = .int ((i + 1 : Nat) : Int) := by
      unfold rgItems at hx
      rw [List.getElem?_map, List.getElem?_range (by omega)] at hx
      simp at hx
      rw [← hx]
      congr 1
      omega
    subst ex
    simp only [s_name, List.set_cons_succ, List.set_cons_zero]
    simp only [s_ifS, s_b, s_op, s_fc, s_cons, s_var, s_c, s_nil, List.getElem?_cons_zero, List.getElem?_cons_succ]
    refine ⟨_, rfl, ?_⟩
    refine ⟨m, ag, k + 1 + 5 * i, 8, rfl, mv.ds, by omega, by omega, by omega, fun g h1 hg mv1 => ?_⟩
    simp only [s_I20]
    have eP1 := mv1.ref n1 n2 eP
    refine ⟨_, rfl, ?_⟩
    by_cases hg0 : (0 : Int) < (g : Int)
    · rw [if_pos (decide_eq_true hg0)]
      simp
      refine ⟨_, rfl, ⟨_, _, rfl, eP1⟩, ?_⟩
      refine ⟨_, rfl, _, rfl, m, ag, k + 1 + 5 * i + 1, _, rfl, mv1.ds, by omega, by omega, by omega, fun j h2 hj mv2 => ?_⟩
      refine ⟨_, rfl, _, rfl, ?_⟩
      simp
      refine small_ratio (c := c) (A := 4) (B := 3) mv2.ds (by omega) (by decide) (by decide) (by decide) (by decide) fun st h3 s0 s1 s2 mv3 => ?_
      have eP3 := mv3.ref n1 n2 (mv2.ref n1 n2 eP1)
      refine ⟨by first | decide | exact sz3 _ _ _, app_ok eP3 (by simp; omega) ?_⟩
      refine kk _ _ ⟨ws ++ [(j, i + 1, st)], _, rfl, ((((mv.trans mv1).trans mv2).trans mv3).mono (by omega)).up nP0 n1 n2, by rw [up_same, List.map_append]; rfl, ok.snoc ⟨by show j < i + 1; omega, by show i + 1 < n; omega, s0, s1, s2⟩, by simp; omega, by omega⟩
    · rw [if_neg (by rw [decide_eq_false hg0]; decide)]
      exact kk _ _ ⟨ws, _, rfl, (mv.trans mv1).mono (by omega), eP1, ok, by omega, by omega⟩
  · rintro s hh ⟨ws, a3, rfl, mv, eP, ok, hl, hij⟩
    rw [rg_len] at hl hij mv
    have mv' : Mv h hh m ag (k + 100) := mv.mono (by omega)
    have hle : ws.length ≤ n - 1 := by omega
    clear hl hij mv
    simp only [s_seq, s_for]
    show rg1I _ _ _ _
    simp
    refine ⟨m, ag, k + 100, _, rfl, mv'.ds, by omega, by omega, by omega, fun j h1 hj mv1 => ⟨_, rfl, by omega, ?_⟩⟩
    refine for_k (fun i s hh => ∃ ws a3 a4 a5 a6, s = [some (.ref m), some (.int n), some (.ref P), a3, a4, a5, a6, none, none, none] ∧ Mv h hh m ag (k + 101 + 5 * i) ∧ hh P = some (.lst (ws.map wP)) ∧ WsS n ws ∧ ws.length ≤ n - 1 + i ∧ i ≤ j) ⟨ws, _, _, _, _, rfl, mv'.trans mv1, mv1.ref n1 n2 eP, ok, by omega, by omega⟩ (fun _ _ _ _ => trivial) ?_ ?_
    · rintro i x hx s hh K ⟨ws, a3, a4, a5, a6, rfl, mv, eP, ok, hl, hij⟩ kk
      have hi : i < j := by
        have := (List.getElem?_eq_some_iff.mp hx).1
        rw [rg_len] at this
        simpa using this
      simp
      refine ⟨m, ag, k + 101 + 5 * i, _, rfl, mv.ds, by omega, by omega, by omega, fun a h2 ha mv2 => ?_⟩
      refine small_ratio (c := c) (A := 3) (B := 4) mv2.ds (by omega) (by decide) (by decide) (by decide) (by decide) fun st h3 s0 s1 s2 mv3 => ?_
      have eP3 := mv3.ref n1 n2 (mv2.ref n1 n2 eP)
      refine ⟨_, rfl, ⟨_, _, rfl, eP3⟩, ?_⟩
      simp
      refine ⟨m, ag, k + 101 + 5 * i + 1 + 2, _, rfl, mv3.ds, by omega, by omega, by omega, fun b h4 hb mv4 => ?_⟩
      try simp only [s_I20]
      have eP4 := mv4.ref n1 n2 eP3
      refine ⟨by first | decide | exact sz3 _ _ _, app_ok eP4 (by simp; omega) ?_⟩
      have e : PV.tup [.int ((a : Nat) : Int), .int ((a : Int) + 1 + (b : Int)), frac st] = wP (a, a + 1 + b, st) := by
        rw [wP_eq]
        show _ = PV.tup [.int ((a : Nat) : Int), .int ((a + 1 + b : Nat) : Int), frac st]
        rw [show ((a + 1 + b : Nat) : Int) = (a : Int) + 1 + (b : Int) by omega]
      rw [e]
      refine kk _ _ ⟨ws ++ [(a, a + 1 + b, st)], _, _, _, _, rfl, (((((mv.trans mv2).trans mv3).trans mv4)).mono (by omega)).up nP0 n1 n2, by rw [up_same, List.map_append]; rfl, ok.snoc ⟨by show a < a + 1 + b; omega, by show a + 1 + b < n; omega, s0, s1, s2⟩, by simp; omega, by omega⟩
    · rintro s hh ⟨ws, a3, a4, a5, a6, rfl, mv, eP, ok, hl, hij⟩
      rw [rg_len] at hl hij mv
      have := fini ws hh a3 a4 a5 a6 (mv.mono (by omega)) eP ok (by omega)
      simpa using this
end L3

/-! L5i: the law's own weights and walks. -/
namespace L3
open PySem PySem.Spec PyProof.Rows L2 L4
variable {c : Str → Addr} {xs : List PV} {h : Hq} {Q : VQ} {E : XQ}
theorem up_sub {hh h' : Hq} {p : Addr} {o : HV} (s : Sub hh h') (np : hh p = none) : Sub hh (up h' p o) := fun b u e => by
  rw [up_ne]
  · exact s b u e
  · intro z; rw [z, np] at e; cases e
theorem wt_app {ws : List W3} {w : W3} {v : Nat} : wt (ws ++ [w]) v = wt ws v + (if touch v w = true then w.2.2 else 0) := by
  induction ws with
  | nil =>
    rw [List.nil_append, wt_cons]
    show _ + (0 : Rat) = 0 + _
    grind
  | cons u ws ih => rw [List.cons_append, wt_cons, wt_cons, ih]; grind
theorem fits_zero : Fits 0 := ⟨Nat.pow_pos (by decide), by
  show 1 < 2 ^ 9000
  exact Nat.one_lt_pow (by decide) (by decide)⟩
theorem pair_fit {l : List Rat} {s : Rat} (f : SumsFit (l ++ [s])) : SumsFit [l.sum, s] := by
  have f1 := f l.length s (by simp)
  rw [List.take_left] at f1
  intro k q e
  match k, e with
  | 0, e =>
    simp at e
    subst e
    exact ⟨fits_zero, f1.1, by simpa using f1.1.2⟩
  | 1, e =>
    simp at e
    subst e
    have : ([l.sum, s].take 1).sum = l.sum := by simp [Rat.add_zero]
    rw [this]
    exact f1
  | k + 2, e => simp at e
theorem sum2 (a b : Rat) : [a, b].sum = a + b := by simp [Rat.add_zero]
theorem strsAt_take {ws : List W3} {v k : Nat} (hk : k < ws.length) (ht : touch v ws[k] = true) : strsAt (ws.take (k + 1)) v = strsAt (ws.take k) v ++ [ws[k].2.2] := by
  unfold strsAt
  rw [List.take_add_one, List.getElem?_eq_getElem hk, List.filter_append, List.map_append]
  congr 1
  show List.map _ (List.filter (touch v) [ws[k]]) = _
  rw [List.filter_cons_of_pos ht]
  rfl
theorem take_fit {n p : Nat} {ws : List W3} (gn : GoodNet n p ws) (sz : SzNet ws) {v k : Nat} (hk : k < ws.length) (ht : touch v ws[k] = true) : SumsFit [wt (ws.take k) v, ws[k].2.2] := by
  refine pair_fit (l := strsAt (ws.take k) v) ?_
  rw [← strsAt_take hk ht]
  refine strs_fit (Nat.le_trans (strsAt_len _ v) (by have := gn.len; rw [List.length_take]; omega)) fun q hq => ?_
  obtain ⟨w, hw, rfl⟩ := strsAt_mem hq
  have hw := List.mem_of_mem_take hw
  have := (gn.ok w hw).2.2
  exact ⟨by grind, sz w hw⟩
theorem spec_law_weights (hsp : sp_law_weights c xs h Q E) : rd_law_weights c E (fin Q) (startQ ["net", "found", "one", "two", "strength"] xs) h := by
  obtain ⟨n, p, ws, rfl, gn, sz, q⟩ := hsp
  unfold rd_law_weights
  have h48 := gn.n48
  simp
  refine ⟨by decide, by decide, fun p0 np0 => ?_⟩
  simp [netP]
  refine ⟨p0, n, _, rfl, rfl, up_same, by omega, by simp; exact small_size (by omega), fun P nP => ?_⟩
  have nP0 : h P = none := (Sub.up np0).none nP
  have e0 : (List.replicate n [PV.tup [.int 0, .int 1]]).flatten = fracs n (wt []) := by
    have : ∀ k, (List.replicate k [PV.tup [.int 0, .int 1]]).flatten = List.replicate k (PV.tup [.int 0, .int 1]) := fun k => by
      induction k with
      | zero => rfl
      | succ k ih => rw [List.replicate_succ, List.flatten_cons, ih, List.replicate_succ]; rfl
    rw [this]
    refine List.ext_getElem? fun i => ?_
    by_cases hi : i < n
    · rw [fracs_get hi, List.getElem?_replicate, if_pos hi]
      rfl
    · rw [List.getElem?_eq_none (by simp; omega), List.getElem?_eq_none (by rw [fracs_len]; omega)]
  rw [e0]
  have sb0 : Sub h (up (up h p0 (.lst [PV.tup [.int 0, .int 1]])) P (.lst (fracs n (wt [])))) := up_sub (Sub.up np0) nP0
  have eP0 : up (up h p0 (.lst [PV.tup [.int 0, .int 1]])) P (.lst (fracs n (wt []))) P = some (.lst (fracs n (wt []))) := up_same
  generalize up (up h p0 (.lst [PV.tup [.int 0, .int 1]])) P (.lst (fracs n (wt []))) = h1 at sb0 eP0
  refine for_k (fun k s hh => ∃ a2 a3 a4, s = [some (netP n p ws), some (.ref P), a2, a3, a4] ∧ Sub h hh ∧ hh P = some (.lst (fracs n (wt (ws.take k))))) ⟨_, _, _, rfl, sb0, eP0⟩ (fun _ _ _ _ => rfl) ?_ ?_
  · rintro k x hx s hh K ⟨a2, a3, a4, rfl, sb, eP⟩ kk
    obtain ⟨hk, ex⟩ := List.getElem?_eq_some_iff.mp hx
    rw [List.length_map] at hk
    have ex : x = wP ws[k] := by rw [← ex, List.getElem_map]
    subst ex
    have hmem : ws[k] ∈ ws := List.getElem_mem hk
    obtain ⟨o1, o2, s0⟩ := gn.ok _ hmem
    have t1 : touch ws[k].1 ws[k] = true := touch_iff.mpr (.inl rfl)
    have t2 : touch ws[k].2.1 ws[k] = true := touch_iff.mpr (.inr rfl)
    have f1 := take_fit gn sz hk t1
    have f2 := take_fit gn sz hk t2
    have tk : ws.take (k + 1) = ws.take k ++ [ws[k]] := by rw [List.take_add_one, List.getElem?_eq_getElem hk]; rfl
    generalize hwk : ws[k] = w at hmem o1 o2 s0 t1 t2 f1 f2 tk
    have l1 : w.1 < n := by omega
    simp [wP_eq]
    refine ⟨_, lst_seq eP, _, fracs_at l1, by decide, fun p1 np1 => ?_⟩
    refine ⟨_, [wt (ws.take k) w.1, w.2.2], rfl, lst_seq up_same, f1, ?_⟩
    have eP1 := up_keep (o := HV.lst [frac (wt (ws.take k) w.1), frac w.2.2]) eP np1
    have sb1 : Sub h (up hh p1 (.lst [frac (wt (ws.take k) w.1), frac w.2.2])) := sb.trans (Sub.up np1)
    generalize up hh p1 (.lst [frac (wt (ws.take k) w.1), frac w.2.2]) = h2 at eP1 sb1
    refine ⟨_, lst_seq eP1, _, fracs_at o2, by decide, fun p2 np2 => ?_⟩
    refine ⟨_, [wt (ws.take k) w.2.1, w.2.2], rfl, lst_seq up_same, f2, ?_⟩
    have eP2 := up_keep (o := HV.lst [frac (wt (ws.take k) w.2.1), frac w.2.2]) eP1 np2
    have sb2 : Sub h (up h2 p2 (.lst [frac (wt (ws.take k) w.2.1), frac w.2.2])) := sb1.trans (Sub.up np2)
    generalize up h2 p2 (.lst [frac (wt (ws.take k) w.2.1), frac w.2.2]) = h3 at eP2 sb2
    rw [sum2, sum2]
    simp
    refine ⟨by decide, ?_⟩
    refine s_setG (a := P) (j := w.1) (fun Q q => ⟨_, rfl, q⟩) (fun Q q => ⟨_, rfl, q⟩) eP2 (by rw [fracs_len]; exact l1) ?_
    rw [fracs_set]
    refine s_setG (a := P) (j := w.2.1) (fun Q q => ⟨_, rfl, q⟩) (fun Q q => ⟨_, rfl, q⟩) up_same (by rw [fracs_len]; exact o2) ?_
    rw [fracs_set, up_up]
    have fe : fracs n (fun v => if v = w.2.1 then wt (ws.take k) w.2.1 + w.2.2 else if v = w.1 then wt (ws.take k) w.1 + w.2.2 else wt (ws.take k) v) = fracs n (wt (ws.take (k + 1))) := by
      refine fracs_congr fun v _ => ?_
      rw [tk, wt_app]
      by_cases e2 : v = w.2.1
      · subst e2
        rw [if_pos rfl, if_pos t2]
      · rw [if_neg e2]
        by_cases e1 : v = w.1
        · subst e1
          rw [if_pos rfl, if_pos t1]
        · rw [if_neg e1, if_neg (fun z => (touch_iff.mp z).elim (fun z => e1 z.symm) fun z => e2 z.symm)]
          grind
    rw [fe]
    exact kk _ _ ⟨_, _, _, rfl, up_sub sb2 nP0, up_same⟩
  · rintro s hh ⟨a2, a3, a4, rfl, sb, eP⟩
    simp
    rw [List.length_map, List.take_length] at eP
    exact rtQ.freeze eP sb nP0 q
end L3

/-! L5j: the law's own steps. -/
namespace L3
open PySem PySem.Spec PyProof.Rows L2 L4
variable {c : Str → Addr} {xs : List PV} {h : Hq} {Q : VQ} {E : XQ}
def partW (ws : List W3) (f : Nat → Rat) (v : Nat) (w : W3) : List Rat := (if w.1 = v then [f w.2.1 * w.2.2 / wt ws w.2.1] else []) ++ (if w.2.1 = v then [f w.1 * w.2.2 / wt ws w.1] else [])
def partsK (ws : List W3) (f : Nat → Rat) (v : Nat) : Nat → List Rat
  | 0 => if wt ws v = 0 then [f v] else []
  | k + 1 => partsK ws f v k ++ (match ws[k]? with | some w => partW ws f v w | none => [])
theorem partsK_succ {ws : List W3} {f : Nat → Rat} {v k : Nat} (hk : k < ws.length) : partsK ws f v (k + 1) = partsK ws f v k ++ partW ws f v ws[k] := by
  rw [partsK, List.getElem?_eq_getElem hk]
theorem partW_sum {ws : List W3} {f : Nat → Rat} {v : Nat} {w : W3} (h : w.1 < w.2.1) : (partW ws f v w).sum = term (fun u => f u / wt ws u) v w := by
  unfold partW term
  by_cases e1 : w.1 = v
  · rw [if_pos e1, if_pos e1, if_neg (by omega)]
    dsimp only
    rw [mul_div_swap]
    simp [Rat.add_zero]
  · rw [if_neg e1, if_neg e1]
    by_cases e2 : w.2.1 = v
    · rw [if_pos e2, if_pos e2]
      dsimp only
      rw [mul_div_swap]
      simp [Rat.add_zero]
    · rw [if_neg e2, if_neg e2]
      rfl
theorem sum_app (a b : List Rat) : (a ++ b).sum = a.sum + b.sum := List.sum_append
theorem parts_sum {n p : Nat} {ws : List W3} (gn : GoodNet n p ws) {f : Nat → Rat} {v : Nat} : ∀ k ≤ ws.length, (partsK ws f v k).sum = acc ws f k v
  | 0, _ => by
    rw [acc_zero]
    unfold partsK
    split <;> simp [Rat.add_zero]
  | k + 1, hk => by
    rw [partsK_succ (by omega), sum_app, parts_sum gn k (by omega), acc_succ (by omega), partW_sum (gn.ok _ (List.getElem_mem _)).1]
theorem parts_ok {n p D e : Nat} {ws : List W3} {f : Nat → Rat} (gn : GoodNet n p ws) (hD : DenOk n ws D) (ch : Chs n e f) {v : Nat} (hv : v < n) : ∀ k ≤ ws.length, (partsK ws f v k).length ≤ 1 + 2 * k ∧ ∀ q ∈ partsK ws f v k, InZ (e * D) q ∧ 0 ≤ q ∧ q ≤ 1
  | 0, _ => by
    unfold partsK
    split
    · exact ⟨by simp, fun q hq => by
        rw [List.mem_singleton.mp hq]
        exact ⟨(ch.den v hv).dvd (Nat.dvd_mul_right _ _), ch.ge v hv, ch.le v hv⟩⟩
    · exact ⟨by simp, fun q hq => by cases hq⟩
  | k + 1, hk => by
    obtain ⟨a, b⟩ := parts_ok gn hD ch hv k (by omega)
    rw [partsK_succ (by omega)]
    have hm : ws[k] ∈ ws := List.getElem_mem _
    obtain ⟨o1, o2, _⟩ := gn.ok _ hm
    refine ⟨?_, fun q hq => ?_⟩
    · rw [List.length_append]
      have : (partW ws f v ws[k]).length ≤ 2 := by
        unfold partW
        rw [List.length_append]
        split <;> split <;> simp
      omega
    · rcases List.mem_append.mp hq with hq | hq
      · exact b q hq
      · unfold partW at hq
        rcases List.mem_append.mp hq with hq | hq
        · split at hq
          · rw [List.mem_singleton.mp hq]
            exact term_facts gn hD ch hm o2 (touch_iff.mpr (.inr rfl))
          · cases hq
        · split at hq
          · rw [List.mem_singleton.mp hq]
            exact term_facts gn hD ch hm (by omega) (touch_iff.mpr (.inl rfl))
          · cases hq
theorem parts_fit {n p D e : Nat} {ws : List W3} {f : Nat → Rat} (gn : GoodNet n p ws) (hD : DenOk n ws D) (ch : Chs n e f) (fe : StepFits D e) {v : Nat} (hv : v < n) : SumsFit (partsK ws f v ws.length) := by
  obtain ⟨a, b⟩ := parts_ok gn hD ch hv ws.length (Nat.le_refl _)
  have := gn.len
  exact sumsFit_of (D := e * D) (M := 1) (Nat.mul_pos ch.pos hD.pos) (fun q hq => (b q hq).1) (fun q hq => (b q hq).2.1) (fun q hq => by simpa using (b q hq).2.2) (k1000 (by omega)) (k1000 (by decide)) fe.1
theorem fracs_snoc {v : Nat} {f : Nat → Rat} : fracs v f ++ [frac (f v)] = fracs (v + 1) f := by
  unfold fracs
  rw [List.range_succ, List.map_append]
  rfl
theorem eq_num {Q : VQ} {q : Rat} (k : Q (.bl (decide (q = 0))) h) : eqDQ id (.int q.num) (.int 0) h Q := by
  rw [s_eqI]
  have : (q.num == (0 : Int)) = decide (q = 0) := by
    by_cases e : q = 0
    · subst e; rfl
    · have := num_ne e
      simp [e, this]
  show Q (.bl (q.num == (0 : Int))) h
  rw [this]
  exact k
theorem seq_keep {hh h' : Hq} {x : PV} {l : List PV} (e : lstOf hh x = some l) (s : Sub hh h') : seqOf h' x = some l := by
  cases x with
  | ref a =>
    have : (match hh a with | some (.lst xs) => some xs | _ => none) = some l := e
    split at this
    · rename_i ys ea
      cases this
      exact seqOf_ref (s _ _ ea)
    · cases this
  | fl ys => exact e
  | _ => cases e
/-- one part, reckoned: the list of two, the product, the quotient -/
theorem part_read {n p D e : Nat} {ws : List W3} {f : Nat → Rat} (gn : GoodNet n p ws) (sz : SzNet ws) (ch : Chs n e f) (fe : StepFits D e) {w : W3} (hm : w ∈ ws) {u : Nat} (hu : u < n) (ht : touch u w = true) {hh : Hq} {K : VQ} (k : ∀ p1, hh p1 = none → K (frac (f u * w.2.2 / wt ws u)) (up hh p1 (.lst [frac (f u), frac w.2.2]))) :
    ∀ p1, hh p1 = none → sp_law_times c [.ref p1] (up hh p1 (.lst [frac (f u), frac w.2.2])) (fun x h1 => sp_law_over c [x, frac (wt ws u)] h1 K noX) noX := by
  intro p1 np1
  have F := flow_of gn sz ch fe.2 hm hu ht
  exact ⟨_, _, _, rfl, lst_seq up_same, F.fa, F.fs, F.d1, _, _, rfl, F.ft, F.fw, F.ps, F.d2, k p1 np1⟩
theorem spec_law_shared (hsp : sp_law_shared c xs h Q E) : rd_law_shared c E (fin Q) (startQ ["net", "chances", "weights", "found", "node", "parts", "one", "two", "strength"] xs) h := by
  obtain ⟨n, p, ws, cx, f, D, e, rfl, gn, sz, hc, hD, ch, fe, q⟩ := hsp
  unfold rd_law_shared
  have h48 := gn.n48
  have h40 := gn.len
  simp
  refine ⟨n, p, ws, rfl, gn, sz, ?_⟩
  intro F nF
  refine ⟨_, rfl, _, rfl, _, rfl, by omega, ?_⟩
  refine for_k (fun v s hh => ∃ a4 a5 a6 a7 a8, s = [some (netP n p ws), some cx, some (.fl (fracs n (wt ws))), some (.ref F), a4, a5, a6, a7, a8] ∧ Sub h hh ∧ hh F = some (.lst (fracs v (stepR ws f))) ∧ v ≤ n) ⟨_, _, _, _, _, rfl, Sub.up nF, up_same, by omega⟩ (fun _ _ _ _ => trivial) ?_ ?_
  · rintro v x hx s hh K ⟨a4, a5, a6, a7, a8, rfl, sb, eF, hvn⟩ kk
    have hv : v < n := by
      have := (List.getElem?_eq_some_iff.mp hx).1
      rw [rg_len] at this
      simpa using this
    have ex : x = .int (v : Nat) := by
      unfold rgItems at hx
      rw [List.getElem?_map, List.getElem?_range (by simpa using hv)] at hx
      simp at hx
      rw [← hx]
    subst ex
    simp only [s_name, List.set_cons_succ, List.set_cons_zero]
    -- behind the parts' first
    have rest : ∀ (pp : Addr) (h1 : Hq), h pp = none → Sub h h1 → pp ≠ F → h1 F = some (.lst (fracs v (stepR ws f))) → h1 pp = some (.lst ((partsK ws f v 0).map frac)) →
        (seqS (forS (seqI (opQ ixQ (varQ 0) (cQ (.int 2)))) (tupG 3 (consG (nameG 6) (consG (nameG 7) (consG (nameG 8) nilG)))) (seqS (ifS (bQ (opQ (eqDQ id) (varQ 6) (varQ 4))) (dropS (mtQ appQ (varQ 5) (fcQ (sp_law_over c) 0 noX (consQ (fcQ (sp_law_times c) 0 noX (consQ (lstQ (consQ (opQ ixQ (varQ 1) (varQ 7)) (consQ (varQ 8) nilQ))) nilQ)) (consQ (opQ ixQ (varQ 2) (varQ 7)) nilQ))))) nextS) (ifS (bQ (opQ (eqDQ id) (varQ 7) (varQ 4))) (dropS (mtQ appQ (varQ 5) (fcQ (sp_law_over c) 0 noX (consQ (fcQ (sp_law_times c) 0 noX (consQ (lstQ (consQ (opQ ixQ (varQ 1) (varQ 6)) (consQ (varQ 8) nilQ))) nilQ)) (consQ (opQ ixQ (varQ 2) (varQ 6)) nilQ))))) nextS))) (dropS (mtQ appQ (varQ 3) (fcQ (sp_law_sum c) 0 noX (consQ (varQ 5) nilQ)))))
          { nx := K, rt := rtQ Q, ct := K, bk := retS (varQ 3) (fin Q) } [some (netP n p ws), some cx, some (.fl (fracs n (wt ws))), some (.ref F), some (.int (v : Nat)), some (.ref pp), a6, a7, a8] h1 := by
      intro pp h1 npp sb1 npF eF1 ep
      simp only [s_seq, s_for]
      show seqI _ _ _ _
      simp [netP]
      refine for_k (fun k s hh => ∃ a6 a7 a8, s = [some (netP n p ws), some cx, some (.fl (fracs n (wt ws))), some (.ref F), some (.int (v : Nat)), some (.ref pp), a6, a7, a8] ∧ Sub h hh ∧ hh F = some (.lst (fracs v (stepR ws f))) ∧ hh pp = some (.lst ((partsK ws f v k).map frac)) ∧ k ≤ ws.length) ⟨_, _, _, rfl, sb1, eF1, ep, by omega⟩ (fun _ _ _ _ => rfl) ?_ ?_
      · rintro k x hx s hh K2 ⟨a6, a7, a8, rfl, sb2, eF2, ep2, hk0⟩ kk2
        obtain ⟨hk, ex⟩ := List.getElem?_eq_some_iff.mp hx
        rw [List.length_map] at hk
        have ex : x = wP ws[k] := by rw [← ex, List.getElem_map]
        subst ex
        have hm : ws[k] ∈ ws := List.getElem_mem hk
        obtain ⟨o1, o2, s0⟩ := gn.ok _ hm
        have ps := partsK_succ (f := f) (v := v) hk
        have t1 : touch ws[k].1 ws[k] = true := touch_iff.mpr (.inl rfl)
        have t2 : touch ws[k].2.1 ws[k] = true := touch_iff.mpr (.inr rfl)
        generalize hwk : ws[k] = w at hm o1 o2 s0 ps t1 t2
        have l1 : w.1 < n := by omega
        have plen : ∀ (k : Nat), k ≤ ws.length → (partsK ws f v k).length ≤ 1000 := fun k hk => by
          have := (parts_ok gn hD ch hv k hk).1
          omega
        -- the second half
        have half2 : ∀ (h3 : Hq) (l : List Rat), Sub h h3 → h3 F = some (.lst (fracs v (stepR ws f))) → h3 pp = some (.lst (l.map frac)) → l.length ≤ 1000 → (l ++ (if w.2.1 = v then [f w.1 * w.2.2 / wt ws w.1] else []) = partsK ws f v (k + 1)) →
            ifS (bQ (opQ (eqDQ id) (varQ 7) (varQ 4))) (dropS (mtQ appQ (varQ 5) (fcQ (sp_law_over c) 0 noX (consQ (fcQ (sp_law_times c) 0 noX (consQ (lstQ (consQ (opQ ixQ (varQ 1) (varQ 6)) (consQ (varQ 8) nilQ))) nilQ)) (consQ (opQ ixQ (varQ 2) (varQ 6)) nilQ))))) nextS
              { nx := K2, rt := rtQ Q, ct := K2, bk := K2 } [some (netP n p ws), some cx, some (.fl (fracs n (wt ws))), some (.ref F), some (.int (v : Nat)), some (.ref pp), some (.int (w.1 : Nat)), some (.int (w.2.1 : Nat)), some (frac w.2.2)] h3 := by
          intro h3 l sb3 eF3 ep3 hl3 el
          simp only [s_ifS, s_b, s_op, s_var, List.getElem?_cons_succ, List.getElem?_cons_zero]
          refine ⟨_, rfl, _, rfl, eq_intQ ?_⟩
          by_cases e2 : w.2.1 = v
          · rw [if_pos e2] at el
            refine ⟨true, by rw [decide_eq_true e2], ?_⟩
            rw [if_pos rfl]
            simp
            refine ⟨_, rfl, ⟨_, _, rfl, ep3⟩, ?_⟩
            simp
            refine ⟨_, seq_keep hc sb3, _, fracs_at l1, by decide, ?_⟩
            intro p1 np1
            have np1h := sb3.none np1
            have F := flow_of gn sz ch fe.2 hm l1 t1
            refine ⟨_, _, _, rfl, lst_seq up_same, F.fa, F.fs, F.d1, ?_⟩
            refine ⟨_, fracs_at l1, _, _, rfl, F.ft, F.fw, F.ps, F.d2, ?_⟩
            refine app_ok (up_keep ep3 np1) (by simpa using hl3) ?_
            refine kk2 _ _ ⟨_, _, _, rfl, up_sub (up_sub sb3 np1h) npp, by rw [up_ne (Ne.symm npF)]; exact up_keep eF3 np1, by rw [up_same, ← el, List.map_append]; rfl, by omega⟩
          · rw [if_neg e2, List.append_nil] at el
            refine ⟨false, by rw [decide_eq_false e2], ?_⟩
            rw [if_neg (by decide)]
            exact kk2 _ _ ⟨_, _, _, rfl, sb3, eF3, by rw [← el]; exact ep3, by omega⟩
        simp only [wP_eq, s_tupG, s_consG, s_name, s_nilG, List.set_cons_succ, List.set_cons_zero]
        refine ⟨rfl, trivial, ?_⟩
        simp only [s_seq, s_ifS, s_b, s_op, s_var, List.getElem?_cons_succ, List.getElem?_cons_zero]
        refine ⟨_, rfl, _, rfl, eq_intQ ?_⟩
        by_cases e1 : w.1 = v
        · refine ⟨true, by rw [decide_eq_true e1], ?_⟩
          rw [if_pos rfl]
          simp
          refine ⟨_, rfl, ⟨_, _, rfl, ep2⟩, ?_⟩
          simp
          refine ⟨_, seq_keep hc sb2, _, fracs_at o2, by decide, ?_⟩
          intro p1 np1
          have np1h := sb2.none np1
          have F := flow_of gn sz ch fe.2 hm o2 t2
          refine ⟨_, _, _, rfl, lst_seq up_same, F.fa, F.fs, F.d1, ?_⟩
          refine ⟨_, fracs_at o2, _, _, rfl, F.ft, F.fw, F.ps, F.d2, ?_⟩
          have pl := plen k hk0
          refine app_ok (up_keep ep2 np1) (by simpa using pl) ?_
          have := half2 (up (up hh p1 (.lst [frac (f w.2.1), frac w.2.2])) pp (.lst ((partsK ws f v k).map frac ++ [frac (f w.2.1 * w.2.2 / wt ws w.2.1)]))) (partsK ws f v k ++ [f w.2.1 * w.2.2 / wt ws w.2.1]) (up_sub (up_sub sb2 np1h) npp) (by rw [up_ne (Ne.symm npF)]; exact up_keep eF2 np1) (by rw [up_same, List.map_append]; rfl) (by
              have := (parts_ok gn hD ch hv k hk0).1
              rw [List.length_append, List.length_singleton]
              omega) (by
              rw [ps]
              unfold partW
              rw [if_pos e1, List.append_assoc])
          simpa using this
        · refine ⟨false, by rw [decide_eq_false e1], ?_⟩
          rw [if_neg (by decide)]
          have := half2 hh (partsK ws f v k) sb2 eF2 ep2 (plen k hk0) (by
              rw [ps]
              unfold partW
              rw [if_neg e1, List.nil_append])
          simpa using this
      · rintro s hh ⟨a6, a7, a8, rfl, sb2, eF2, ep2, hk0⟩
        rw [List.length_map] at ep2
        simp
        refine ⟨_, rfl, ⟨_, _, rfl, eF2⟩, ?_⟩
        refine ⟨_, rfl, _, _, rfl, lst_seq ep2, parts_fit gn hD ch fe hv, ?_⟩
        rw [parts_sum gn _ (Nat.le_refl _), acc_all]
        refine app_ok eF2 (by rw [fracs_len]; omega) ?_
        rw [fracs_snoc]
        exact kk _ _ ⟨_, _, _, _, _, rfl, up_sub sb2 nF, up_same, by omega⟩
    simp only [s_seq, s_asg, s_if, s_b, s_op, s_var, s_c, List.getElem?_cons_succ, List.getElem?_cons_zero]
    refine ⟨_, rfl, _, rfl, ?_⟩
    simp only [s_ix]
    refine ⟨_, _, rfl, fracs_at hv, ?_⟩
    refine ⟨_, _, rfl, rfl, eq_num ?_⟩
    have nFh : h F = none := nF
    by_cases e0 : wt ws v = 0
    · refine ⟨true, by rw [decide_eq_true e0], ?_⟩
      rw [if_pos rfl]
      simp
      refine ⟨_, seq_keep hc sb, _, fracs_at hv, by decide, fun pp npp => ?_⟩
      have npF : pp ≠ F := fun z => by rw [z, eF] at npp; cases npp
      have := rest pp (up hh pp (.lst [frac (f v)])) (sb.none npp) (sb.trans (Sub.up npp)) npF (up_keep eF npp) (by rw [up_same]; unfold partsK; rw [if_pos e0]; rfl)
      simpa using this
    · refine ⟨false, by rw [decide_eq_false e0], ?_⟩
      rw [if_neg (by decide)]
      simp
      intro pp npp
      have npF : pp ≠ F := fun z => by rw [z, eF] at npp; cases npp
      have := rest pp (up hh pp (.lst [])) (sb.none npp) (sb.trans (Sub.up npp)) npF (up_keep eF npp) (by rw [up_same]; unfold partsK; rw [if_neg e0]; rfl)
      simpa using this
  · rintro s hh ⟨a4, a5, a6, a7, a8, rfl, sb, eF, hvn⟩
    rw [rg_len] at eF
    simp
    simp at eF
    exact rtQ.freeze eF sb nF q
end L3

/-! L5k: the law's walks; alike. -/
namespace L3
open PySem PySem.Spec PyProof.Rows L2 L4
variable {c : Str → Addr} {xs : List PV} {h : Hq} {Q : VQ} {E : XQ}
theorem after_loop {n p D a k : Nat} {ws : List W3} {DD : EndQ} {h : Hq} {x y : PV} {z : Option PV} (gn : GoodNet n p ws) (sz : SzNet ws) (hD : DenOk n ws D) (ha : a < n) (wf : WalkFits D k)
    (fn : ∀ cx a4, lstOf h cx = some (fracs n (walkR ws a k)) → DD.nx [some (netP n p ws), some x, some y, some cx, a4, z] h) : ∀ (its : List PV) (j : Nat) (cx : PV) (a4 : Option PV), lstOf h cx = some (fracs n (walkR ws a j)) → j + its.length = k →
    forQ (fun _ => True) (nameG 4) (asgS (fcQ (sp_law_shared c) 0 noX (consQ (varQ 0) (consQ (varQ 3) nilQ))) (nameG 3)) DD its [some (netP n p ws), some x, some y, some cx, a4, z] h
  | [], j, cx, a4, hc, hj => by
    have : j = k := by simpa using hj
    subst this
    exact ⟨trivial, fn cx a4 hc⟩
  | i :: its, j, cx, a4, hc, hj => by
    rw [List.length_cons] at hj
    rw [s_forC]
    refine ⟨trivial, ?_⟩
    simp
    refine ⟨n, p, ws, cx, walkR ws a j, D, D ^ j, rfl, gn, sz, hc, hD, walk_chs (ends_of gn) hD ha j, stepFits_of hD.pos wf (by omega), ?_⟩
    exact wk_same (after_loop gn sz hD ha wf fn its (j + 1) _ _ rfl (by omega))
theorem spec_law_after (hsp : sp_law_after c xs h Q E) : rd_law_after c E (fin Q) (startQ ["net", "node", "steps", "found", "turn", "one"] xs) h := by
  obtain ⟨n, p, ws, a, k, D, rfl, gn, sz, ha, hk, hD, wf, q⟩ := hsp
  unfold rd_law_after
  have h48 := gn.n48
  simp
  show rg1I _ _ _ _
  simp [netP]
  refine ⟨by omega, small_size (by simp [rgItems]; omega), ?_⟩
  unfold rgItems
  refine lc_map (b := fun v => frac (walkR ws a 0 v)) trivial ?_ ?_
  · intro v hv K hK
    simp
    have := hK h (Sub.refl h)
    unfold walkR at this
    by_cases e : v = a
    · subst e
      rw [if_pos rfl] at this
      simp
      first | exact ⟨by decide, this⟩ | exact this
    · rw [if_neg e] at this
      have ne : ¬ ((v : Int) = (a : Int)) := by omega
      first
        | (simp [ne]; exact this)
        | (simp [ne]; exact ⟨by decide, this⟩)
        | (simp [e]; exact this)
        | (simp [e]; exact ⟨by decide, this⟩)
  · intro P nP
    refine ⟨by omega, ?_⟩
    refine after_loop (c := c) (h := up h P (.lst (fracs n (walkR ws a 0)))) gn sz hD ha wf (fun cx a4 hc => ?_) _ 0 _ _ (lstOf_ref up_same) (by simp)
    simp
    exact ⟨_, seq_of_lst hc, rtQ.sub (Sub.up nP) q⟩
/-! ### alike -/
theorem ty_seq {x : PV} {ys : List PV} (e : seqOf h x = some ys) : tyOf h x = some (if isTup x = true then "tuple" else "list") ∧ isN x = false := by
  cases x with
  | tup _ => exact ⟨rfl, rfl⟩
  | fl _ => exact ⟨rfl, rfl⟩
  | ref a =>
    have e : (match h a with | some (.lst xs) => some xs | _ => none) = some ys := e
    split at e
    · rename_i zs ea
      refine ⟨?_, rfl⟩
      show (match h a with | some (.lst _) => some "list" | some (.dic _) => some "dict" | none => none) = _
      rw [ea]
      rfl
    · cases e
  | _ => cases e
theorem like_loop {d : Nat} {D : EndQ} {got due : PV} {xs ys : List PV} (ex : seqOf h got = some xs) (ey : seqOf h due = some ys) (hl : xs.length = ys.length) (hk : ∀ (i : Nat) (x y : PV), xs[i]? = some x → ys[i]? = some y → lk h d x y)
    (fn : ∀ z, D.nx [some got, some due, z] h) : forQ (fun _ => True) (nameG 2) (ifS (notT (bQ (fcQ (sp_law_like c d) 0 noX (consQ (opQ ixQ (varQ 0) (varQ 2)) (consQ (opQ ixQ (varQ 1) (varQ 2)) nilQ))))) (retS (cQ (.bl false))) nextS) D (rgItems 0 ys.length) [some got, some due, none] h := by
  refine for_k (fun k s hh => hh = h ∧ ∃ z, s = [some got, some due, z]) ⟨rfl, _, rfl⟩ (fun _ _ _ _ => trivial) ?_ ?_
  · rintro k x hx s hh K ⟨rfl, z, rfl⟩ kk
    have hk1 : k < ys.length := by
      have := (List.getElem?_eq_some_iff.mp hx).1
      rwa [rg_len] at this
    have e : x = .int (k : Nat) := by
      unfold rgItems at hx
      rw [List.getElem?_map, List.getElem?_range hk1] at hx
      simp at hx
      rw [← hx]
    subst e
    simp
    have hk2 : k < xs.length := by omega
    refine ⟨_, ex, xs[k], by rw [atQ_nat, List.getElem?_eq_getElem hk2], _, ey, ys[k], by rw [atQ_nat, List.getElem?_eq_getElem hk1], ?_⟩
    refine ⟨_, _, rfl, hk k _ _ (List.getElem?_eq_getElem hk2) (List.getElem?_eq_getElem hk1), ?_⟩
    simp
    exact kk _ _ ⟨rfl, _, rfl⟩
  · rintro s hh ⟨rfl, z, rfl⟩
    exact fn z
theorem eqv_str (s : Str) : PyData.eqv (.str s) (.str s) = true := by
  show (s == s) = true
  simp
theorem spec_law_like {d : Nat} (hsp : sp_law_like c (d + 1) xs h Q E) : rd_law_like c E (sp_law_like c d) (fin Q) (startQ ["got", "due", "n"] xs) h := by
  obtain ⟨got, due, rfl, hk, q⟩ := hsp
  unfold rd_law_like
  rcases hk with ⟨rfl, sc⟩ | ⟨xs, ys, ex, ey, et, hl, h60, hk⟩
  · cases got with
    | non => simp; exact rtQ.same q
    | bl b =>
      simp [isTy]
      refine s_eqD rfl rfl rfl rfl ?_
      have : PyData.eqv (.bool b) (.bool b) = true := by cases b <;> rfl
      rw [this]
      exact rtQ.same q
    | int i =>
      simp [isTy]
      exact rtQ.same q
    | str s =>
      simp [isTy]
      refine s_eqD rfl rfl sc sc ?_
      rw [eqv_str]
      exact rtQ.same q
    | _ => cases sc
  · obtain ⟨t1, n1⟩ := ty_seq ex
    obtain ⟨t2, n2⟩ := ty_seq ey
    have main : (seqS (ifS (bQ (opQ (eqDQ not) (callQ lenQ (consQ (varQ 0) nilQ)) (callQ lenQ (consQ (varQ 1) nilQ)))) (retS (cQ (.bl false))) nextS) (seqS (forS (rg1I (callQ lenQ (consQ (varQ 1) nilQ))) (nameG 2) (ifS (notT (bQ (fcQ (sp_law_like c d) 0 noX (consQ (opQ ixQ (varQ 0) (varQ 2)) (consQ (opQ ixQ (varQ 1) (varQ 2)) nilQ))))) (retS (cQ (.bl false))) nextS)) (retS (cQ (.bl true))))) (fin Q) [some got, some due, none] h := by
      simp only [s_seq, s_ifS, s_b, s_op, s_call, s_cons, s_var, s_nil, List.getElem?_cons_zero, List.getElem?_cons_succ]
      refine ⟨_, rfl, ?_⟩
      simp only [s_len]
      refine ⟨_, ex, _, rfl, ?_⟩
      refine ⟨_, ey, ?_⟩
      simp only [s_eqI]
      refine ⟨false, by rw [hl]; simp, ?_⟩
      rw [if_neg (by decide)]
      simp only [s_next, s_seq, s_for]
      show rg1I _ _ _ _
      simp
      refine ⟨_, ey, ?_⟩
      refine ⟨by omega, ?_⟩
      refine like_loop (c := c) ex ey hl hk fun z => ?_
      simp
      exact rtQ.same q
    cases ht : isTup due with
    | true =>
      rw [ht] at t2 et
      rw [et] at t1
      simp only [s_seq, s_ifS, s_noneT, s_b, s_isi, s_var, s_orT, s_andT, s_notT, List.getElem?_cons_zero, List.getElem?_cons_succ, st_cons, st_nil, st_nn]
      refine ⟨_, rfl, ?_⟩
      rw [n2]
      simp only [id]
      rw [if_neg (by decide)]
      simp only [s_next, s_seq, s_ifS, s_noneT, s_b, s_isi, s_var, s_orT, s_andT, s_notT, List.getElem?_cons_zero, List.getElem?_cons_succ]
      refine ⟨_, rfl, _, t2, false, by simp [isTy], ?_⟩
      rw [if_neg (by decide)]
      refine ⟨_, rfl, _, t2, false, by simp [isTy], ?_⟩
      rw [if_neg (by decide)]
      refine ⟨_, rfl, _, t2, false, by simp [isTy], ?_⟩
      rw [if_neg (by decide)]
      refine ⟨_, rfl, _, t2, true, by simp [isTy], ?_⟩
      rw [if_pos rfl]
      refine ⟨_, rfl, _, t1, true, by simp [isTy], ?_⟩
      simp only [Bool.not_true]
      rw [if_neg (by decide)]
      refine ⟨_, rfl, _, t2, false, by simp [isTy], ?_⟩
      rw [if_neg (by decide), if_neg (by decide)]
      exact main
    | false =>
      rw [ht] at t2 et
      rw [et] at t1
      simp only [s_seq, s_ifS, s_noneT, s_b, s_isi, s_var, s_orT, s_andT, s_notT, List.getElem?_cons_zero, List.getElem?_cons_succ, st_cons, st_nil, st_nn]
      refine ⟨_, rfl, ?_⟩
      rw [n2]
      simp only [id]
      rw [if_neg (by decide)]
      simp only [s_next, s_seq, s_ifS, s_noneT, s_b, s_isi, s_var, s_orT, s_andT, s_notT, List.getElem?_cons_zero, List.getElem?_cons_succ]
      refine ⟨_, rfl, _, t2, false, by simp [isTy], ?_⟩
      rw [if_neg (by decide)]
      refine ⟨_, rfl, _, t2, false, by simp [isTy], ?_⟩
      rw [if_neg (by decide)]
      refine ⟨_, rfl, _, t2, false, by simp [isTy], ?_⟩
      rw [if_neg (by decide)]
      refine ⟨_, rfl, _, t2, false, by simp [isTy], ?_⟩
      rw [if_neg (by decide), if_neg (by decide)]
      refine ⟨_, rfl, _, t2, true, by simp [isTy], ?_⟩
      rw [if_pos rfl]
      refine ⟨_, rfl, _, t1, true, by simp [isTy], ?_⟩
      simp only [Bool.not_true]
      rw [if_neg (by decide)]
      exact main
theorem lk_int {d : Nat} {i : Int} : lk h (d + 1) (.int i) (.int i) := .inl ⟨rfl, rfl⟩
theorem lk_tup {d : Nat} {l : List PV} (hl : l.length < 2 ^ 60) (k : ∀ x ∈ l, lk h d x x) : lk h (d + 1) (.tup l) (.tup l) := .inr ⟨l, l, rfl, rfl, rfl, rfl, hl, fun i x y e1 e2 => by
  rw [e1] at e2
  cases e2
  exact k x (List.mem_of_getElem? e1)⟩
theorem lk_frac {d : Nat} {q : Rat} : lk h (d + 2) (frac q) (frac q) := lk_tup (by show 2 < 2 ^ 60; decide) fun x hx => by
  simp at hx
  rcases hx with rfl | rfl
  · exact lk_int
  · exact lk_int
theorem lk_fracs {d n : Nat} {f : Nat → Rat} (hn : n ≤ 48) : lk h (d + 3) (.tup (fracs n f)) (.tup (fracs n f)) := lk_tup (by rw [fracs_len]; omega) fun x hx => by
  obtain ⟨v, _, rfl⟩ := List.mem_map.mp hx
  exact lk_frac
theorem lk_ref {d : Nat} {a b : Addr} {l m : List PV} (e1 : h a = some (.lst l)) (e2 : h b = some (.lst m)) (hl : l.length = m.length) (h60 : m.length < 2 ^ 60) (k : ∀ (i : Nat) (x y : PV), l[i]? = some x → m[i]? = some y → lk h d x y) : lk h (d + 1) (.ref a) (.ref b) := .inr ⟨l, m, lst_seq e1, lst_seq e2, rfl, hl, h60, k⟩
end L3

/-! L5l: the law of a net: what is told is right. -/
namespace L3
open PySem PySem.Spec PyProof.Rows L2 L4
variable {c : Str → Addr} {xs : List PV} {h : Hq} {Q : VQ} {E : XQ}
theorem walk_fits {n p D a k : Nat} {ws : List W3} (gn : GoodNet n p ws) (hD : DenOk n ws D) (ha : a < n) (wf : WalkFits D k) {v : Nat} (hv : v < n) : Fits (walkR ws a k v) :=
  fits_of (Nat.pow_pos hD.pos) (walk_inZ (ends_of gn) hD k v hv) (walk_nonneg (ends_of gn) k v hv) (M := 1) (by simpa using walk_le (ends_of gn) ha k hv) (k1000 (by decide)) (lt_of_sq wf.1)
theorem wt_walk_den {n p D a k : Nat} {ws : List W3} (gn : GoodNet n p ws) (sz : SzNet ws) (hD : DenOk n ws D) (wf : WalkFits D k) {u v : Nat} (hv : v < n) : (wt ws u).den * (walkR ws a k v).den < 2 ^ 9000 := by
  obtain ⟨_, _, _, _, wd⟩ := wt_facts gn sz u
  have h1 := (walk_inZ (ends_of gn) hD k v hv (a := a)).den_le (Nat.pow_pos hD.pos)
  rw [Nat.mul_comm]
  exact small9 h1 (Nat.le_trans wd (Nat.pow_le_pow_right (by decide) (by decide))) wf.2
theorem eqv_frac (x y : Rat) : PyData.eqv (.tuple [.int x.num, .int x.den]) (.tuple [.int y.num, .int y.den]) = decide (x = y) := by
  have e : PyData.eqv (.tuple [.int x.num, .int x.den]) (.tuple [.int y.num, .int y.den]) = (x.num == y.num && ((x.den : Int) == (y.den : Int) && true)) := rfl
  rw [e]
  by_cases h : x = y
  · subst h; simp
  · by_cases h1 : x.num = y.num
    · by_cases h2 : x.den = y.den
      · exact absurd (Rat.ext h1 h2) h
      · have : ¬ ((x.den : Int) = (y.den : Int)) := by omega
        simp [h, this]
    · simp [h, h1]
theorem eq_frac {f : Bool → Bool} {x y : Rat} (k : Q (.bl (f (decide (x = y)))) h) : eqDQ f (frac x) (frac y) h Q := by
  refine s_eqD dat_frac dat_frac rfl rfl ?_
  rw [eqv_frac]
  exact k
theorem whole_node {n a : Nat} (ha : a < n) : wholeQ (.int 0) (.int ((n : Int) - 1)) (.int (a : Nat)) = true := by rw [wQ_lo]; exact decide_eq_true (by omega)
theorem good_chances {n p a k D : Nat} {ws : List W3} (gn : GoodNet n p ws) (sz : SzNet ws) (ha : a < n) (hk : k ≤ 60) (hD : DenOk n ws D) (wf : WalkFits D k) (q : Q (.tup (fracs n (walkR ws a k))) h) : sp_chances_after c [netP n p ws, .int (a : Nat), .int (k : Nat)] h Q E :=
  ⟨_, _, _, rfl, rfl, rfl, .inl ⟨n, p, ws, a, k, D, rfl, gn, sz, ha, rfl, rfl, hk, hD, wf, q⟩⟩
theorem fracs_sumR {n : Nat} {f : Nat → Rat} : ((List.range n).map f).sum = sumR n f := rfl
theorem fracs_map {n : Nat} {f : Nat → Rat} : fracs n f = ((List.range n).map f).map frac := by
  unfold fracs
  rw [List.map_map]
  rfl
theorem spec_law_right (hsp : sp_law_right c xs h Q E) : rd_law_right c E (fin Q) (startQ ["m", "net", "node", "steps", "due", "told", "weights", "other", "back"] xs) h := by
  obtain ⟨m, ag, k, n, p, ws, D, rfl, ds, hk, n0, gn, sz, hD, wf, q⟩ := hsp
  unfold rd_law_right
  have h48 := gn.n48
  have en := ends_of gn
  simp
  -- node_weights twice
  refine ⟨_, rfl, .inl ⟨n, p, ws, rfl, gn, sz, ?_⟩⟩
  refine ⟨_, rfl, .inl ⟨n, p, ws, rfl, gn, sz, ?_⟩⟩
  refine ⟨by decide, fun p1 np1 => ?_⟩
  refine ⟨n, p, ws, rfl, gn, sz, ?_⟩
  simp
  refine ⟨by decide, fun p2 np2 => ?_⟩
  have e1 : up (up h p1 (.lst [.tup (fracs n (wt ws)), .tup (fracs n (wt ws))])) p2 (.lst [.tup (fracs n (wt ws))]) p1 = some (.lst [.tup (fracs n (wt ws)), .tup (fracs n (wt ws))]) := up_keep up_same np2
  have e2 : up (up h p1 (.lst [.tup (fracs n (wt ws)), .tup (fracs n (wt ws))])) p2 (.lst [.tup (fracs n (wt ws))]) p2 = some (.lst [.tup (fracs n (wt ws))]) := up_same
  have sb2 : Sub h (up (up h p1 (.lst [.tup (fracs n (wt ws)), .tup (fracs n (wt ws))])) p2 (.lst [.tup (fracs n (wt ws))])) := (Sub.up np1).trans (Sub.up np2)
  generalize up (up h p1 (.lst [.tup (fracs n (wt ws)), .tup (fracs n (wt ws))])) p2 (.lst [.tup (fracs n (wt ws))]) = h2 at e1 e2 sb2
  refine ⟨p2, 2, _, rfl, rfl, e2, by decide, by show 1 * 2 ≤ sizeLine; decide, fun p3 np3 => ?_⟩
  have e3 : up h2 p3 (.lst (List.replicate 2 [PV.tup (fracs n (wt ws))]).flatten) p3 = some (.lst [.tup (fracs n (wt ws)), .tup (fracs n (wt ws))]) := up_same
  have e13 := up_keep (o := HV.lst (List.replicate 2 [PV.tup (fracs n (wt ws))]).flatten) e1 np3
  have sb3 : Sub h (up h2 p3 (.lst (List.replicate 2 [PV.tup (fracs n (wt ws))]).flatten)) := sb2.trans (Sub.up np3)
  generalize up h2 p3 (.lst (List.replicate 2 [PV.tup (fracs n (wt ws))]).flatten) = h3 at e3 e13 sb3
  have all2 : ∀ (d : Nat) (x : PV) (hh : Hq), lk hh d x x → ∀ (i : Nat) (y z : PV), [x, x][i]? = some y → [x, x][i]? = some z → lk hh d y z := fun d x hh hx i y z ey ez => by
    match i, ey, ez with
    | 0, ey, ez => cases ey; cases ez; exact hx
    | 1, ey, ez => cases ey; cases ez; exact hx
    | i + 2, ey, _ => simp at ey
  refine ⟨_, _, rfl, lk_ref (d := 7) e13 e3 rfl (by show 2 < 2 ^ 60; decide) (all2 _ _ _ (lk_fracs h48)), ?_⟩
  simp
  -- node, steps
  have ds3 : DS h3 m ag k := by
    obtain ⟨cs, gs, s, a, b, r⟩ := ds
    exact ⟨cs, gs, s, sb3 _ _ a, sb3 _ _ b, r⟩
  refine ⟨_, rfl, _, rfl, m, ag, k, _, rfl, ds3, by omega, by omega, by omega, fun i h4 hi mv4 => ?_⟩
  refine ⟨m, ag, k + 1, _, rfl, mv4.ds, by omega, by omega, by omega, fun j h5 hj mv5 => ?_⟩
  have hi' : i < n := by omega
  have hj' : j ≤ 9 := by omega
  have wfj := wf j hj'
  refine ⟨n, p, ws, i, j, D, rfl, gn, sz, hi', by omega, hD, wfj, ?_⟩
  refine good_chances gn sz hi' (by omega) hD wfj ?_
  simp only [pick]
  refine good_chances (k := j) gn sz hi' (by omega) hD wfj ?_
  refine ⟨by decide, fun p6 np6 => ?_⟩
  refine ⟨_, _, rfl, good_chances (k := 1) gn sz hi' (by decide) hD (wf 1 (by decide)) ?_⟩
  refine ⟨by decide, fun p7 np7 => ?_⟩
  have e67 : up (up h5 p6 (.lst [.tup (fracs n (walkR ws i j)), .tup (fracs n (walkR ws i j))])) p7 (.lst [.tup (fracs n (walkR ws i 1))]) p6 = some (.lst [.tup (fracs n (walkR ws i j)), .tup (fracs n (walkR ws i j))]) := up_keep up_same np7
  have e77 : up (up h5 p6 (.lst [.tup (fracs n (walkR ws i j)), .tup (fracs n (walkR ws i j))])) p7 (.lst [.tup (fracs n (walkR ws i 1))]) p7 = some (.lst [.tup (fracs n (walkR ws i 1))]) := up_same
  have mv7 : Mv h5 (up (up h5 p6 (.lst [.tup (fracs n (walkR ws i j)), .tup (fracs n (walkR ws i j))])) p7 (.lst [.tup (fracs n (walkR ws i 1))])) m ag (k + 1 + 1) := ((Mv.refl mv5.ds).upf np6).upf np7
  generalize up (up h5 p6 (.lst [.tup (fracs n (walkR ws i j)), .tup (fracs n (walkR ws i j))])) p7 (.lst [.tup (fracs n (walkR ws i 1))]) = h7 at e67 e77 mv7
  refine ⟨p6, p7, _, _, rfl, rfl, e67, e77, by show 2 + 1 ≤ sizeLine; decide, fun p8 np8 => ?_⟩
  have e8 : up h7 p8 (.lst ([.tup (fracs n (walkR ws i j)), .tup (fracs n (walkR ws i j))] ++ [.tup (fracs n (walkR ws i 1))])) p8 = some (.lst [.tup (fracs n (walkR ws i j)), .tup (fracs n (walkR ws i j)), .tup (fracs n (walkR ws i 1))]) := up_same
  have mv8 : Mv h5 (up h7 p8 (.lst ([.tup (fracs n (walkR ws i j)), .tup (fracs n (walkR ws i j))] ++ [.tup (fracs n (walkR ws i 1))]))) m ag (k + 1 + 1) := mv7.upf np8
  generalize up h7 p8 (.lst ([.tup (fracs n (walkR ws i j)), .tup (fracs n (walkR ws i j))] ++ [.tup (fracs n (walkR ws i 1))])) = h8 at e8 mv8
  refine ⟨n, p, ws, i, 1, D, rfl, gn, sz, hi', by decide, hD, wf 1 (by decide), ?_⟩
  refine ⟨by decide, fun p9 np9 => ?_⟩
  have e9 : up h8 p9 (.lst [.tup (fracs n (walkR ws i j)), .tup (fracs n (walkR ws i j)), .tup (fracs n (walkR ws i 1))]) p9 = some (.lst [.tup (fracs n (walkR ws i j)), .tup (fracs n (walkR ws i j)), .tup (fracs n (walkR ws i 1))]) := up_same
  have e89 := up_keep (o := HV.lst [.tup (fracs n (walkR ws i j)), .tup (fracs n (walkR ws i j)), .tup (fracs n (walkR ws i 1))]) e8 np9
  have mv9 : Mv h5 (up h8 p9 (.lst [.tup (fracs n (walkR ws i j)), .tup (fracs n (walkR ws i j)), .tup (fracs n (walkR ws i 1))])) m ag (k + 1 + 1) := mv8.upf np9
  generalize up h8 p9 (.lst [.tup (fracs n (walkR ws i j)), .tup (fracs n (walkR ws i j)), .tup (fracs n (walkR ws i 1))]) = h9 at e9 e89 mv9
  refine ⟨_, _, rfl, lk_ref (d := 7) e89 e9 rfl (by show 3 < 2 ^ 60; decide) (fun t y z ey ez => ?_), ?_⟩
  · match t, ey, ez with
    | 0, ey, ez => cases ey; cases ez; exact lk_fracs h48
    | 1, ey, ez => cases ey; cases ez; exact lk_fracs h48
    | 2, ey, ez => cases ey; cases ez; exact lk_fracs h48
    | t + 3, ey, _ => simp at ey
  simp
  -- there and back
  refine ⟨n, p, ws, rfl, gn, sz, ?_⟩
  refine ⟨_, rfl, _, rfl, m, ag, k + 1 + 1, _, rfl, mv9.ds, by omega, by omega, by omega, fun o h10 ho mv10 => ?_⟩
  have ho' : o < n := by omega
  refine good_chances gn sz ho' (by omega) hD wfj ?_
  simp
  refine ⟨_, fracs_at hi', ?_⟩
  refine ⟨_, fracs_at hi', _, fracs_at ho', by decide, fun p11 np11 => ?_⟩
  have wfit : ∀ u, Fits (wt ws u) := fun u => (wt_facts gn sz u).2.1
  refine ⟨_, _, _, rfl, lst_seq up_same, wfit i, walk_fits gn hD hi' wfj ho', wt_walk_den gn sz hD wfj ho', ?_⟩
  refine ⟨_, fracs_at ho', by decide, fun p12 np12 => ?_⟩
  refine ⟨_, _, _, rfl, lst_seq up_same, wfit o, walk_fits gn hD ho' wfj hi', wt_walk_den gn sz hD wfj hi', ?_⟩
  refine eq_frac ?_
  rw [there_back en hi' ho']
  refine .inl ⟨by simp, ?_⟩
  refine ⟨_, (List.range n).map (walkR ws i j), rfl, by rw [fracs_map]; rfl, ?_, ?_⟩
  · refine sumsFit_of (D := D ^ j) (M := 1) (Nat.pow_pos hD.pos) ?_ ?_ ?_ ?_ (k1000 (by decide)) wfj.1
    · intro r hr
      obtain ⟨v, hv, rfl⟩ := List.mem_map.mp hr
      exact walk_inZ en hD j v (by simpa using hv)
    · intro r hr
      obtain ⟨v, hv, rfl⟩ := List.mem_map.mp hr
      exact walk_nonneg en j v (by simpa using hv)
    · intro r hr
      obtain ⟨v, hv, rfl⟩ := List.mem_map.mp hr
      simpa using walk_le en hi' j (v := v) (by simpa using hv)
    · simp
      exact k1000 (by omega)
  · rw [fracs_sumR, walk_total en hi']
    refine ⟨by decide, ?_⟩
    have : eqDQ id (frac 1) (frac 1) (L3.up (L3.up h10 p11 (.lst [frac (wt ws i), frac (walkR ws i j o)])) p12 (.lst [frac (wt ws o), frac (walkR ws o j i)])) (rtQ Q) := by
      refine eq_frac ?_
      refine rtQ.same (q _ ?_)
      have m0 : Mv h h3 m ag k := ⟨ds3, fun b u _ _ e => sb3 b u e⟩
      have m1 := (((m0.trans mv4).trans mv5).trans mv9).trans mv10
      exact ((m1.upf np11).upf np12).mono (by omega)
    simpa [frac] using this
end L3

/-! L5m: how large the denominators of a walk may become. -/
namespace L3
open L4
def prN (n : Nat) (f : Nat → Nat) : Nat := match n with
  | 0 => 1
  | n + 1 => prN n f * f n
theorem prN_mul (f g : Nat → Nat) : ∀ n, prN n (fun v => f v * g v) = prN n f * prN n g
  | 0 => rfl
  | n + 1 => by
    show prN n (fun v => f v * g v) * (f n * g n) = prN n f * f n * (prN n g * g n)
    rw [prN_mul f g n]
    simp only [Nat.mul_assoc, Nat.mul_comm, Nat.mul_left_comm]
theorem prN_le {f g : Nat → Nat} : ∀ {n}, (∀ v < n, f v ≤ g v) → prN n f ≤ prN n g
  | 0, _ => Nat.le_refl _
  | n + 1, h => Nat.mul_le_mul (prN_le fun v hv => h v (by omega)) (h n (by omega))
theorem prN_congr {f g : Nat → Nat} : ∀ {n}, (∀ v < n, f v = g v) → prN n f = prN n g
  | 0, _ => rfl
  | n + 1, h => by
    show prN n f * f n = prN n g * g n
    rw [prN_congr fun v hv => h v (by omega), h n (by omega)]
theorem prN_one : ∀ n, prN n (fun _ => 1) = 1
  | 0 => rfl
  | n + 1 => by
    show prN n (fun _ => 1) * 1 = 1
    rw [prN_one n]
theorem prN_at {q a : Nat} : ∀ {n}, a < n → prN n (fun v => if v = a then q else 1) = q
  | 0, h => by omega
  | n + 1, h => by
    show prN n (fun v => if v = a then q else 1) * (if n = a then q else 1) = q
    by_cases e : n = a
    · subst e
      rw [if_pos rfl, prN_congr (g := fun _ => 1) fun v hv => by rw [if_neg (by omega)], prN_one, Nat.one_mul]
    · rw [if_neg e, prN_at (by omega), Nat.mul_one]
theorem prN_const {b : Nat} : ∀ n, prN n (fun _ => b) = b ^ n
  | 0 => rfl
  | n + 1 => by
    show prN n (fun _ => b) * b = _
    rw [prN_const n, Nat.pow_succ]
theorem prN_dvd {f : Nat → Nat} {v : Nat} : ∀ {n}, v < n → f v ∣ prN n f
  | 0, h => by omega
  | n + 1, h => by
    show f v ∣ prN n f * f n
    by_cases e : v = n
    · subst e
      exact Nat.dvd_mul_left _ _
    · exact Nat.dvd_trans (prN_dvd (by omega)) (Nat.dvd_mul_right _ _)
theorem prN_pos {f : Nat → Nat} : ∀ {n}, (∀ v < n, 0 < f v) → 0 < prN n f
  | 0, _ => Nat.one_pos
  | n + 1, h => Nat.mul_pos (prN_pos fun v hv => h v (by omega)) (h n (by omega))
theorem strsAt_cons {w : W3} {ws : List W3} {v : Nat} : strsAt (w :: ws) v = if touch v w = true then w.2.2 :: strsAt ws v else strsAt ws v := by
  unfold strsAt
  by_cases e : touch v w = true
  · rw [List.filter_cons_of_pos e, if_pos e, List.map_cons]
  · rw [List.filter_cons_of_neg e, if_neg e]
/-- all denominators, node by node: each wire's twice -/
theorem den_all {n q : Nat} : ∀ {ws : List W3}, Ends n ws → (∀ w ∈ ws, w.2.2.den ≤ q) → prN n (fun v => denProd (strsAt ws v)) ≤ (q * q) ^ ws.length
  | [], _, _ => by
    have : prN n (fun v => denProd (strsAt [] v)) = 1 := (prN_congr (g := fun _ => 1) fun v _ => rfl).trans (prN_one n)
    rw [this]
    exact Nat.le_refl 1
  | w :: ws, h, hq => by
    obtain ⟨o1, o2, _⟩ := h w List.mem_cons_self
    have ih := den_all (n := n) (q := q) (ws := ws) (fun u hu => h u (List.mem_cons_of_mem _ hu)) fun u hu => hq u (List.mem_cons_of_mem _ hu)
    have e : prN n (fun v => denProd (strsAt (w :: ws) v)) = (w.2.2.den * w.2.2.den) * prN n (fun v => denProd (strsAt ws v)) := by
      rw [prN_congr (g := fun v => ((if v = w.1 then w.2.2.den else 1) * (if v = w.2.1 then w.2.2.den else 1)) * denProd (strsAt ws v)) fun v _ => ?_, prN_mul, prN_mul, prN_at (by omega), prN_at o2]
      rw [strsAt_cons]
      by_cases e1 : v = w.1
      · subst e1
        rw [if_pos (touch_iff.mpr (.inl rfl)), if_pos rfl, if_neg (by omega), Nat.mul_one]
        rfl
      · by_cases e2 : v = w.2.1
        · subst e2
          rw [if_pos (touch_iff.mpr (.inr rfl)), if_neg e1, if_pos rfl, Nat.one_mul]
          rfl
        · rw [if_neg (fun z => (touch_iff.mp z).elim (fun z => e1 z.symm) fun z => e2 z.symm), if_neg e1, if_neg e2, Nat.one_mul]
    rw [e, List.length_cons, Nat.pow_succ, Nat.mul_comm]
    have hw := hq w List.mem_cons_self
    exact Nat.mul_le_mul ih (Nat.mul_le_mul hw hw)
/-- the weight times all denominators at the node -/
def nodeN (ws : List W3) (v : Nat) : Nat := if wt ws v = 0 then 1 else (wt ws v * (denProd (strsAt ws v) : Rat)).num.toNat
theorem nodeN_facts {n B : Nat} {ws : List W3} (h : Ends n ws) (hB : ∀ w ∈ ws, w.2.2.num.natAbs ≤ B) (hB0 : 0 < B) (hl : 0 < ws.length) (v : Nat) : 0 < nodeN ws v ∧ nodeN ws v ≤ (ws.length * B) * denProd (strsAt ws v) ∧ ∀ w ∈ ws, touch v w = true → InZ (nodeN ws v) (w.2.2 / wt ws v) := by
  have dp := denProd_pos (strsAt ws v)
  by_cases e : wt ws v = 0
  · unfold nodeN
    rw [if_pos e]
    refine ⟨Nat.one_pos, ?_, fun w hw ht => ?_⟩
    · exact Nat.mul_pos (Nat.mul_pos hl hB0) dp
    · have := wt_pos h.pos hw ht
      grind
  · have w0 : 0 ≤ wt ws v := wt_nonneg h.pos
    have wp : 0 < wt ws v := by grind
    have dR : (0 : Rat) < (denProd (strsAt ws v) : Rat) := by exact_mod_cast dp
    have z : InZ (denProd (strsAt ws v)) (wt ws v) := sum_inZ fun q hq => denProd_inZ hq
    obtain ⟨k, hk⟩ := z
    have eN : nodeN ws v = k.toNat := by
      unfold nodeN
      rw [if_neg e, hk, Rat.num_intCast]
    have kp : (0 : Rat) < (k : Rat) := by
      rw [← hk]
      exact Rat.mul_pos wp dR
    have kp' : 0 < k := by exact_mod_cast kp
    have eNk : ((nodeN ws v : Nat) : Rat) = (k : Rat) := by
      rw [eN]
      have : ((k.toNat : Nat) : Int) = k := by omega
      calc ((k.toNat : Nat) : Rat) = (((k.toNat : Nat) : Int) : Rat) := rfl
        _ = (k : Rat) := by rw [this]
    refine ⟨by omega, ?_, fun w hw ht => ?_⟩
    · have le1 : wt ws v ≤ (((strsAt ws v).length * B : Nat) : Rat) := sum_le fun q hq => by
        obtain ⟨w, hw, rfl⟩ := strsAt_mem hq
        exact le_num (hB w hw)
      have le2 : (k : Rat) ≤ (((strsAt ws v).length * B : Nat) : Rat) * (denProd (strsAt ws v) : Rat) := by
        rw [← hk]
        exact Rat.mul_le_mul_of_nonneg_right le1 (by grind)
      rw [← eNk, ← Rat.natCast_mul] at le2
      have le3 := Rat.natCast_le_natCast.mp le2
      exact Nat.le_trans le3 (Nat.mul_le_mul_right _ (Nat.mul_le_mul_right _ (strsAt_len ws v)))
    · have hs : w.2.2 ∈ strsAt ws v := List.mem_map.mpr ⟨w, List.mem_filter.mpr ⟨hw, ht⟩, rfl⟩
      obtain ⟨l, hl'⟩ := denProd_inZ hs
      refine ⟨l, ?_⟩
      rw [eNk, ← hk, ← hl']
      have ne : wt ws v ≠ 0 := e
      rw [Rat.div_def]
      calc w.2.2 * (wt ws v)⁻¹ * (wt ws v * (denProd (strsAt ws v) : Rat)) = w.2.2 * (wt ws v * (wt ws v)⁻¹) * (denProd (strsAt ws v) : Rat) := by grind
        _ = w.2.2 * (denProd (strsAt ws v) : Rat) := by rw [Rat.mul_inv_cancel _ ne, Rat.mul_one]
theorem den_of {n B q : Nat} {ws : List W3} (h : Ends n ws) (hB : ∀ w ∈ ws, w.2.2.num.natAbs ≤ B) (hq : ∀ w ∈ ws, w.2.2.den ≤ q) (hB0 : 0 < B) (hl : 0 < ws.length) : ∃ D, DenOk n ws D ∧ D ≤ (ws.length * B) ^ n * (q * q) ^ ws.length := by
  refine ⟨prN n (nodeN ws), ⟨prN_pos fun v _ => (nodeN_facts h hB hB0 hl v).1, fun v hv w hw ht => ((nodeN_facts h hB hB0 hl v).2.2 w hw ht).dvd (prN_dvd hv)⟩, ?_⟩
  refine Nat.le_trans (prN_le (g := fun v => (ws.length * B) * denProd (strsAt ws v)) fun v _ => (nodeN_facts h hB hB0 hl v).2.1) ?_
  rw [prN_mul, prN_const]
  exact Nat.mul_le_mul_left _ (den_all h hq)
theorem den_none {n : Nat} : DenOk n [] 1 := ⟨Nat.one_pos, fun _ _ w hw => by cases hw⟩
theorem fits_mono {D E k : Nat} (hD : 0 < D) (h : D ≤ E) (w : WalkFits E 9) (hk : k ≤ 9) : WalkFits D k := by
  have m : D ^ k ≤ E ^ 9 := Nat.le_trans (Nat.pow_le_pow_left h k) (Nat.pow_le_pow_right (by omega) hk)
  exact ⟨Nat.lt_of_le_of_lt (Nat.mul_le_mul m m) w.1, Nat.lt_of_le_of_lt (Nat.mul_le_mul_right _ m) w.2⟩
theorem big9 : WalkFits ((9 * 10 ^ 6) ^ 6 * (10 ^ 6 * 10 ^ 6) ^ 9) 9 := by
  constructor
  · decide +kernel
  · decide +kernel
theorem big12 : WalkFits ((17 * 4) ^ 12 * (4 * 4) ^ 17) 9 := by
  constructor
  · decide +kernel
  · decide +kernel
/-- drawn nets: up to six nodes, nine wires -/
theorem den_any {n p : Nat} {ws : List W3} (gn : GoodNet n p ws) (sz : SzNet ws) (n6 : n ≤ 6) (l9 : ws.length ≤ 9) : ∃ D, DenOk n ws D ∧ ∀ j ≤ 9, WalkFits D j := by
  by_cases hl : 0 < ws.length
  · obtain ⟨D, hD, hb⟩ := den_of (B := 10 ^ 6) (q := 10 ^ 6) (ends_of gn) (fun w hw => (sz w hw).1) (fun w hw => (sz w hw).2) (by decide) hl
    refine ⟨D, hD, fun j hj => fits_mono hD.pos (Nat.le_trans hb ?_) big9 hj⟩
    refine Nat.mul_le_mul ?_ (Nat.pow_le_pow_right (by decide) l9)
    exact Nat.le_trans (Nat.pow_le_pow_left (Nat.mul_le_mul_right _ l9) n) (Nat.pow_le_pow_right (by decide) n6)
  · have : ws = [] := List.eq_nil_of_length_eq_zero (by omega)
    subst this
    exact ⟨1, den_none, fun j hj => fits_mono Nat.one_pos (by decide) big9 hj⟩
theorem den_great {n p : Nat} {ws : List W3} (gn : GoodNet n p ws) (sz : ∀ w ∈ ws, w.2.2.num.natAbs ≤ 4 ∧ w.2.2.den ≤ 4) (n12 : n ≤ 12) (l17 : ws.length ≤ 17) : ∃ D, DenOk n ws D ∧ ∀ j ≤ 9, WalkFits D j := by
  by_cases hl : 0 < ws.length
  · obtain ⟨D, hD, hb⟩ := den_of (B := 4) (q := 4) (ends_of gn) (fun w hw => (sz w hw).1) (fun w hw => (sz w hw).2) (by decide) hl
    refine ⟨D, hD, fun j hj => fits_mono hD.pos (Nat.le_trans hb ?_) big12 hj⟩
    refine Nat.mul_le_mul ?_ (Nat.pow_le_pow_right (by decide) l17)
    exact Nat.le_trans (Nat.pow_le_pow_left (Nat.mul_le_mul_right _ l17) n) (Nat.pow_le_pow_right (by decide) n12)
  · have : ws = [] := List.eq_nil_of_length_eq_zero (by omega)
    subst this
    exact ⟨1, den_none, fun j hj => fits_mono Nat.one_pos (by decide) big12 hj⟩
/-! ### a pair -/
section
variable {s : Rat}
theorem pair_wt (hs : 0 < s) {v : Nat} (hv : v < 2) : wt [(0, 1, s)] v = s := by
  rw [wt_cons]
  have : touch v (0, 1, s) = true := touch_iff.mpr (by
    show 0 = v ∨ 1 = v
    omega)
  rw [if_pos this]
  show s + 0 = s
  grind
theorem pair_den (hs : 0 < s) : DenOk 2 [(0, 1, s)] 1 := ⟨Nat.one_pos, fun v hv w hw ht => by
  rw [pair_wt hs hv, List.mem_singleton.mp hw]
  have : s / s = 1 := by rw [Rat.div_def, Rat.mul_inv_cancel _ (by grind)]
  show InZ 1 (s / s)
  rw [this]
  exact InZ.one 1⟩
theorem pair_step (hs : 0 < s) (c : Nat → Rat) : stepR [(0, 1, s)] c 0 = c 1 ∧ stepR [(0, 1, s)] c 1 = c 0 := by
  have ne : s ≠ 0 := by grind
  have k : ∀ x : Rat, x / s * s = x := fun x => Rat.div_mul_cancel ne
  refine ⟨?_, ?_⟩
  · unfold stepR
    rw [pair_wt hs (by decide), if_neg ne, inflow_cons, inflow_nil]
    unfold term
    rw [if_pos rfl]
    show 0 + (c 1 / wt [(0, 1, s)] 1 * s + 0) = c 1
    rw [pair_wt hs (by decide), k]
    grind
  · unfold stepR
    rw [pair_wt hs (by decide), if_neg ne, inflow_cons, inflow_nil]
    unfold term
    rw [if_neg (show ¬ ((0 : Nat) = 1) by decide), if_pos rfl]
    show 0 + (c 0 / wt [(0, 1, s)] 0 * s + 0) = c 0
    rw [pair_wt hs (by decide), k]
    grind
theorem pair_walk (hs : 0 < s) : ∀ j, walkR [(0, 1, s)] 0 (2 * j) 0 = 1 ∧ walkR [(0, 1, s)] 0 (2 * j) 1 = 0
  | 0 => ⟨rfl, rfl⟩
  | j + 1 => by
    obtain ⟨a, b⟩ := pair_walk hs j
    have e : 2 * (j + 1) = 2 * j + 1 + 1 := by omega
    rw [e]
    refine ⟨?_, ?_⟩
    · show stepR _ (stepR _ _) 0 = 1
      rw [(pair_step hs _).1, (pair_step hs _).2]
      exact a
    · show stepR _ (stepR _ _) 1 = 0
      rw [(pair_step hs _).2, (pair_step hs _).1]
      exact b
end
end L3

/-! L5n: what is refused; the law. -/
namespace L3
open PySem PySem.Spec PyProof.Rows L2 L4
variable {c : Str → Addr} {xs : List PV} {h : Hq} {Q : VQ} {E : XQ}
/-- a value that the law tells back: alike with itself -/
def okV : PV → Bool
  | .non => true
  | .bl _ => true
  | .int _ => true
  | .str s => SeqAt.shaped (.str s)
  | .tup [.int _] => true
  | _ => false
theorem lk_one {d : Nat} : ∀ {l : List PV}, okV (.tup l) = true → lk h (d + 2) (.tup l) (.tup l)
  | [.int i], _ => lk_tup (by show 1 < 2 ^ 60; decide) fun x hx => by
    rw [List.mem_singleton.mp hx]
    exact lk_int
theorem lk_okV {d : Nat} {x : PV} (o : okV x = true) : lk h (d + 2) x x := by
  cases x with
  | non => exact .inl ⟨rfl, rfl⟩
  | bl b => exact .inl ⟨rfl, rfl⟩
  | int i => exact .inl ⟨rfl, rfl⟩
  | str s => exact .inl ⟨rfl, o⟩
  | tup l => exact lk_one o
  | _ => cases o
theorem noRef_okV {x : PV} (o : okV x = true) : noRef x = true := by
  cases x with
  | ref a => cases o
  | _ => rfl
/-- a lambda that refuses -/
theorem lam_refused {tq : XQ → TQ} {n : Sq} {cn g tag : String} {y : PV} {K : VQ} (hm : (cn, g, tag) ∈ heardL) (ht : ∀ W : XQ, W (.ref (c cn)) (some ((g : Str), y)) h → tq W n h (fun _ _ => False)) (k : ∀ p, h p = none → K (.ref p) (up h p (.lst [.str tag, y]))) : lamQ tq (heardE heardL c) n h K := by
  refine ⟨fun cl x h1 => cl = .ref (c cn) ∧ x = some ((g : Str), y) ∧ h1 = h, fun _ _ => False, ht _ ⟨rfl, rfl, rfl⟩, fun _ _ z => z.elim, ?_⟩
  rintro cl x h1 ⟨rfl, rfl, rfl⟩
  exact ⟨(cn, g, tag), hm, rfl, y, rfl, k⟩
theorem lk_two {d : Nat} {a b : Addr} {t : Str} {y : PV} (e1 : h a = some (.lst [.str t, y])) (e2 : h b = some (.lst [.str t, y])) (ht : SeqAt.shaped (.str t) = true) (o : okV y = true) : lk h (d + 3) (.ref a) (.ref b) :=
  lk_ref e1 e2 rfl (by show 2 < 2 ^ 60; decide) fun i x z ex ez => by
    match i, ex, ez with
    | 0, ex, ez => cases ex; cases ez; exact .inl ⟨rfl, ht⟩
    | 1, ex, ez => cases ex; cases ez; exact lk_okV o
    | i + 2, ex, _ => simp at ex
def rr1 (c : Str → Addr) : SQ := (asgS (tupQ (consQ (fcQ (sp_law_of c) 0 noX (consQ (varQ 0) (consQ (lstQ (consQ (negQ (cQ (.int 1))) (consQ (opQ ixQ (varQ 1) (cQ (.int 0))) (consQ (cQ (.bl true)) (consQ (cQ .non) (consQ (cQ (.str "0")) (consQ (tupQ (consQ (cQ (.int 0)) nilQ)) nilQ))))))) nilQ))) (consQ (fcQ (sp_law_of c) 0 noX (consQ (varQ 0) (consQ (lstQ (consQ (negQ (cQ (.int 1))) (consQ (cQ (.int 61)) (consQ (cQ (.bl false)) (consQ (cQ .non) (consQ (tupQ (consQ (cQ (.int 3)) nilQ)) nilQ)))))) nilQ))) nilQ))) (tupG 2 (consG (nameG 8) (consG (nameG 7) nilG))))
def rr2 (c : Str → Addr) : SQ := (asgS (lstQ (consQ (tupQ (consQ (cQ .non) (consQ (cQ (.str "form")) nilQ))) (consQ (tupQ (consQ (tupQ (consQ (cQ (.int 49)) (consQ (cQ (.int 0)) (consQ (tupQ nilQ) nilQ)))) (consQ (cQ (.str "nodes")) nilQ))) (consQ (tupQ (consQ (tupQ (consQ (cQ (.int 2)) (consQ (cQ (.int 3)) (consQ (tupQ nilQ) nilQ)))) (consQ (cQ (.str "ports")) nilQ))) (consQ (tupQ (consQ (tupQ (consQ (cQ (.int 2)) (consQ (cQ (.int 1)) (consQ (tupQ (consQ (tupQ (consQ (cQ (.int 0)) (consQ (cQ (.int 1)) (consQ (tupQ (consQ (cQ (.int 0)) (consQ (cQ (.int 1)) nilQ))) nilQ)))) nilQ)) nilQ)))) (consQ (cQ (.int 0)) nilQ))) nilQ))))) (nameG 2))
def rr3 (c : Str → Addr) : SQ := (asgS (fcQ (sp_law_of c) 0 noX (consQ (varQ 0) (consQ (varQ 2) nilQ))) (tupG 2 (consG (nameG 6) (consG (nameG 3) nilG))))
def rr4 (c : Str → Addr) : SQ := (asgS (lstQ (consQ (lamQ (fun W => fcQ (sp_node_weights c) 0 W (consQ (varQ 6) nilQ)) (heardE heardL c)) (consQ (lamQ (fun W => fcQ (sp_chances_after c) 0 W (consQ (varQ 6) (consQ (varQ 8) (consQ (varQ 7) nilQ)))) (heardE heardL c)) (consQ (lamQ (fun W => fcQ (sp_chances_after c) 0 W (consQ (varQ 1) (consQ (varQ 8) (consQ (varQ 7) nilQ)))) (heardE heardL c)) (consQ (lamQ (fun W => fcQ (sp_chances_after c) 0 W (consQ (varQ 1) (consQ (cQ (.int 0)) (consQ (varQ 7) nilQ)))) (heardE heardL c)) (consQ (lamQ (fun W => fcQ (sp_step_chances c) 0 W (consQ (varQ 1) (consQ (varQ 8) nilQ))) (heardE heardL c)) (consQ (lamQ (fun W => fcQ (sp_step_chances c) 0 W (consQ (tupQ (consQ (cQ (.int 0)) (consQ (cQ (.int 0)) (consQ (tupQ nilQ) nilQ)))) (consQ (cQ (.int 0)) nilQ))) (heardE heardL c)) nilQ))))))) (nameG 4))
def rr5 (c : Str → Addr) : SQ := (asgS (lstQ (consQ (lstQ (consQ (cQ (.str "net")) (consQ (varQ 3) nilQ))) (consQ (lstQ (consQ (cQ (.str "net")) (consQ (varQ 3) nilQ))) (consQ (lstQ (consQ (cQ (.str "nodes")) (consQ (varQ 8) nilQ))) (consQ (lstQ (consQ (cQ (.str "number")) (consQ (varQ 7) nilQ))) (consQ (lstQ (consQ (cQ (.str "nodes")) (consQ (varQ 8) nilQ))) nilQ)))))) (nameG 5))
def rr6 (c : Str → Addr) : SQ := (retS (fcQ (sp_law_like c 8) 0 noX (consQ (varQ 4) (consQ (opQ catQ (varQ 5) (lstQ (consQ (lstQ (consQ (cQ (.str "nodes")) (consQ (cQ (.int 0)) nilQ))) nilQ))) nilQ))))
theorem rr_eq : rd_law_refused_right c E = (seqS (rr1 c) (seqS (rr2 c) (seqS (rr3 c) (seqS (rr4 c) (seqS (rr5 c) (rr6 c)))))) := rfl
/-- several lists of two, laid one after another -/
def Lays (n : Sq) (V : List (Str × PV)) (aq : AQ) : Prop := ∀ (h : Hq) (K : List PV → Hq → Prop), (∀ (A : List Addr) (h' : Hq), A.length = V.length → (∀ (i : Nat) (a : Addr) (v : Str × PV), A[i]? = some a → V[i]? = some v → h' a = some (.lst [.str v.1, v.2])) → Sub h h' → K (A.map .ref) h') → aq n h K
theorem lays_nil {n : Sq} : Lays n [] nilQ := fun h K k => k [] h rfl (fun i a v e => by simp at e) (Sub.refl h)
theorem lays_cons {n : Sq} {V : List (Str × PV)} {tg : Str} {y : PV} {t : TQ} {aq : AQ} (ht : ∀ (h : Hq) (K : VQ), (∀ p, h p = none → K (.ref p) (up h p (.lst [.str tg, y]))) → t n h K) (r : Lays n V aq) : Lays n ((tg, y) :: V) (consQ t aq) := fun h K k => by
  refine ht h _ fun p np => ?_
  refine r _ _ fun A h' hl hA sb => ?_
  refine k (p :: A) h' (by simp [hl]) (fun i a v ea ev => ?_) ((Sub.up np).trans sb)
  match i, ea, ev with
  | 0, ea, ev =>
    cases ea
    cases ev
    exact sb _ _ up_same
  | i + 1, ea, ev => exact hA i a v (by simpa using ea) (by simpa using ev)
theorem two_ht {n : Sq} {tg : Str} {i : Nat} {y : PV} (e : n[i]? = some (some y)) : ∀ (h : Hq) (K : VQ), (∀ p, h p = none → K (.ref p) (up h p (.lst [.str tg, y]))) → lstQ (consQ (cQ (.str tg)) (consQ (varQ i) nilQ)) n h K := fun h K k => ⟨y, e, sz2 _ _, k⟩
theorem rr6_read {n : Sq} {V : List (Str × PV)} {A B : List Addr} {told due : Addr} (e4 : n[4]? = some (some (.ref told))) (e5 : n[5]? = some (some (.ref due))) (ht : h told = some (.lst (A.map .ref))) (hd : h due = some (.lst (B.map .ref))) (hA : A.length = (V ++ [(("nodes" : Str), PV.int 0)]).length) (hB : B.length = V.length) (hV : V.length < 100)
    (kA : ∀ (i : Nat) (a : Addr) (v : Str × PV), A[i]? = some a → (V ++ [(("nodes" : Str), PV.int 0)])[i]? = some v → h a = some (.lst [.str v.1, v.2])) (kB : ∀ (i : Nat) (a : Addr) (v : Str × PV), B[i]? = some a → V[i]? = some v → h a = some (.lst [.str v.1, v.2])) (ok : ∀ v ∈ V, SeqAt.shaped (.str v.1) = true ∧ okV v.2 = true) (q : ∀ h', Sub h h' → Q (.bl true) h') : rr6 c (fin Q) n h := by
  unfold rr6
  simp only [s_ret, s_fc, s_cons, s_var, s_nil, s_op, s_lst, s_c]
  refine ⟨_, e4, _, e5, sz2 _ _, fun p1 np1 => ⟨by show 1 ≤ sizeLine; decide, fun p2 np2 => ?_⟩⟩
  have ed2 := up_keep (o := HV.lst [PV.ref p1]) (up_keep (o := HV.lst [.str "nodes", .int 0]) hd np1) np2
  have e22 : up (up h p1 (.lst [.str "nodes", .int 0])) p2 (.lst [PV.ref p1]) p2 = some (.lst [.ref p1]) := up_same
  have e12 : up (up h p1 (.lst [.str "nodes", .int 0])) p2 (.lst [PV.ref p1]) p1 = some (.lst [.str "nodes", .int 0]) := up_keep up_same np2
  have sb : Sub h (up (up h p1 (.lst [.str "nodes", .int 0])) p2 (.lst [PV.ref p1])) := (Sub.up np1).trans (Sub.up np2)
  generalize up (up h p1 (.lst [.str "nodes", .int 0])) p2 (.lst [PV.ref p1]) = h2 at ed2 e22 e12 sb
  refine ⟨due, p2, _, _, rfl, rfl, ed2, e22, small_size (by simp; omega), fun p3 np3 => ?_⟩
  have sb3 : Sub h2 (up h2 p3 (.lst (B.map .ref ++ [PV.ref p1]))) := Sub.up np3
  have e33 : up h2 p3 (.lst (B.map .ref ++ [PV.ref p1])) p3 = some (.lst (B.map .ref ++ [PV.ref p1])) := up_same
  have e13 := sb3 _ _ e12
  generalize up h2 p3 (.lst (B.map .ref ++ [PV.ref p1])) = h3 at sb3 e33 e13
  refine ⟨_, _, rfl, lk_ref (d := 7) (sb3 _ _ (sb _ _ ht)) e33 ?_ ?_ ?_, rtQ.same (q _ (sb.trans sb3))⟩
  · simp at hA
    simp [hA, hB]
  · simp
    omega
  · intro i x y ex ey
    rw [List.getElem?_map] at ex
    cases ea : A[i]? with
    | none => rw [ea] at ex; cases ex
    | some a =>
      rw [ea] at ex
      cases ex
      have hi := (List.getElem?_eq_some_iff.mp ea).1
      by_cases hiB : i < B.length
      · rw [List.getElem?_append_left (by simpa using hiB), List.getElem?_map, List.getElem?_eq_getElem hiB] at ey
        cases ey
        have hiV : i < V.length := by omega
        have ev : V[i]? = some V[i] := List.getElem?_eq_getElem hiV
        obtain ⟨o1, o2⟩ := ok V[i] (List.getElem_mem hiV)
        refine lk_two (d := 4) (t := V[i].1) (y := V[i].2) (sb3 _ _ (sb _ _ (kA i a _ ea (by rw [List.getElem?_append_left hiV]; exact ev)))) (sb3 _ _ (sb _ _ (kB i _ _ (List.getElem?_eq_getElem hiB) ev))) o1 o2
      · simp at hA
        have hie : i = V.length := by omega
        rw [List.getElem?_append_right (by simp; omega)] at ey
        have : i - (B.map PV.ref).length = 0 := by simp; omega
        rw [this] at ey
        cases ey
        refine lk_two (d := 4) (t := "nodes") (y := .int 0) (sb3 _ _ (sb _ _ (kA i a (("nodes" : Str), PV.int 0) ea (by rw [hie]; simp)))) e13 (by decide +kernel) rfl
end L3

/-! L5o: what is refused, put together. -/
namespace L3
open PySem PySem.Spec PyProof.Rows L2 L4
variable {c : Str → Addr} {xs : List PV} {h : Hq} {Q : VQ} {E : XQ}
theorem rr1_read {n p k : Nat} {m ag : Addr} {ws : List W3} {D : EndQ} {a2 a3 a4 a5 a6 a7 a8 : Option PV} (ds : DS h m ag k) (hk : k + 2 < 2 ^ 60)
    (kk : ∀ odd far h', okV odd = true → wholeQ (.int 0) (.int ((n : Int) - 1)) odd = false → okV far = true → wholeQ (.int 0) (.int 60) far = false → Mv h h' m ag (k + 2) → D.nx [some (.ref m), some (netP n p ws), a2, a3, a4, a5, a6, some far, some odd] h') :
    rr1 c D [some (.ref m), some (netP n p ws), a2, a3, a4, a5, a6, a7, a8] h := by
  unfold rr1
  simp only [s_asg, s_tup, s_cons, s_fc, s_var, s_lst, s_neg, s_c, s_op, s_ix, s_nil, List.getElem?_cons_zero, List.getElem?_cons_succ]
  refine ⟨_, rfl, _, rfl, _, rfl, _, _, rfl, rfl, by show 1 ≤ sizeLine; decide, by show 6 ≤ sizeLine; decide, fun p1 np1 => ?_⟩
  obtain ⟨f1, f2⟩ := ds.fresh np1
  refine ⟨m, ag, k, p1, _, rfl, ds.up f1 f2, by omega, f1, f2, up_same, by show 0 < 6; decide, by show 6 < 2 ^ 60; decide, fun odd hodd h2 mv2 => ?_⟩
  have odd1 : okV odd = true ∧ wholeQ (.int 0) (.int ((n : Int) - 1)) odd = false := by
    simp only [List.mem_cons, List.not_mem_nil, or_false] at hodd
    rcases hodd with rfl | rfl | rfl | rfl | rfl | rfl
    · exact ⟨rfl, rfl⟩
    · refine ⟨rfl, ?_⟩
      have : ¬ ((n : Int) ≤ (n : Int) - 1) := by omega
      simp [wholeQ, loQ, hiQ, this]
    · exact ⟨rfl, rfl⟩
    · exact ⟨rfl, rfl⟩
    · exact ⟨by decide +kernel, rfl⟩
    · exact ⟨rfl, rfl⟩
  refine ⟨_, rfl, _, rfl, by show 1 ≤ sizeLine; decide, by show 5 ≤ sizeLine; decide, fun p2 np2 => ?_⟩
  obtain ⟨f3, f4⟩ := mv2.ds.fresh np2
  refine ⟨m, ag, k + 1, p2, _, rfl, mv2.ds.up f3 f4, by omega, f3, f4, up_same, by show 0 < 5; decide, by show 5 < 2 ^ 60; decide, fun far hfar h3 mv3 => ?_⟩
  have far1 : okV far = true ∧ wholeQ (.int 0) (.int 60) far = false := by
    simp only [List.mem_cons, List.not_mem_nil, or_false] at hfar
    rcases hfar with rfl | rfl | rfl | rfl | rfl <;> exact ⟨rfl, rfl⟩
  refine ⟨sz2 _ _, ?_⟩
  simp only [s_tupG, s_consG, s_name, s_nilG, List.set_cons_succ, List.set_cons_zero]
  refine ⟨rfl, trivial, kk odd far h3 odd1.1 odd1.2 far1.1 far1.2 ?_⟩
  have a1 : Mv h h2 m ag (k + 1) := ⟨mv2.ds, fun b o x1 x2 e => mv2.kp b o x1 x2 (up_keep e np1)⟩
  exact ⟨mv3.ds, fun b o x1 x2 e => mv3.kp b o x1 x2 (up_keep (a1.kp b o x1 x2 e) np2)⟩
def four : List PV := [.tup [.non, .str "form"], .tup [netP 49 0 [], .str "nodes"], .tup [netP 2 3 [], .str "ports"], .tup [netP 2 1 [(0, 1, 0)], .int 0]]
theorem rr2_read {D : EndQ} {s1 s2 s3 s4 s5 s6 s7 s8 s9 : Option PV} (kk : ∀ p, h p = none → D.nx [s1, s2, some (.ref p), s4, s5, s6, s7, s8, s9] (up h p (.lst four))) : rr2 c D [s1, s2, s3, s4, s5, s6, s7, s8, s9] h := by
  unfold rr2
  simp only [s_asg, s_tup, s_cons, s_lst, s_c, s_nil, s_name, List.set_cons_succ, List.set_cons_zero]
  refine ⟨sz2 _ _, Nat.zero_le _, sz3 _ _ _, sz2 _ _, Nat.zero_le _, sz3 _ _ _, sz2 _ _, sz2 _ _, sz3 _ _ _, by show 1 ≤ sizeLine; decide, sz3 _ _ _, sz2 _ _, by show 4 ≤ sizeLine; decide, fun p np => ?_⟩
  exact kk p np
theorem rr3_read {m ag p4 : Addr} {k : Nat} {D : EndQ} {s2 s4 s5 s6 s7 s8 s9 : Option PV} (ds : DS h m ag k) (hk : k < 2 ^ 60) (n1 : p4 ≠ m) (n2 : p4 ≠ ag) (e : h p4 = some (.lst four))
    (kk : ∀ bad place h', faultOf bad place → okV place = true → Mv h h' m ag (k + 1) → D.nx [some (.ref m), s2, some (.ref p4), some place, s5, s6, some bad, s8, s9] h') : rr3 c D [some (.ref m), s2, some (.ref p4), s4, s5, s6, s7, s8, s9] h := by
  unfold rr3
  simp only [s_asg, s_cons, s_fc, s_var, s_nil, List.getElem?_cons_zero, List.getElem?_cons_succ]
  refine ⟨_, rfl, _, rfl, m, ag, k, p4, _, rfl, ds, hk, n1, n2, e, by show 0 < 4; decide, by show 4 < 2 ^ 60; decide, fun bp hbp h5 mv5 => ?_⟩
  have hb : ∃ bad place, bp = .tup [bad, place] ∧ faultOf bad place ∧ okV place = true := by
    simp only [four, List.mem_cons, List.not_mem_nil, or_false] at hbp
    rcases hbp with rfl | rfl | rfl | rfl
    · exact ⟨_, _, rfl, .inl ⟨rfl, rfl⟩, by decide +kernel⟩
    · exact ⟨_, _, rfl, .inr (.inl ⟨49, 0, [], rfl, by decide, rfl⟩), by decide +kernel⟩
    · exact ⟨_, _, rfl, .inr (.inr (.inl ⟨2, 3, [], rfl, by decide, by decide, rfl⟩)), by decide +kernel⟩
    · exact ⟨_, _, rfl, .inr (.inr (.inr ⟨2, 1, (0, 1, 0), rfl, by decide, by decide, by decide, by show (0 : Rat) ≤ 0; exact Rat.le_refl, rfl⟩)), rfl⟩
  obtain ⟨bad, place, rfl, fo, okp⟩ := hb
  simp only [s_tupG, s_consG, s_name, s_nilG, List.set_cons_succ, List.set_cons_zero]
  exact ⟨rfl, trivial, kk bad place h5 fo okp mv5⟩
def tolds (place odd far : PV) : List (Str × PV) := [(("net" : Str), place), (("net" : Str), place), (("nodes" : Str), odd), (("number" : Str), far), (("nodes" : Str), odd)]
theorem rr4_read {n p : Nat} {ws : List W3} {D : EndQ} {place odd far bad : PV} {s1 s3 s4 s5 s6 : Option PV} (gn : GoodNet n p ws) (n0 : 0 < n) (fo : faultOf bad place) (o1 : okV odd = true) (o2 : wholeQ (.int 0) (.int ((n : Int) - 1)) odd = false) (f1 : okV far = true) (f2 : wholeQ (.int 0) (.int 60) far = false)
    (kk : ∀ (A : List Addr) (told : Addr) h', A.length = (tolds place odd far ++ [(("nodes" : Str), PV.int 0)]).length → (∀ (i : Nat) (a : Addr) (v : Str × PV), A[i]? = some a → (tolds place odd far ++ [(("nodes" : Str), PV.int 0)])[i]? = some v → h' a = some (.lst [.str v.1, v.2])) → h' told = some (.lst (A.map .ref)) → Sub h h' → D.nx [s1, some (netP n p ws), s3, s4, some (.ref told), s6, some bad, some far, some odd] h') :
    rr4 c D [s1, some (netP n p ws), s3, s4, s5, s6, some bad, some far, some odd] h := by
  unfold rr4
  simp only [s_asg, s_lst]
  have L : Lays [s1, some (netP n p ws), s3, s4, s5, s6, some bad, some far, some odd] (tolds place odd far ++ [(("nodes" : Str), PV.int 0)]) (consQ (lamQ (fun W => fcQ (sp_node_weights c) 0 W (consQ (varQ 6) nilQ)) (heardE heardL c)) (consQ (lamQ (fun W => fcQ (sp_chances_after c) 0 W (consQ (varQ 6) (consQ (varQ 8) (consQ (varQ 7) nilQ)))) (heardE heardL c)) (consQ (lamQ (fun W => fcQ (sp_chances_after c) 0 W (consQ (varQ 1) (consQ (varQ 8) (consQ (varQ 7) nilQ)))) (heardE heardL c)) (consQ (lamQ (fun W => fcQ (sp_chances_after c) 0 W (consQ (varQ 1) (consQ (cQ (.int 0)) (consQ (varQ 7) nilQ)))) (heardE heardL c)) (consQ (lamQ (fun W => fcQ (sp_step_chances c) 0 W (consQ (varQ 1) (consQ (varQ 8) nilQ))) (heardE heardL c)) (consQ (lamQ (fun W => fcQ (sp_step_chances c) 0 W (consQ (tupQ (consQ (cQ (.int 0)) (consQ (cQ (.int 0)) (consQ (tupQ nilQ) nilQ)))) (consQ (cQ (.int 0)) nilQ))) (heardE heardL c)) nilQ)))))) := by
    refine lays_cons (fun h K k => lam_refused (cn := "BadNet") (g := "place") (tag := "net") (by decide) (fun W w => ?_) k) ?_
    · exact ⟨bad, rfl, bad, rfl, .inr ⟨place, fo, w⟩⟩
    refine lays_cons (fun h K k => lam_refused (cn := "BadNet") (g := "place") (tag := "net") (by decide) (fun W w => ?_) k) ?_
    · exact ⟨bad, rfl, odd, rfl, far, rfl, _, _, _, rfl, noRef_okV o1, noRef_okV f1, .inr (.inl ⟨place, fo, w⟩)⟩
    refine lays_cons (fun h K k => lam_refused (cn := "BadNodes") (g := "value") (tag := "nodes") (by decide) (fun W w => ?_) k) ?_
    · exact ⟨_, rfl, odd, rfl, far, rfl, _, _, _, rfl, noRef_okV o1, noRef_okV f1, .inr (.inr (.inl ⟨n, p, ws, rfl, gn, o2, w⟩))⟩
    refine lays_cons (fun h K k => lam_refused (cn := "BadNumber") (g := "value") (tag := "number") (by decide) (fun W w => ?_) k) ?_
    · exact ⟨_, rfl, far, rfl, _, _, _, rfl, rfl, noRef_okV f1, .inr (.inr (.inr ⟨n, p, ws, rfl, gn, whole_node n0, f2, w⟩))⟩
    refine lays_cons (fun h K k => lam_refused (cn := "BadNodes") (g := "value") (tag := "nodes") (by decide) (fun W w => ?_) k) ?_
    · exact ⟨_, rfl, odd, rfl, _, _, rfl, _, _, _, rfl, noRef_okV o1, rfl, .inr (.inr (.inl ⟨n, p, ws, rfl, gn, o2, w⟩))⟩
    refine lays_cons (fun h K k => lam_refused (cn := "BadNodes") (g := "value") (tag := "nodes") (by decide) (fun W w => ?_) k) lays_nil
    · exact ⟨Nat.zero_le _, sz3 _ _ _, _, _, rfl, _, _, _, rfl, rfl, rfl, .inr (.inr (.inl ⟨0, 0, [], rfl, ⟨by decide, by decide, by decide, by decide, (fun w hw => by cases hw), .nil⟩, rfl, w⟩))⟩
  refine L h _ fun A h' hl hA sb => ⟨small_size (by simp; simp [tolds] at hl; omega), fun told nt => ?_⟩
  exact kk A told _ hl (fun i a v ea ev => up_keep (hA i a v ea ev) nt) up_same (sb.trans (Sub.up nt))
theorem rr5_read {D : EndQ} {place odd far : PV} {s1 s2 s3 s5 s6 s7 : Option PV}
    (kk : ∀ (B : List Addr) (due : Addr) h', B.length = (tolds place odd far).length → (∀ (i : Nat) (a : Addr) (v : Str × PV), B[i]? = some a → (tolds place odd far)[i]? = some v → h' a = some (.lst [.str v.1, v.2])) → h' due = some (.lst (B.map .ref)) → Sub h h' → D.nx [s1, s2, s3, some place, s5, some (.ref due), s7, some far, some odd] h') :
    rr5 c D [s1, s2, s3, some place, s5, s6, s7, some far, some odd] h := by
  unfold rr5
  simp only [s_asg, s_lst (r := consQ _ (consQ _ (consQ _ (consQ _ (consQ _ nilQ)))))]
  have L : Lays [s1, s2, s3, some place, s5, s6, s7, some far, some odd] (tolds place odd far) (consQ (lstQ (consQ (cQ (.str "net")) (consQ (varQ 3) nilQ))) (consQ (lstQ (consQ (cQ (.str "net")) (consQ (varQ 3) nilQ))) (consQ (lstQ (consQ (cQ (.str "nodes")) (consQ (varQ 8) nilQ))) (consQ (lstQ (consQ (cQ (.str "number")) (consQ (varQ 7) nilQ))) (consQ (lstQ (consQ (cQ (.str "nodes")) (consQ (varQ 8) nilQ))) nilQ))))) :=
    lays_cons (two_ht rfl) (lays_cons (two_ht rfl) (lays_cons (two_ht rfl) (lays_cons (two_ht rfl) (lays_cons (two_ht rfl) lays_nil))))
  refine L h _ fun B h' hl hB sb => ⟨small_size (by simp; simp [tolds] at hl; omega), fun due nd => ?_⟩
  exact kk B due _ hl (fun i a v ea ev => up_keep (hB i a v ea ev) nd) up_same (sb.trans (Sub.up nd))
theorem Mv.sub {h h1 h2 : Hq} {m ag : Addr} {k : Nat} (v : Mv h h1 m ag k) (s : Sub h1 h2) : Mv h h2 m ag k := by
  obtain ⟨cs, gs, z, a, b, r⟩ := v.ds
  exact ⟨⟨cs, gs, z, s _ _ a, s _ _ b, r⟩, fun b o x1 x2 e => s _ _ (v.kp b o x1 x2 e)⟩
theorem sh_net : SeqAt.shaped (.str "net") = true := by decide +kernel
theorem sh_nodes : SeqAt.shaped (.str "nodes") = true := by decide +kernel
theorem sh_number : SeqAt.shaped (.str "number") = true := by decide +kernel
theorem spec_law_refused_right (hsp : sp_law_refused_right c xs h Q E) : rd_law_refused_right c E (fin Q) (startQ ["m", "net", "some", "place", "told", "due", "bad", "far", "odd"] xs) h := by
  obtain ⟨m, ag, k, n, p, ws, rfl, ds, hk, n0, gn, sz, q⟩ := hsp
  rw [rr_eq]
  show rr1 c _ [some (.ref m), some (netP n p ws), none, none, none, none, none, none, none] h
  refine rr1_read ds (by omega) fun odd far h3 o1 o2 f1 f2 mv3 => ?_
  show rr2 c _ _ h3
  refine rr2_read fun p4 np4 => ?_
  obtain ⟨g1, g2⟩ := mv3.ds.fresh np4
  show rr3 c _ _ _
  refine rr3_read (mv3.ds.up g1 g2) (by omega) g1 g2 up_same fun bad place h5 fo okp mv5 => ?_
  have mvA : Mv h h5 m ag (k + 3) := ⟨mv5.ds, fun b o x1 x2 e => mv5.kp b o x1 x2 (up_keep (mv3.kp b o x1 x2 e) np4)⟩
  show rr4 c _ _ _
  refine rr4_read gn n0 fo o1 o2 f1 f2 fun A told h6 hlA hA ht sb6 => ?_
  show rr5 c _ _ _
  refine rr5_read fun B due h7 hlB hB hd sb7 => ?_
  refine rr6_read (V := tolds place odd far) rfl rfl (sb7 _ _ ht) hd hlA hlB (by show 5 < 100; decide) (fun i a v ea ev => sb7 _ _ (hA i a v ea ev)) hB (fun v hv => ?_) fun h8 sb8 => q _ (mvA.sub (sb6.trans (sb7.trans sb8)))
  simp only [tolds, List.mem_cons, List.not_mem_nil, or_false] at hv
  rcases hv with rfl | rfl | rfl | rfl | rfl
  · exact ⟨sh_net, okp⟩
  · exact ⟨sh_net, okp⟩
  · exact ⟨sh_nodes, o1⟩
  · exact ⟨sh_number, f1⟩
  · exact ⟨sh_nodes, o1⟩
end L3

/-! L5p: the law. -/
namespace L3
open PySem PySem.Spec PyProof.Rows L2 L4
variable {c : Str → Addr} {xs : List PV} {h : Hq} {Q : VQ} {E : XQ}
def ll1 (c : Str → Addr) : SQ := (asgS (fcQ (sp_law_begun c) 0 noX (consQ (varQ 0) nilQ)) (nameG 1))
def ll2 (c : Str → Addr) : SQ := (forS (rg1I (cQ (.int 4))) (nameG 2) (seqS (asgS (fcQ (sp_law_any_net c) 0 noX (consQ (varQ 1) nilQ)) (nameG 3)) (ifS (notT (bQ (fcQ (sp_law_right c) 0 noX (consQ (varQ 1) (consQ (varQ 3) nilQ))))) (retS (cQ (.bl false))) nextS)))
def ll3 (c : Str → Addr) : SQ := (ifS (andT (bQ (opQ (eqDQ id) (fcQ (sp_law_draw c) 0 noX (consQ (varQ 1) (consQ (cQ (.int 3)) nilQ))) (cQ (.int 0)))) (notT (bQ (fcQ (sp_law_right c) 0 noX (consQ (varQ 1) (consQ (fcQ (sp_law_great_net c) 0 noX (consQ (varQ 1) nilQ)) nilQ)))))) (retS (cQ (.bl false))) nextS)
def ll4 (c : Str → Addr) : SQ := (asgS (tupQ (consQ (cQ (.int 2)) (consQ (fcQ (sp_law_draw c) 0 noX (consQ (varQ 1) (consQ (cQ (.int 3)) nilQ))) (consQ (tupQ (consQ (tupQ (consQ (cQ (.int 0)) (consQ (cQ (.int 1)) (consQ (fcQ (sp_law_strength c) 0 noX (consQ (varQ 1) nilQ)) nilQ)))) nilQ)) nilQ)))) (nameG 4))
def ll5 (c : Str → Addr) : SQ := (ifS (notT (bQ (fcQ (sp_law_like c 8) 0 noX (consQ (fcQ (sp_chances_after c) 0 noX (consQ (varQ 4) (consQ (cQ (.int 0)) (consQ (opQ (I20 fun i j => .int (i - j)) (cQ (.int 60)) (opQ (I2 CMulW fun i j => .int (i * j)) (fcQ (sp_law_draw c) 0 noX (consQ (varQ 1) (consQ (cQ (.int 2)) nilQ))) (cQ (.int 2)))) nilQ)))) (consQ (tupQ (consQ (tupQ (consQ (cQ (.int 1)) (consQ (cQ (.int 1)) nilQ))) (consQ (tupQ (consQ (cQ (.int 0)) (consQ (cQ (.int 1)) nilQ))) nilQ))) nilQ))))) (retS (cQ (.bl false))) nextS)
def ll6 (c : Str → Addr) : SQ := (retS (andV (fcQ (sp_law_like c 8) 0 noX (consQ (fcQ (sp_node_weights c) 0 noX (consQ (tupQ (consQ (cQ (.int 0)) (consQ (cQ (.int 0)) (consQ (tupQ nilQ) nilQ)))) nilQ)) (consQ (tupQ nilQ) nilQ))) (fcQ (sp_law_refused_right c) 0 noX (consQ (varQ 1) (consQ (varQ 3) nilQ)))))
theorem ll_eq : rd_law c E = (seqS (ll1 c) (seqS (ll2 c) (seqS (ll3 c) (seqS (ll4 c) (seqS (ll5 c) (ll6 c)))))) := rfl
theorem ll2_read {m ag : Addr} {D : EndQ} {x : PV} {h0 : Hq} {s2 s3 s4 : Option PV} {k : Nat} (ds : DS h m ag k) (hk : k ≤ 10)
    (kk : ∀ n p ws h' s2, 0 < n → n ≤ 6 → GoodNet n p ws → SzNet ws → DS h' m ag (k + 9000) → D.nx [some x, some (.ref m), s2, some (netP n p ws), s4] h') : ll2 c D [some x, some (.ref m), s2, s3, s4] h := by
  unfold ll2
  simp only [s_for, s_rg1, s_c]
  refine ⟨4, rfl, by decide, ?_⟩
  refine for_k (fun i s hh => ∃ s2 s3, s = [some x, some (.ref m), s2, s3, s4] ∧ DS hh m ag (k + 2100 * i) ∧ (0 < i → ∃ n p ws, s3 = some (netP n p ws) ∧ 0 < n ∧ n ≤ 6 ∧ GoodNet n p ws ∧ SzNet ws)) ⟨_, _, rfl, ds, fun z => absurd z (by decide)⟩ (fun _ _ _ _ => trivial) ?_ ?_
  · rintro i y hy s hh K ⟨s2, s3, rfl, ds, _⟩ kk2
    have hi : i < 4 := by
      have := (List.getElem?_eq_some_iff.mp hy).1
      rwa [rg_len] at this
    simp only [s_name, s_seq, s_asg, s_fc, s_cons, s_var, s_nil, s_ifS, s_notT, s_b, List.set_cons_succ, List.set_cons_zero, List.getElem?_cons_zero, List.getElem?_cons_succ]
    refine ⟨_, rfl, m, ag, _, rfl, ds, by omega, fun n p ws h2 n0 n6 gn sz l9 mv2 => ?_⟩
    obtain ⟨D, hD, wf⟩ := den_any gn sz n6 l9
    refine ⟨_, rfl, _, rfl, m, ag, _, n, p, ws, D, rfl, mv2.ds, by omega, n0, gn, sz, hD, wf, fun h3 mv3 => ⟨true, rfl, ?_⟩⟩
    rw [if_neg (by decide)]
    exact kk2 _ _ ⟨_, _, rfl, mv3.ds.mono (by omega), fun _ => ⟨n, p, ws, rfl, n0, n6, gn, sz⟩⟩
  · rintro s hh ⟨s2, s3, rfl, ds, hn⟩
    obtain ⟨n, p, ws, rfl, n0, n6, gn, sz⟩ := hn (by decide)
    refine kk n p ws hh s2 n0 n6 gn sz (ds.mono ?_)
    rw [rg_len]
    show k + 2100 * 4 ≤ k + 9000
    omega
theorem ll3_read {m ag : Addr} {D : EndQ} {x : PV} {s2 s3 s4 : Option PV} {k : Nat} (ds : DS h m ag k) (hk : k ≤ 10000)
    (kk : ∀ h', DS h' m ag (k + 9000) → D.nx [some x, some (.ref m), s2, s3, s4] h') : ll3 c D [some x, some (.ref m), s2, s3, s4] h := by
  unfold ll3
  simp only [s_ifS, s_andT, s_notT, s_b, s_op, s_fc, s_cons, s_var, s_nil, s_c, List.getElem?_cons_zero, List.getElem?_cons_succ]
  refine ⟨_, rfl, m, ag, k, _, rfl, ds, by omega, by omega, by omega, fun i h1 hi mv1 => ?_⟩
  simp only [s_eqI]
  refine ⟨_, rfl, ?_⟩
  by_cases h0 : id (((i : Nat) : Int) == 0) = true
  · rw [if_pos h0]
    refine ⟨_, rfl, _, rfl, m, ag, k + 1, rfl, mv1.ds, by omega, fun n p ws h2 n0 n12 gn sz l17 mv2 => ?_⟩
    obtain ⟨D, hD, wf⟩ := den_great gn sz n12 l17
    have sz' : SzNet ws := fun w hw => let ⟨a, b⟩ := sz w hw; ⟨by omega, by omega⟩
    refine ⟨m, ag, _, n, p, ws, D, rfl, mv2.ds, by omega, n0, gn, sz', hD, wf, fun h3 mv3 => ⟨true, rfl, ?_⟩⟩
    rw [if_neg (by decide)]
    exact kk _ (mv3.ds.mono (by omega))
  · rw [if_neg h0, if_neg (by decide)]
    exact kk _ (mv1.ds.mono (by omega))
def pairW (s : Rat) : List W3 := [(0, 1, s)]
theorem pair_good {p : Nat} {s : Rat} (hp : p ≤ 2) (so : StrOk s) : GoodNet 2 p (pairW s) ∧ SzNet (pairW s) := by
  refine ⟨⟨by decide, hp, by omega, by show 1 ≤ 40; decide, fun w hw => ?_, by simp [pairW]⟩, fun w hw => ?_⟩
  · rw [List.mem_singleton.mp hw]
    exact ⟨by show 0 < 1; decide, by show 1 < 2; decide, so.1⟩
  · rw [List.mem_singleton.mp hw]
    exact so.2
theorem ll4_read {m ag : Addr} {D : EndQ} {x : PV} {s2 s3 s4 : Option PV} {k : Nat} (ds : DS h m ag k) (hk : k ≤ 100000)
    (kk : ∀ p s h', p ≤ 2 → StrOk s → DS h' m ag (k + 4) → D.nx [some x, some (.ref m), s2, s3, some (netP 2 p (pairW s))] h') : ll4 c D [some x, some (.ref m), s2, s3, s4] h := by
  unfold ll4
  simp only [s_asg, s_tup, s_fc, s_cons, s_var, s_nil, s_c, s_name, List.getElem?_cons_zero, List.getElem?_cons_succ, List.set_cons_succ, List.set_cons_zero]
  refine ⟨_, rfl, m, ag, k, _, rfl, ds, by omega, by decide, by decide, fun p h1 hp mv1 => ?_⟩
  refine ⟨_, rfl, m, ag, k + 1, rfl, mv1.ds, by omega, fun s h2 so mv2 => ?_⟩
  refine ⟨sz3 _ _ _, by show 1 ≤ sizeLine; decide, sz3 _ _ _, ?_⟩
  exact kk p s h2 (by omega) so (mv2.ds.mono (by omega))
theorem pair_fits : WalkFits 1 60 := by
  refine ⟨?_, ?_⟩
  · rw [Nat.one_pow]
    exact Nat.one_lt_pow (by decide) (by decide)
  · rw [Nat.one_pow, Nat.one_mul]
    exact Nat.pow_lt_pow_right (by decide) (by decide)
theorem one_fits {k : Nat} : WalkFits 1 k := by
  have := pair_fits
  unfold WalkFits at *
  rw [Nat.one_pow] at *
  exact this
theorem ll5_read {m ag : Addr} {D : EndQ} {x : PV} {s2 s3 : Option PV} {k p : Nat} {s : Rat} (ds : DS h m ag k) (hk : k ≤ 100000) (hp : p ≤ 2) (so : StrOk s)
    (kk : ∀ h', DS h' m ag (k + 1) → D.nx [some x, some (.ref m), s2, s3, some (netP 2 p (pairW s))] h') : ll5 c D [some x, some (.ref m), s2, s3, some (netP 2 p (pairW s))] h := by
  obtain ⟨gn, sz⟩ := pair_good hp so
  unfold ll5
  simp only [s_ifS, s_notT, s_b, s_op, s_tup, s_fc, s_cons, s_var, s_nil, s_c, List.getElem?_cons_zero, List.getElem?_cons_succ]
  refine ⟨_, rfl, _, rfl, m, ag, k, _, rfl, ds, by omega, by decide, by decide, fun i h1 hi mv1 => ?_⟩
  simp only [s_I2, s_I20]
  refine ⟨mulW (a := 10) (b := 10) (by omega) (by decide) (by decide) (by decide) (by decide), ?_⟩
  have e60 : (60 : Int) - (i : Int) * 2 = ((2 * (30 - i) : Nat) : Int) := by omega
  rw [e60]
  refine good_chances (n := 2) (a := 0) gn sz (by decide) (by omega) (pair_den so.1) one_fits ?_
  have e0 : fracs 2 (walkR (pairW s) 0 (2 * (30 - i))) = [frac 1, frac 0] := by
    obtain ⟨a, b⟩ := pair_walk so.1 (30 - i)
    show [frac (walkR [(0, 1, s)] 0 (2 * (30 - i)) 0), frac (walkR [(0, 1, s)] 0 (2 * (30 - i)) 1)] = _
    rw [a, b]
  rw [e0]
  refine ⟨sz2 _ _, sz2 _ _, sz2 _ _, ?_⟩
  refine ⟨_, _, rfl, ?_, ⟨true, rfl, ?_⟩⟩
  · show lk h1 8 (.tup [frac 1, frac 0]) (.tup [frac 1, frac 0])
    exact lk_tup (by show 2 < 2 ^ 60; decide) fun y hy => by
      simp at hy
      rcases hy with rfl | rfl
      · exact lk_frac
      · exact lk_frac
  · rw [if_neg (by decide)]
    exact kk _ mv1.ds
theorem ll6_read {m ag : Addr} {x : PV} {s2 s4 : Option PV} {k n p : Nat} {ws : List W3} (ds : DS h m ag k) (hk : k ≤ 100000) (n0 : 0 < n) (gn : GoodNet n p ws) (sz : SzNet ws) (q : ∀ h', Q (.bl true) h') : ll6 c (fin Q) [some x, some (.ref m), s2, some (netP n p ws), s4] h := by
  unfold ll6
  simp only [s_ret, s_andV, s_tup, s_fc, s_cons, s_var, s_nil, s_c, List.getElem?_cons_zero, List.getElem?_cons_succ]
  refine ⟨Nat.zero_le _, sz3 _ _ _, _, rfl, .inl ⟨0, 0, [], rfl, ⟨by decide, by decide, by decide, by decide, (fun w hw => by cases hw), .nil⟩, (fun w hw => by cases hw), ?_⟩⟩
  refine ⟨Nat.zero_le _, _, _, rfl, lk_tup (by show 0 < 2 ^ 60; decide) (fun y hy => by cases hy), true, rfl, ?_⟩
  rw [if_pos rfl]
  exact ⟨_, rfl, _, rfl, m, ag, k, n, p, ws, rfl, ds, by omega, n0, gn, sz, fun h2 mv2 => rtQ.same (q _)⟩
theorem spec_law (hsp : sp_law c xs h Q E) : rd_law c E (fin Q) (startQ ["script", "m", "turn", "net", "pair"] xs) h := by
  obtain ⟨x, ns, rfl, hx, hl, q⟩ := hsp
  rw [ll_eq]
  show ll1 c _ [some x, none, none, none, none] h
  unfold ll1
  simp only [s_asg, s_fc, s_cons, s_var, s_nil, s_name, List.getElem?_cons_zero, List.set_cons_succ, List.set_cons_zero]
  refine ⟨_, rfl, x, ns, rfl, hx, hl, fun m ag h1 ds1 _ => ?_⟩
  show ll2 c _ _ _
  refine ll2_read (h0 := h) ds1 (by decide) fun n p ws h2 s2 n0 n6 gn sz ds2 => ?_
  show ll3 c _ _ _
  refine ll3_read ds2 (by decide) fun h3 ds3 => ?_
  show ll4 c _ _ _
  refine ll4_read ds3 (by decide) fun p2 s h4 hp2 so ds4 => ?_
  show ll5 c _ _ _
  refine ll5_read ds4 (by decide) hp2 so fun h5 ds5 => ?_
  show ll6 c _ _ _
  exact ll6_read ds5 (by decide) n0 gn sz q
end L3

/-! L5q: how the parts are joined: what the top has written, the defs in reach, the end. -/
namespace L3
open PySem PySem.Spec PyProof.Rows L2

/-- a def of the top, no defaults -/
structure DK (K : PySem.W.Frag) (x : Str) (st : Stmt) : Prop where
  ex : ∃ f fd, PySem.W.nsIn K mainGlobals x = some (some (.ref f)) ∧ Fun K x x st f fd
theorem dk_mk {K : PySem.W.Frag} {x : Str} {st : Stmt} {f : Addr} {oc : Value} {od an : Option Addr} {osl : Array (Option Value)} {kV doc pm cdv ct : Value} (a : PySem.W.nsIn K mainGlobals x = some (some (.ref f)))
    (l : K.lookup f = some ⟨oc, od, .func (PySem.W.fnOf x x (defArgs st) (defBody st) (defScope st) .none kV doc pm an cdv ct), osl⟩) (c : PySem.W.codeIn K cdv x = true) (k : PySem.W.keepIn K (.ref f) = true) : DK K x st := ⟨f, _, a, fun_mk l c k⟩
/-- a def of the top, its defaults all None -/
structure DKD (K : PySem.W.Frag) (x : Str) (st : Stmt) (m : Nat) : Prop where
  ex : ∃ f fd, PySem.W.nsIn K mainGlobals x = some (some (.ref f)) ∧ FunD K x x (defArgs st) (defBody st) (defScope st) (List.replicate m .non) [] f fd
theorem vals_none : ∀ m : Nat, Vals (List.replicate m V.non) (List.replicate m Value.none)
  | 0 => .nil
  | m + 1 => .cons rfl (vals_none m)
theorem dkd_mk {K : PySem.W.Frag} {x : Str} {st : Stmt} {m : Nat} {f t : Addr} {oc oct : Value} {od an odt : Option Addr} {osl oslt : Array (Option Value)} {kV doc pm cdv ct : Value} {n : Nat} (hm : m ≠ 0) (a : PySem.W.nsIn K mainGlobals x = some (some (.ref f)))
    (l : K.lookup f = some ⟨oc, od, .func (PySem.W.fnOf x x (defArgs st) (defBody st) (defScope st) (.ref t) kV doc pm an cdv ct), osl⟩) (lt : K.lookup t = some ⟨oct, odt, .seq (List.replicate m Value.none).toArray n, oslt⟩) (c : PySem.W.codeIn K cdv x = true) (k : PySem.W.keepIn K (.ref f) = true) : DKD K x st m :=
  ⟨f, _, a, ⟨oc, od, .ref t, kV, doc, pm, an, cdv, ct, osl, rfl, l, c, .inr ⟨fun z => by cases m <;> simp_all, t, _, _, n, rfl, lt, rfl, vals_none m⟩, .inl rfl⟩, k⟩
section
variable {P : Program} {w : World} {K : PySem.W.Frag} {mg : Str → Option Value} {base : Heap} {T : TL}
theorem fnQ_mkD {x qual : Str} {params : Arguments} {body : List Stmt} {scope : Scope} {dvs : List V} {f : Addr} {fd : FuncData} {N ps : List Str} {k : Nat} {sp : PQ} (Fn : FunD K x qual params body scope dvs [] f fd) (S : FnScope N ps scope) (len : ∀ xs h Q E, sp xs h Q E → xs.length = ps.length)
    (hbody : ∀ (cdv : Value) (A : Around) (outer : List Env) (s : Shared) (E0 : XK) (G : Gr) (xs : List PV) (Q : VQ) (E : XQ), G.T = T → Room k (A.deeper (envOfC qual scope s.heap.objs.size f cdv)) → sp xs G.h Q E →
      LX (cxOf (L2.CX P w) P w K mg base N qual scope f cdv A outer s G.H E0) G E →
      ∃ t, QSs (cxOf (L2.CX P w) P w K mg base N qual scope f cdv A outer s G.H E0) G body t ∧ t { nx := fun _ h' => Q .non h', rt := rtQ Q } (startQ N xs) G.h) : FnQ P w K mg base T (k + 1) f fd ps sp := by
  refine Fn.ok S (fun vs H Q E h => ?_) (fun cdv A outer s H vs Q E hr h => ?_)
  · obtain ⟨F, h, xs, Q', E', S1, r, q, _⟩ := h
    rw [← r.length]
    exact len _ _ _ _ q
  · obtain ⟨F, h, xs, Q', E', S1, r, q, k1, k2⟩ := h
    have tk : Takes (cxOf (L2.CX P w) P w K mg base N qual scope f cdv A outer s H E) (fun cls d _ H => E cls d H) := takes_of rfl rfl rfl rfl
    obtain ⟨t, ht, hq⟩ := hbody cdv A outer s E ⟨T, F, h, H⟩ xs Q' E' rfl hr q (Takes.imp tk fun c d σ H' p => k2 _ _ _ p)
    refine ⟨_, ht.pss, F, h, startQ N xs, _, .refl _ _ _, S1, esim_start r, hq, ?_⟩
    refine ⟨fun σ H' p => ?_, fun v H' p => ?_, fun σ H' p => ?_, fun σ H' p => ?_⟩
    · obtain ⟨F', h', n, a, b, c, d⟩ := p
      exact k1 _ _ ⟨F', h', .non, a, b, .non, d⟩
    · exact k1 _ _ (EPost.fz p)
    · obtain ⟨F', h', n, a, b, c, d⟩ := p
      exact d.elim
    · obtain ⟨F', h', n, a, b, c, d⟩ := p
      exact d.elim
/-- from what the top wrote to a def in reach -/
theorem fb_mk {x : Str} {st : Stmt} {k : Nat} {ps : List Str} {kl : List (List Str × List Nat)} {sp : PQ} (D : DK K x st) (G : ∀ y v, PySem.W.nsIn K mainGlobals y = some (some v) → mg y = some v) (ok : ∀ f fd, Fun K x x st f fd → FnQ P w K mg base T k f fd ps sp)
    (b : ∀ (kV doc pm : Value) (an : Option Addr) (cdv ct : Value) (us : List Value), us.length = ps.length → bindArgs (PySem.W.fnOf x x (defArgs st) (defBody st) (defScope st) .none kV doc pm an cdv ct) ⟨us, []⟩ = pure (ps.zip us))
    (kd : ∀ f fd, Fun K x x st f fd → ∀ q ∈ kl, KD K fd ps q.1 q.2) : FB P w K mg base T x k ps 0 kl sp := by
  obtain ⟨f, fd, a, F⟩ := D.ex
  refine ⟨f, fd, ⟨ok f fd F, G _ _ a, F.kp⟩, fun m hm => ?_, kd f fd F⟩
  obtain rfl := Nat.le_zero.mp hm
  exact BD.all (F.binds b)
theorem fb_mkD {x : Str} {st : Stmt} {k m : Nat} {ps : List Str} {sp : PQ} (D : DKD K x st m) (hm0 : m ≠ 0) (hmp : m ≤ ps.length) (G : ∀ y v, PySem.W.nsIn K mainGlobals y = some (some v) → mg y = some v) (ok : ∀ f fd, FunD K x x (defArgs st) (defBody st) (defScope st) (List.replicate m .non) [] f fd → FnQ P w K mg base T k f fd ps sp)
    (b : ∀ j ≤ m, ∀ (t : Addr) (kV doc pm : Value) (an : Option Addr) (cdv ct : Value) (us its : List Value), us.length = ps.length - j → its.length = m →
      ∃ k, bindArgs (PySem.W.fnOf x x (defArgs st) (defBody st) (defScope st) (.ref t) kV doc pm an cdv ct) ⟨us, []⟩ = seqItems? (.ref t) >>= k ∧ k (some its.toArray) = pure (ps.zip (us ++ its.drop (m - j)))) : FB P w K mg base T x k ps m [] sp := by
  obtain ⟨f, fd, a, F⟩ := D.ex
  refine ⟨f, fd, ⟨ok f fd F, G _ _ a, F.kp⟩, fun j hj => ?_, fun q hq => nomatch hq⟩
  obtain ⟨ds, r, bb⟩ := F.binds1 (ps := ps) (ps.length - j) (m - j) (fun z => by cases m <;> simp_all) (by rw [List.length_replicate]; omega) fun t kV doc pm an cdv ct us its h1 h2 => b j hj t kV doc pm an cdv ct us its h1 (by rw [h2, List.length_replicate])
  refine ⟨List.replicate j .non, ds, bb, ?_, fun F H => reps_none j⟩
  rw [List.drop_replicate, show m - (m - j) = j by omega] at r
  exact r
where reps_none {F : Addr → Prop} {H : Hp} : ∀ j : Nat, Reps K F H (List.replicate j .non) (List.replicate j V.non)
  | 0 => .nil
  | j + 1 => .cons .non (reps_none j)
/-- a def that calls itself: its promises level by level -/
theorem rec_all {x : Str} {st : Stmt} {ps : List Str} {sp : Nat → PQ} (D : DK K x st) (G : ∀ y v, PySem.W.nsIn K mainGlobals y = some (some v) → mg y = some v) (h0 : ∀ xs h Q E, ¬ sp 0 xs h Q E)
    (ok : ∀ j f fd, Fun K x x st f fd → FB P w K mg base T x j ps 0 [] (sp j) → FnQ P w K mg base T (j + 1) f fd ps (sp (j + 1)))
    (b : ∀ (kV doc pm : Value) (an : Option Addr) (cdv ct : Value) (us : List Value), us.length = ps.length → bindArgs (PySem.W.fnOf x x (defArgs st) (defBody st) (defScope st) .none kV doc pm an cdv ct) ⟨us, []⟩ = pure (ps.zip us)) : ∀ j, FB P w K mg base T x j ps 0 [] (sp j)
  | 0 => fb_mk D G (fun f fd F => ⟨fun vs H Q E ⟨_, _, _, _, _, _, _, z, _⟩ => (h0 _ _ _ _ z).elim, fun A outer s H args us vs Q E hr he hb hv ⟨_, _, _, _, _, _, _, z, _⟩ => (h0 _ _ _ _ z).elim⟩) b fun _ _ _ q hq => nomatch hq
  | j + 1 => fb_mk D G (fun f fd F => ok j f fd F (rec_all D G h0 ok b j)) b fun _ _ _ q hq => nomatch hq
theorem FB.up {x : Str} {k j : Nat} {ps : List Str} {dn : Nat} {kl : List (List Str × List Nat)} {sp : PQ} (D : FB P w K mg base T x j ps dn kl sp) (h : j ≤ k) : FB P w K mg base T x k ps dn kl sp := by
  obtain ⟨f, fd, d, r⟩ := D.ex
  exact ⟨f, fd, ⟨d.ok.mono h, d.g, d.kp⟩, r⟩
/-- keywords: how they bind -/
theorem kd_mk {x : Str} {st : Stmt} {f : Addr} {fd : FuncData} {ps ks : List Str} {is : List Nat} (F : Fun K x x st f fd)
    (b : ∀ (kV doc pm : Value) (an : Option Addr) (cdv ct : Value) (ws : List Value), ws.length = ks.length → bindArgs (PySem.W.fnOf x x (defArgs st) (defBody st) (defScope st) .none kV doc pm an cdv ct) ⟨[], ks.zip ws⟩ = pure (ps.zip (pick .none is ws)))
    (lt : ∀ i ∈ is, i < ks.length) : KD K fd ps ks is := by
  obtain ⟨oc, od, kV, doc, pm, an, cdv, ct, osl, rfl, lk, hcd⟩ := F.ex
  exact ⟨fun s ws hl => .of_eq (b _ _ _ _ _ _ ws hl), lt⟩
theorem hf_mk {st : Stmt} (D : DK K "_law_heard" st) (G : ∀ y v, PySem.W.nsIn K mainGlobals y = some (some v) → mg y = some v)
    (b : ∀ (kV doc pm : Value) (an : Option Addr) (cdv ct : Value) (us : List Value), us.length = (["call"] : List Str).length → bindArgs (PySem.W.fnOf "_law_heard" "_law_heard" (defArgs st) (defBody st) (defScope st) .none kV doc pm an cdv ct) ⟨us, []⟩ = pure ((["call"] : List Str).zip us)) : HF K mg st := by
  obtain ⟨f, fd, a, F⟩ := D.ex
  have bb := F.binds (ps := ["call"]) b
  obtain ⟨oc, od, kV, doc, pm, an, cdv, ct, osl, rfl, lk, hcd⟩ := F.ex
  exact ⟨f, oc, od, .none, kV, doc, pm, an, cdv, ct, osl, G _ _ a, F.kp, lk, hcd, bb⟩
theorem gc_tup2 {x : Str} {a : Addr} {i j : Int} {oc : Value} {od : Option Addr} {ti tj : Tok} {n : Nat} {osl : Array (Option Value)} (h : mg x = some (.ref a)) (l : K.lookup a = some ⟨.type "tuple", od, .seq #[.int i ti, .int j tj] n, osl⟩) : GC K mg x (.tup [.int i, .int j]) :=
  ⟨.ref a, .ref a, h, rfl, fun F H => .tup (vs := [.int i, .int j]) (.inr ⟨_, _, n, l, rfl, rfl, (by show 2 ≤ sizeLine; decide), .cons ⟨ti, rfl⟩ (.cons ⟨tj, rfl⟩ .nil)⟩) (.cons (.int i) (.cons (.int j) .nil))⟩
end

/-- no list stands in the written part -/
def noLists (K : PySem.W.Frag) : Bool := K.all fun p => match p.2.cls with
  | .type t => !(t == "list")
  | _ => true
theorem lookup_mem {α : Type} {a : Addr} {o : α} : ∀ {l : List (Addr × α)}, l.lookup a = some o → ∃ p ∈ l, p.2 = o
  | [], e => nomatch e
  | (b, u) :: l, e => by
    unfold List.lookup at e
    split at e
    · cases e
      exact ⟨_, List.mem_cons_self, rfl⟩
    · obtain ⟨p, hp, q⟩ := lookup_mem e
      exact ⟨p, List.mem_cons_of_mem _ hp, q⟩
theorem noLists.no {K : PySem.W.Frag} (n : noLists K = true) {a : Addr} {o : Obj} (l : K.lookup a = some o) (c : o.cls = .type "list") : False := by
  obtain ⟨p, hp, q⟩ := lookup_mem l
  have z := List.all_eq_true.mp n p hp
  rw [q, c] at z
  cases z
theorem reps_ints {K : PySem.W.Frag} {F : Addr → Prop} {H : Hp} : ∀ ns : List Int, Reps K F H (ns.map PV.int) (ns.map V.int)
  | [] => .nil
  | n :: ns => .cons (.int n) (reps_ints ns)
/-- the start: the script is a list that nobody changes -/
theorem lsp_start {K : PySem.W.Frag} {Pt : Addr} {q : Str} {sp : PQ} {H : Hp} {a : Addr} {ns : List Int} (n : noLists K = true) (tb : H Pt = some (.tbl #[])) (S : SqL K H a (ns.map V.int)) (hq : ∀ x h Q E, lstOf h x = some (ns.map .int) → (∀ h', Q (.bl true) h') → sp [x] h Q E) :
    lSp K [(Pt, q)] sp [.ref a] H (fun v _ => v = .bl true) fun _ _ _ => False := by
  rcases S with S | ⟨o, its, m, l, c, _⟩
  · have key : ∃ o, H a = some o ∧ isT o = false := by
      rcases S with S | ⟨o, S⟩
      · exact ⟨_, S, rfl⟩
      · exact ⟨_, S, rfl⟩
    refine ⟨fun b => b = a, fun _ => none, [.fl (ns.map .int)], fun v _ => v = .bl true, noX, ⟨(fun b o e => nomatch e), (fun b e => by rw [e]; exact key), fun p hp => ?_⟩, .cons (.fl ⟨rfl, S⟩ (reps_ints ns)) .nil, hq _ _ _ _ rfl fun h' => rfl, fun v H' p => ?_, fun c d H' p => ?_⟩
    · rw [List.mem_singleton.mp hp]
      exact LamX.TabS.nil tb
    · obtain ⟨F', h', x, a, b, r, e⟩ := p
      cases e
      cases r
      rfl
    · obtain ⟨_, _, _, _, _, _, z⟩ := p
      exact z
  · exact (noLists.no n l c).elim
end L3
namespace L3
open PySem PySem.Spec PyProof.Rows L2
open PySem.W PySem.HandSPX PySem.ExS in
theorem xtxt_mk {prog : Program} {K : PySem.W.Frag} {mg : Str → Option Value} {h : Heap} {x f : Str} {C fI : Addr} (X : K.In h) (G : h.Ns mainGlobals mg)
    {nm q : Str} {N : Addr} {bs bm : List Value} {sn : List Str} {sub : List Value} {ab : Bool} {col : Option Bool} {dd : Option Addr} {k0 k1 k2 k3 k5 : Option Value}
    {txt : Str} {oc : Value} {od : Option Addr} {doc pm : Value} {an : Option Addr} {cda : Addr} {ct : Value} {osl : Array (Option Value)} {cc : Addr} {qual : Str} {p1 p2 a1 a2 a3 a4 a5 a6 q1 q2 q3 q4 : Pos}
    {cl : Value} {cld : Option Addr} {csl : Array (Option Value)} {ccl : Value} {cdd : Option Addr} {vs : Array Value} {ccs : Array (Option Value)} {file : Str} {tf : Tok}
    (aC : nsIn K mainGlobals x = some (some (.ref C))) (xL : K.lookup C = some (excClassObj nm q C N bs bm true sn sub ab col dd k0 k1 k2 k3 k5 "ValueError.__new__")) (hbm : refsVE bm = true)
    (sa : findIn K (.ref C) "__setattr__" = some (some (.builtin "object.__setattr__"))) (ga : findIn K (.ref C) "__getattribute__" = some (some (.builtin "BaseException.__getattribute__"))) (gg : findIn K (.ref C) "__getattr__" = some none) (noN : findIn K (.ref C) f = some none)
    (iC : findIn K (.ref C) "__init__" = some (some (.ref fI))) (tC : typeIn K (.ref fI) = some (.type "function")) (kC : keepIn K (.ref C) = true) (exC : subIn K (.ref C) (.type "BaseException") = some true) (tyC : typeIn K (.ref C) = some (.type "type")) (hdC : hasDictIn K C = true)
    (sup : ks_superIn K C C "__init__" = some (some (.builtin "ValueError.__init__"))) (subB : subIn K (.ref C) (.type "ValueError") = some true) (mroC : mroIn K C (.ref C) = some true) (noTP : nsIn K cStatics "thirdparty.any" = some none) (noS : nsIn K mainGlobals "super" = some none)
    (top : (prog.main.scope.names.lookup ("super" : Str)).isSome = false)
    (l : K.lookup fI = some ⟨oc, od, .func (ksFn "__init__" qual (iA f p1 p2) (iB f txt a1 a2 a3 a4 a5 a6 q1 q2 q3 q4) (iS f) .none .none doc pm an (.ref cda) ct cc), osl⟩) (cd : codeIn K (.ref cda) qual = true)
    (ev : ∀ env : Env, ∃ pl : Sem Bool, eval (.Call (.Attribute (.Call (.Name "super" a1) [] [] a2) "__init__" a3) [.Constant (.str txt) 0 a4] [] a5) env = (do
      let ov ← attributeBase (.Call (.Name "super" a1) [] [] a2) "__init__" env (eval (.Call (.Name "super" a1) [] [] a2) env)
      standAt a3.atName
      let (f, first) ← holding [ov] (getMethod ov "__init__" pl)
      callWith a5 f first (backTo a5 (starEach [.Constant (.str txt) 0 a4] env)) []))
    (cell : K.lookup cc = some ⟨cl, cld, .cell (some (.ref C)), csl⟩) (code : K.lookup cda = some ⟨ccl, cdd, .fields vs, ccs⟩) (hvs : vs[2]? = some (.str file tf)) (hfile : ((prog.main.file : Str) == file) = true) : XTxt prog K mg x f C fI :=
  { gC := PySem.W.mg_of X G aC, cls := ⟨nm, q, N, bs, bm, sn, sub, ab, col, dd, k0, k1, k2, k3, k5, xL, hbm⟩, sa := sa, ga := ga, gg := gg, noN := noN, iC := iC, tC := tC, kC := kC, exC := exC, tyC := tyC, hdC := hdC, sup := sup, subB := subB, mroC := mroC, noTP := noTP, noS := noS, hS := PySem.W.mg_none_of X G noS, top := top,
    fn := ⟨txt, oc, od, doc, pm, an, cda, ct, osl, cc, qual, p1, p2, a1, a2, a3, a4, a5, a6, q1, q2, q3, q4, l, cd, ev, ⟨cl, cld, csl, cell⟩, ccl, cdd, vs, ccs, file, tf, code, hvs, hfile⟩ }
theorem exm_of {K : PySem.W.Frag} {A B : Addr} {r : Bool} (h1 : PySem.W.subIn K (.ref B) (.type "BaseException") = some true) (h2 : PySem.W.isClsIn K B = true) (h3 : PySem.W.typeIn K (.ref B) = some (.type "type")) (h4 : PySem.W.subIn K (.ref A) (.ref B) = some r) : PySem.W.exmOne K (.ref A) (.ref B) = some r := by
  have e1 : (PySem.W.subIn K (.ref B) (.type "BaseException") == some true) = true := by rw [h1] <;> rfl
  have e2 : ((PySem.W.clsIn K B).isSome && PySem.W.typeIn K (.ref B) == some (.type "type")) = true := by
    have h2' : (PySem.W.clsIn K B).isSome = true := h2
    rw [h2', h3] <;> rfl
  show (if (PySem.W.subIn K (.ref B) (.type "BaseException") == some true) = true then (if ((PySem.W.clsIn K B).isSome && PySem.W.typeIn K (.ref B) == some (.type "type")) = true then PySem.W.subIn K (.ref A) (.ref B) else none) else none) = some r
  rw [if_pos e1, if_pos e2]
  exact h4
def cOf (l : List (Str × Addr)) : Str → Addr := fun s => (l.lookup s).getD 0
end L3

namespace L3
open PySem PySem.Spec PyProof.Rows L2
def top (i : Nat) : Stmt := PySem.Challenge.pw_portstell_k60_walks_step_by_step.main.body.getD i (.Pass ⟨0, 0, 0, 0⟩)
structure MF (P : Program) (K : PySem.W.Frag) (mg : Str → Option Value) (c : Str → Addr) : Prop where
  no : ∀ x ∈ (["abs", "bool", "enumerate", "int", "isinstance", "len", "list", "max", "min", "range", "sorted", "str", "tuple", "zip"] : List Str), mg x = none
  g_NONE : GC K mg "NONE" (.tup [(.int 0), (.int 1)])
  g_ONE : GC K mg "ONE" (.tup [(.int 1), (.int 1)])
  g_MOST_NODES : GC K mg "MOST_NODES" (.int 48)
  g_MOST_PORTS : GC K mg "MOST_PORTS" (.int 8)
  g_MOST_WIRES : GC K mg "MOST_WIRES" (.int 40)
  g_MOST_STEPS : GC K mg "MOST_STEPS" (.int 60)
  x_BadNet : PySem.ExS.XTxt P K mg "BadNet" "place" (c "BadNet") (c "BadNet.__init__")
  x_BadNumber : PySem.ExS.XTxt P K mg "BadNumber" "value" (c "BadNumber") (c "BadNumber.__init__")
  x_BadNodes : PySem.ExS.XTxt P K mg "BadNodes" "value" (c "BadNodes") (c "BadNodes.__init__")
  xm : ∀ a ∈ (["BadNet", "BadNumber", "BadNodes"] : List Str), ∀ b ∈ (["BadNet", "BadNumber", "BadNodes"] : List Str), PySem.W.exmOne K (.ref (c a)) (.ref (c b)) = some (decide (a = b))
variable {P : Program} {w : World} {K : PySem.W.Frag} {mg : Str → Option Value} {base : Heap} {T : TL} {c : Str → Addr}

theorem sc_law_heard : FnScope ["call", "told", "e"] ["call"] (defScope (top 55)) := ⟨rfl, rfl, rfl, by decide +kernel, rfl, by decide +kernel, by decide +kernel⟩
def heardHs (c : Str → Addr) : List (Value × HQ) := [(.ref (c "BadNet"), fun a cls x' => asgS (lstQ (consQ (cQ (.str "net")) (consQ (byQ (c "BadNet") "place" a cls x' (varQ 2)) nilQ))) (nameG 1)), (.ref (c "BadNodes"), fun a cls x' => asgS (lstQ (consQ (cQ (.str "nodes")) (consQ (byQ (c "BadNodes") "value" a cls x' (varQ 2)) nilQ))) (nameG 1)), (.ref (c "BadNumber"), fun a cls x' => asgS (lstQ (consQ (cQ (.str "number")) (consQ (byQ (c "BadNumber") "value" a cls x' (varQ 2)) nilQ))) (nameG 1))]
theorem heard_read {P : Program} {K : PySem.W.Frag} {mg : Str → Option Value} {c : Str → Addr} (M : MF P K mg c) {f : Addr} {h : Hq} {Q' : VQ} {Wd : XQ} {Qd : VQ} (hend : ∀ x h1, Qd x h1 → ∀ p, h1 p = none → Q' (.ref p) (up h1 p (.lst [.str "told", x])))
    (hendX : ∀ cl x h1, Wd cl x h1 → ∃ q ∈ heardL, cl = .ref (c q.1) ∧ ∃ y, x = some ((q.2.1 : Str), y) ∧ ∀ p, h1 p = none → Q' (.ref p) (up h1 p (.lst [.str q.2.2, y]))) :
    (seqS (asgS (lstQ (consQ (cQ (.str "none")) (consQ (cQ .non) nilQ))) (nameG 1)) (seqS (tryS K 2 3 noX (heardHs c) (fun W => asgS (lstQ (consQ (cQ (.str "told")) (consQ (actQ f h W Wd Qd) nilQ))) (nameG 1))) (retS (varQ 1)))) { nx := fun _ _ => False, rt := rtQ Q' } (startQ ["call", "told", "e"] [.ref f]) h := by
  refine ⟨sz2 _ _, fun p0 np0 => ?_⟩
  refine ⟨rfl, Sub.up np0, fun cl x h1 hw => ?_, fun x h1 hq => ⟨sz2 _ _, fun p np => ⟨.ref p, rfl, rtQ.same (hend x h1 hq p np)⟩⟩⟩
  obtain ⟨q, hq, ec, y, ex, k⟩ := hendX cl x h1 hw
  subst ec ex
  have xm := M.xm
  simp only [heardL, List.mem_cons, List.not_mem_nil, or_false] at hq
  rcases hq with rfl | rfl | rfl
  · have xm_0_0 := xm "BadNet" (by decide) "BadNet" (by decide)
    exact ⟨true, xm_0_0, fun _ a na => ⟨.ref a, rfl, rfl, rfl, _, rfl, sz2 _ _, fun p np => ⟨.ref p, rfl, rtQ.same (k p np)⟩⟩, (fun z => nomatch z)⟩
  · have xm_1_0 := xm "BadNodes" (by decide) "BadNet" (by decide)
    have xm_1_1 := xm "BadNodes" (by decide) "BadNodes" (by decide)
    exact ⟨false, xm_1_0, (fun z => nomatch z), fun _ => ⟨true, xm_1_1, fun _ a na => ⟨.ref a, rfl, rfl, rfl, _, rfl, sz2 _ _, fun p np => ⟨.ref p, rfl, rtQ.same (k p np)⟩⟩, (fun z => nomatch z)⟩⟩
  · have xm_2_0 := xm "BadNumber" (by decide) "BadNet" (by decide)
    have xm_2_1 := xm "BadNumber" (by decide) "BadNodes" (by decide)
    have xm_2_2 := xm "BadNumber" (by decide) "BadNumber" (by decide)
    exact ⟨false, xm_2_0, (fun z => nomatch z), fun _ => ⟨false, xm_2_1, (fun z => nomatch z), fun _ => ⟨true, xm_2_2, fun _ a na => ⟨.ref a, rfl, rfl, rfl, _, rfl, sz2 _ _, fun p np => ⟨.ref p, rfl, rtQ.same (k p np)⟩⟩, (fun z => nomatch z)⟩⟩⟩
theorem heard_gives {X : Cx} {T : TL} {c : Str → Addr} (M : MF X.prog X.K X.mg c) {g : Addr} {cdg : Value} {q : Str} : LamX.GivesTo X ["call", "told", "e"] "_law_heard" (defScope (top 55)) g cdg (defBody (top 55)) "call" q (heardT X.K T (heardE heardL c)) := by
  intro f c' s H Q tl act hc ⟨F, h, Q', Wd, Qd, S, kQ, htl, hend, hendX⟩
  have der : QSs (cxOf C8.CX0 X.prog X.w X.K X.mg X.base ["call", "told", "e"] "_law_heard" (defScope (top 55)) g cdg X.A X.stack s H C8.E0).nox ⟨T, F, h, H⟩ (defBody (top 55))
    (seqS (asgS (lstQ (consQ (cQ (.str "none")) (consQ (cQ .non) nilQ))) (nameG 1)) (seqS (tryS X.K 2 3 noX (heardHs c) (fun W => asgS (lstQ (consQ (cQ (.str "told")) (consQ (actQ f h W Wd Qd) nilQ))) (nameG 1))) (retS (varQ 1)))) :=
    qss_cons (qs_set (i := 1) (qe_lst (qa_cons qe_str (qa_cons qe_non qa_nil))) sc_law_heard.nd) (qss_cons (qs_tryAs (i := 2) rfl rfl sc_law_heard.nd rfl rfl LX.none
      (fun W F2 h2 H2 pn xe st lx => qss_one (qs_set (i := 1) (qe_lst (qa_cons qe_str (qa_cons (qe_act (act _ pn xe _ _ _ lx (fun _ _ _ _ p => p)) S hc st htl) qa_nil))) sc_law_heard.nd)) (.cons ⟨rfl, by decide, .inl M.x_BadNet.gC⟩ (fun a oe cls d pn F h H x' hz hf S xr => qss_one (qs_set (i := 1) (qe_lst (qa_cons qe_str (qa_cons (qe_byX M.x_BadNet hz hf S xr (qv 2)) qa_nil))) sc_law_heard.nd)) (.cons ⟨rfl, by decide, .inl M.x_BadNodes.gC⟩ (fun a oe cls d pn F h H x' hz hf S xr => qss_one (qs_set (i := 1) (qe_lst (qa_cons qe_str (qa_cons (qe_byX M.x_BadNodes hz hf S xr (qv 2)) qa_nil))) sc_law_heard.nd)) (.cons ⟨rfl, by decide, .inl M.x_BadNumber.gC⟩ (fun a oe cls d pn F h H x' hz hf S xr => qss_one (qs_set (i := 1) (qe_lst (qa_cons qe_str (qa_cons (qe_byX M.x_BadNumber hz hf S xr (qv 2)) qa_nil))) sc_law_heard.nd)) .nil)))) (qss_one (qs_ret (qv 1))))
  refine ⟨_, der.pss, F, h, startQ ["call", "told", "e"] [.ref f], { nx := fun _ _ => False, rt := rtQ Q' }, .refl _ _ _, S, esim_start (.cons (.ref f) .nil), ?_, ⟨fun σ H' ⟨_, _, _, _, _, _, z⟩ => z.elim, fun v H' p => kQ _ _ (EPost.fz p), fun σ H' ⟨_, _, _, _, _, _, z⟩ => z.elim, fun σ H' ⟨_, _, _, _, _, _, z⟩ => z.elim⟩⟩
  exact heard_read M hend hendX

theorem sc_is_whole : FnScope ["value", "least", "most"] ["value", "least", "most"] (defScope (top 6)) := ⟨rfl, rfl, rfl, by decide +kernel, rfl, by decide +kernel, by decide +kernel⟩
theorem ok_is_whole {f : Addr} {fd : FuncData} (M : MF P K mg c) (Fn : FunD K "is_whole" "is_whole" (defArgs (top 6)) (defBody (top 6)) (defScope (top 6)) (List.replicate 2 .non) [] f fd)  : FnQ P w K mg base T 1 f fd ["value", "least", "most"] (sp_is_whole c) := by
  refine fnQ_mkD Fn sc_is_whole (len_is_whole c) fun cdv A outer s E0 G xs Q E hT hr hsp lx => ?_
  subst hT
  have hu := hr.units
  have hu1 := hu_of hr
  exact ⟨rd_is_whole c E, (qss_cons (qs_if (QW.qt (qw_or (qt_not (qt_val (i_int (M.no "isinstance" (by decide)) (M.no "int" (by decide)) rfl rfl (qv 0)))) (qw_or1 (qt_val (i_bool (M.no "isinstance" (by decide)) (M.no "bool" (by decide)) rfl rfl (qv 0)))))) (qss_one (qs_ret qe_bl)) qss_nil) (qss_one (qs_ret (qe_and (qe_or (qe_isN (qv 1)) (qe_one (qe_cmp oq_ge (qv 0) (qv 1)))) (qe_one (qe_or (qe_isN (qv 2)) (qe_one (qe_cmp oq_le (qv 0) (qv 2))))))))), spec_is_whole hsp⟩

theorem sc_is_row : FnScope ["value", "length"] ["value", "length"] (defScope (top 7)) := ⟨rfl, rfl, rfl, by decide +kernel, rfl, by decide +kernel, by decide +kernel⟩
theorem ok_is_row {f : Addr} {fd : FuncData} (M : MF P K mg c) (Fn : FunD K "is_row" "is_row" (defArgs (top 7)) (defBody (top 7)) (defScope (top 7)) (List.replicate 1 .non) [] f fd)  : FnQ P w K mg base T 1 f fd ["value", "length"] (sp_is_row c) := by
  refine fnQ_mkD Fn sc_is_row (len_is_row c) fun cdv A outer s E0 G xs Q E hT hr hsp lx => ?_
  subst hT
  have hu := hr.units
  have hu1 := hu_of hr
  exact ⟨rd_is_row c E, (qss_one (qs_ret (qe_and (i_tuple (M.no "isinstance" (by decide)) (M.no "tuple" (by decide)) rfl rfl (qv 0)) (qe_one (qe_or (qe_isN (qv 1)) (qe_one (qe_cmp (oq_eqD hu) (c_len (M.no "len" (by decide)) rfl (qa_cons (qv 0) qa_nil)) (qv 1)))))))), spec_is_row hsp⟩

theorem sc_gcd : FnScope ["one", "other"] ["one", "other"] (defScope (top 8)) := ⟨rfl, rfl, rfl, by decide +kernel, rfl, by decide +kernel, by decide +kernel⟩
theorem ok_gcd {f : Addr} {fd : FuncData} (M : MF P K mg c) (Fn : Fun K "gcd" "gcd" (top 8) f fd)  : FnQ P w K mg base T 1 f fd ["one", "other"] (sp_gcd c) := by
  refine fnQ_mk Fn sc_gcd (len_gcd c) fun cdv A outer s E0 G xs Q E hT hr hsp lx => ?_
  subst hT
  have hu := hr.units
  have hu1 := hu_of hr
  exact ⟨rd_gcd c E, (qss_cons (qs_par (i := 0) (j := 1) rfl sc_gcd.nd (c_abs (M.no "abs" (by decide)) rfl (qa_cons (qv 0) qa_nil)) (c_abs (M.no "abs" (by decide)) rfl (qa_cons (qv 1) qa_nil))) (qss_cons (qs_while (passes_of rfl) (qt_cmp (oq_neD hu) (qv 1) qe_int) (qss_one (qs_par (i := 0) (j := 1) rfl sc_gcd.nd (qv 1) (qe_op oq_mod (c_int (M.no "int" (by decide)) rfl (qa_cons (qv 0) qa_nil)) (qv 1))))) (qss_one (qs_ret (qv 0))))), spec_gcd hsp⟩

theorem sc_is_fraction : FnScope ["value"] ["value"] (defScope (top 12)) := ⟨rfl, rfl, rfl, by decide +kernel, rfl, by decide +kernel, by decide +kernel⟩
theorem ok_is_fraction {f : Addr} {fd : FuncData} (M : MF P K mg c) (Fn : Fun K "is_fraction" "is_fraction" (top 12) f fd) (D_gcd : FB P w K mg base T "gcd" 1 ["one", "other"] 0 [] (sp_gcd c)) (D_is_row : FB P w K mg base T "is_row" 1 ["value", "length"] 1 [] (sp_is_row c)) (D_is_whole : FB P w K mg base T "is_whole" 1 ["value", "least", "most"] 2 [] (sp_is_whole c)) : FnQ P w K mg base T 2 f fd ["value"] (sp_is_fraction c) := by
  refine fnQ_mk Fn sc_is_fraction (len_is_fraction c) fun cdv A outer s E0 G xs Q E hT hr hsp lx => ?_
  subst hT
  have hu := hr.units
  have hu1 := hu_of hr
  exact ⟨rd_is_fraction c E, (qss_cons (qs_if (QW.qt (qw_or (qt_not (qt_val (qe_fc D_is_row 0 (by decide) (hr.mono (by decide)) rfl LX.none (qa_cons (qv 0) (qa_cons qe_int qa_nil))))) (qw_or (qt_not (qt_val (qe_fc D_is_whole 2 (by decide) (hr.mono (by decide)) rfl LX.none (qa_cons (qe_ix (qv 0) qe_int) qa_nil)))) (qw_or1 (qt_not (qt_val (qe_fc D_is_whole 1 (by decide) (hr.mono (by decide)) rfl LX.none (qa_cons (qe_ix (qv 0) qe_int) (qa_cons qe_int qa_nil))))))))) (qss_one (qs_ret qe_bl)) qss_nil) (qss_one (qs_ret (qe_cmp (oq_eqD hu) (qe_fc D_gcd 0 (by decide) (hr.mono (by decide)) rfl LX.none (qa_cons (qe_ix (qv 0) qe_int) (qa_cons (qe_ix (qv 0) qe_int) qa_nil))) qe_int)))), spec_is_fraction hsp⟩

theorem sc_ratio : FnScope ["upper", "under", "common"] ["upper", "under"] (defScope (top 13)) := ⟨rfl, rfl, rfl, by decide +kernel, rfl, by decide +kernel, by decide +kernel⟩
theorem ok_ratio {f : Addr} {fd : FuncData} (M : MF P K mg c) (Fn : Fun K "ratio" "ratio" (top 13) f fd) (D_gcd : FB P w K mg base T "gcd" 1 ["one", "other"] 0 [] (sp_gcd c)) : FnQ P w K mg base T 2 f fd ["upper", "under"] (sp_ratio c) := by
  refine fnQ_mk Fn sc_ratio (len_ratio c) fun cdv A outer s E0 G xs Q E hT hr hsp lx => ?_
  subst hT
  have hu := hr.units
  have hu1 := hu_of hr
  exact ⟨rd_ratio c E, (qss_cons (qs_if (qt_cmp oq_lt (qv 1) qe_int) (qss_one (qs_par (i := 0) (j := 1) rfl sc_ratio.nd (qe_neg (qv 0)) (qe_neg (qv 1)))) qss_nil) (qss_cons (qs_set (i := 2) (qe_fc D_gcd 0 (by decide) (hr.mono (by decide)) rfl LX.none (qa_cons (qv 0) (qa_cons (qv 1) qa_nil))) sc_ratio.nd) (qss_one (qs_ret (qe_tup (qa_cons (qe_op oq_fdiv (qv 0) (qv 2)) (qa_cons (qe_op oq_fdiv (qv 1) (qv 2)) qa_nil))))))), spec_ratio hsp⟩

theorem sc_ratio_sum : FnScope ["one", "other"] ["one", "other"] (defScope (top 14)) := ⟨rfl, rfl, rfl, by decide +kernel, rfl, by decide +kernel, by decide +kernel⟩
theorem ok_ratio_sum {f : Addr} {fd : FuncData} (M : MF P K mg c) (Fn : Fun K "ratio_sum" "ratio_sum" (top 14) f fd) (D_ratio : FB P w K mg base T "ratio" 2 ["upper", "under"] 0 [] (sp_ratio c)) : FnQ P w K mg base T 3 f fd ["one", "other"] (sp_ratio_sum c) := by
  refine fnQ_mk Fn sc_ratio_sum (len_ratio_sum c) fun cdv A outer s E0 G xs Q E hT hr hsp lx => ?_
  subst hT
  have hu := hr.units
  have hu1 := hu_of hr
  exact ⟨rd_ratio_sum c E, (qss_one (qs_ret (qe_fc D_ratio 0 (by decide) (hr.mono (by decide)) rfl LX.none (qa_cons (qe_op oq_add (qe_op oq_mul (qe_ix (qv 0) qe_int) (qe_ix (qv 1) qe_int)) (qe_op oq_mul (qe_ix (qv 1) qe_int) (qe_ix (qv 0) qe_int))) (qa_cons (qe_op oq_mul (qe_ix (qv 0) qe_int) (qe_ix (qv 1) qe_int)) qa_nil))))), spec_ratio_sum hsp⟩

theorem sc_ratio_times : FnScope ["one", "other"] ["one", "other"] (defScope (top 15)) := ⟨rfl, rfl, rfl, by decide +kernel, rfl, by decide +kernel, by decide +kernel⟩
theorem ok_ratio_times {f : Addr} {fd : FuncData} (M : MF P K mg c) (Fn : Fun K "ratio_times" "ratio_times" (top 15) f fd) (D_ratio : FB P w K mg base T "ratio" 2 ["upper", "under"] 0 [] (sp_ratio c)) : FnQ P w K mg base T 3 f fd ["one", "other"] (sp_ratio_times c) := by
  refine fnQ_mk Fn sc_ratio_times (len_ratio_times c) fun cdv A outer s E0 G xs Q E hT hr hsp lx => ?_
  subst hT
  have hu := hr.units
  have hu1 := hu_of hr
  exact ⟨rd_ratio_times c E, (qss_one (qs_ret (qe_fc D_ratio 0 (by decide) (hr.mono (by decide)) rfl LX.none (qa_cons (qe_op oq_mul (qe_ix (qv 0) qe_int) (qe_ix (qv 1) qe_int)) (qa_cons (qe_op oq_mul (qe_ix (qv 0) qe_int) (qe_ix (qv 1) qe_int)) qa_nil))))), spec_ratio_times hsp⟩

theorem sc_ratio_over : FnScope ["one", "other"] ["one", "other"] (defScope (top 16)) := ⟨rfl, rfl, rfl, by decide +kernel, rfl, by decide +kernel, by decide +kernel⟩
theorem ok_ratio_over {f : Addr} {fd : FuncData} (M : MF P K mg c) (Fn : Fun K "ratio_over" "ratio_over" (top 16) f fd) (D_ratio : FB P w K mg base T "ratio" 2 ["upper", "under"] 0 [] (sp_ratio c)) : FnQ P w K mg base T 3 f fd ["one", "other"] (sp_ratio_over c) := by
  refine fnQ_mk Fn sc_ratio_over (len_ratio_over c) fun cdv A outer s E0 G xs Q E hT hr hsp lx => ?_
  subst hT
  have hu := hr.units
  have hu1 := hu_of hr
  exact ⟨rd_ratio_over c E, (qss_one (qs_ret (qe_fc D_ratio 0 (by decide) (hr.mono (by decide)) rfl LX.none (qa_cons (qe_op oq_mul (qe_ix (qv 0) qe_int) (qe_ix (qv 1) qe_int)) (qa_cons (qe_op oq_mul (qe_ix (qv 0) qe_int) (qe_ix (qv 1) qe_int)) qa_nil))))), spec_ratio_over hsp⟩

theorem sc_ratio_total : FnScope ["fractions", "found", "one"] ["fractions"] (defScope (top 17)) := ⟨rfl, rfl, rfl, by decide +kernel, rfl, by decide +kernel, by decide +kernel⟩
theorem ok_ratio_total {f : Addr} {fd : FuncData} (M : MF P K mg c) (Fn : Fun K "ratio_total" "ratio_total" (top 17) f fd) (D_ratio_sum : FB P w K mg base T "ratio_sum" 3 ["one", "other"] 0 [] (sp_ratio_sum c)) : FnQ P w K mg base T 4 f fd ["fractions"] (sp_ratio_total c) := by
  refine fnQ_mk Fn sc_ratio_total (len_ratio_total c) fun cdv A outer s E0 G xs Q E hT hr hsp lx => ?_
  subst hT
  have hu := hr.units
  have hu1 := hu_of hr
  exact ⟨rd_ratio_total c E, (qss_cons (qs_set (i := 1) (qe_gc M.g_NONE rfl) sc_ratio_total.nd) (qss_cons (qs_for (passes_of rfl) rfl (qi_seq (qv 0)) (qg_name (i := 2) sc_ratio_total.nd) (qss_one (qs_set (i := 1) (qe_fc D_ratio_sum 0 (by decide) (hr.mono (by decide)) rfl LX.none (qa_cons (qv 1) (qa_cons (qv 2) qa_nil))) sc_ratio_total.nd))) (qss_one (qs_ret (qv 1))))), spec_ratio_total hsp⟩

theorem sc_is_wire : FnScope ["nodes", "value"] ["nodes", "value"] (defScope (top 22)) := ⟨rfl, rfl, rfl, by decide +kernel, rfl, by decide +kernel, by decide +kernel⟩
theorem ok_is_wire {f : Addr} {fd : FuncData} (M : MF P K mg c) (Fn : Fun K "is_wire" "is_wire" (top 22) f fd) (D_is_fraction : FB P w K mg base T "is_fraction" 2 ["value"] 0 [] (sp_is_fraction c)) (D_is_row : FB P w K mg base T "is_row" 1 ["value", "length"] 1 [] (sp_is_row c)) (D_is_whole : FB P w K mg base T "is_whole" 1 ["value", "least", "most"] 2 [] (sp_is_whole c)) : FnQ P w K mg base T 3 f fd ["nodes", "value"] (sp_is_wire c) := by
  refine fnQ_mk Fn sc_is_wire (len_is_wire c) fun cdv A outer s E0 G xs Q E hT hr hsp lx => ?_
  subst hT
  have hu := hr.units
  have hu1 := hu_of hr
  exact ⟨rd_is_wire c E, (qss_cons (qs_if (QW.qt (qw_or (qt_not (qt_val (qe_fc D_is_row 0 (by decide) (hr.mono (by decide)) rfl LX.none (qa_cons (qv 1) (qa_cons qe_int qa_nil))))) (qw_or (qt_not (qt_val (qe_fc D_is_whole 0 (by decide) (hr.mono (by decide)) rfl LX.none (qa_cons (qe_ix (qv 1) qe_int) (qa_cons qe_int (qa_cons (qe_op oq_sub (qv 0) qe_int) qa_nil)))))) (qw_or1 (qt_not (qt_val (qe_fc D_is_whole 0 (by decide) (hr.mono (by decide)) rfl LX.none (qa_cons (qe_ix (qv 1) qe_int) (qa_cons qe_int (qa_cons (qe_op oq_sub (qv 0) qe_int) qa_nil)))))))))) (qss_one (qs_ret qe_bl)) qss_nil) (qss_one (qs_ret (qe_and (qe_cmp oq_lt (qe_ix (qv 1) qe_int) (qe_ix (qv 1) qe_int)) (qe_and (qe_fc D_is_fraction 0 (by decide) (hr.mono (by decide)) rfl LX.none (qa_cons (qe_ix (qv 1) qe_int) qa_nil)) (qe_one (qe_cmp oq_gt (qe_ix (qe_ix (qv 1) qe_int) qe_int) qe_int))))))), spec_is_wire hsp⟩

theorem sc_net_fault : FnScope ["value", "number", "wire"] ["value"] (defScope (top 23)) := ⟨rfl, rfl, rfl, by decide +kernel, rfl, by decide +kernel, by decide +kernel⟩
theorem ok_net_fault {f : Addr} {fd : FuncData} (M : MF P K mg c) (Fn : Fun K "net_fault" "net_fault" (top 23) f fd) (D_is_wire : FB P w K mg base T "is_wire" 3 ["nodes", "value"] 0 [] (sp_is_wire c)) (D_is_whole : FB P w K mg base T "is_whole" 1 ["value", "least", "most"] 2 [] (sp_is_whole c)) (D_is_row : FB P w K mg base T "is_row" 1 ["value", "length"] 1 [] (sp_is_row c)) : FnQ P w K mg base T 4 f fd ["value"] (sp_net_fault c) := by
  refine fnQ_mk Fn sc_net_fault (len_net_fault c) fun cdv A outer s E0 G xs Q E hT hr hsp lx => ?_
  subst hT
  have hu := hr.units
  have hu1 := hu_of hr
  exact ⟨rd_net_fault c E, (qss_cons (qs_if (QW.qt (qw_or (qt_not (qt_val (qe_fc D_is_row 0 (by decide) (hr.mono (by decide)) rfl LX.none (qa_cons (qv 0) (qa_cons qe_int qa_nil))))) (qw_or1 (qt_not (qt_val (qe_fc D_is_row 1 (by decide) (hr.mono (by decide)) rfl LX.none (qa_cons (qe_ix (qv 0) qe_int) qa_nil))))))) (qss_one (qs_ret (qe_tup (qa_cons qe_str qa_nil)))) qss_nil) (qss_cons (qs_if (qt_not (qt_val (qe_fc D_is_whole 0 (by decide) (hr.mono (by decide)) rfl LX.none (qa_cons (qe_ix (qv 0) qe_int) (qa_cons qe_int (qa_cons (qe_gc M.g_MOST_NODES rfl) qa_nil)))))) (qss_one (qs_ret (qe_tup (qa_cons qe_str qa_nil)))) qss_nil) (qss_cons (qs_if (qt_not (qt_val (qe_fc D_is_whole 0 (by decide) (hr.mono (by decide)) rfl LX.none (qa_cons (qe_ix (qv 0) qe_int) (qa_cons qe_int (qa_cons (c_min (M.no "min" (by decide)) rfl rfl (qa_cons (qe_ix (qv 0) qe_int) (qa_cons (qe_gc M.g_MOST_PORTS rfl) qa_nil))) qa_nil)))))) (qss_one (qs_ret (qe_tup (qa_cons qe_str qa_nil)))) qss_nil) (qss_cons (qs_if (qt_cmp oq_gt (c_len (M.no "len" (by decide)) rfl (qa_cons (qe_ix (qv 0) qe_int) qa_nil)) (qe_gc M.g_MOST_WIRES rfl)) (qss_one (qs_ret (qe_tup (qa_cons qe_str qa_nil)))) qss_nil) (qss_cons (qs_for (passes_of rfl) rfl (qi_enum rfl (M.no "enumerate" (by decide)) (qe_ix (qv 0) qe_int)) (qg_tup rfl (qgs_cons (qg_name (i := 1) sc_net_fault.nd) (qgs_cons (qg_name (i := 2) sc_net_fault.nd) qgs_nil))) (qss_one (qs_if (QW.qt (qw_or (qt_not (qt_val (qe_fc D_is_wire 0 (by decide) (hr.mono (by decide)) rfl LX.none (qa_cons (qe_ix (qv 0) qe_int) (qa_cons (qv 2) qa_nil))))) (qw_or1 (QW.qt (qw_and (qt_cmp oq_gt (qv 1) qe_int) (qw_and1 (qt_cmp (oq_ltw hu) (qv 2) (qe_ix (qe_ix (qv 0) qe_int) (qe_op oq_sub (qv 1) qe_int))))))))) (qss_one (qs_ret (qe_tup (qa_cons (qv 1) qa_nil)))) qss_nil))) (qss_one (qs_ret (qe_tup qa_nil)))))))), spec_net_fault hsp⟩

theorem sc_need_net : FnScope ["net", "fault"] ["net"] (defScope (top 24)) := ⟨rfl, rfl, rfl, by decide +kernel, rfl, by decide +kernel, by decide +kernel⟩
theorem ok_need_net {f : Addr} {fd : FuncData} (M : MF P K mg c) (Fn : Fun K "need_net" "need_net" (top 24) f fd) (D_net_fault : FB P w K mg base T "net_fault" 4 ["value"] 0 [] (sp_net_fault c)) : FnQ P w K mg base T 5 f fd ["net"] (sp_need_net c) := by
  refine fnQ_mk Fn sc_need_net (len_need_net c) fun cdv A outer s E0 G xs Q E hT hr hsp lx => ?_
  subst hT
  have hu := hr.units
  have hu1 := hu_of hr
  exact ⟨rd_need_net c E, (qss_cons (qs_set (i := 1) (qe_fc D_net_fault 0 (by decide) (hr.mono (by decide)) rfl LX.none (qa_cons (qv 0) qa_nil)) sc_need_net.nd) (qss_cons (qs_if (qt_cmp (oq_neD hu) (qv 1) (qe_tup qa_nil)) (qss_one (qs_raise M.x_BadNet PySem.ExS.fok_place rfl hr lx (qa_cons (qe_ix (qv 1) qe_int) qa_nil) rfl)) qss_nil) (qss_one (qs_ret (qv 0))))), spec_need_net hsp⟩

theorem sc_wires_at : FnScope ["net", "found", "number", "wire", "node"] ["net"] (defScope (top 25)) := ⟨rfl, rfl, rfl, by decide +kernel, rfl, by decide +kernel, by decide +kernel⟩
theorem ok_wires_at {f : Addr} {fd : FuncData} (M : MF P K mg c) (Fn : Fun K "wires_at" "wires_at" (top 25) f fd)  : FnQ P w K mg base T 1 f fd ["net"] (sp_wires_at c) := by
  refine fnQ_mk Fn sc_wires_at (len_wires_at c) fun cdv A outer s E0 G xs Q E hT hr hsp lx => ?_
  subst hT
  have hu := hr.units
  have hu1 := hu_of hr
  exact ⟨rd_wires_at c E, (qss_cons (qs_setLc (own := [("node", 4)]) rfl sc_wires_at.nd (qi_range1 rfl (M.no "range" (by decide)) (qe_ix (qv 0) qe_int)) (blkOk_by rfl) (by decide) (fun s H C cl fp => (qg_name (i := 4) sc_wires_at.nd)) (fun s H C cl fp => qts_nil) (fun s H C cl fp => (qe_lst qa_nil))) (qss_cons (qs_for (passes_of rfl) rfl (qi_enum rfl (M.no "enumerate" (by decide)) (qe_ix (qv 0) qe_int)) (qg_tup rfl (qgs_cons (qg_name (i := 2) sc_wires_at.nd) (qgs_cons (qg_name (i := 3) sc_wires_at.nd) qgs_nil))) (qss_cons (qs_expr (qe_append (qe_ix (qv 1) (qe_ix (qv 3) qe_int)) (qv 2))) (qss_one (qs_expr (qe_append (qe_ix (qv 1) (qe_ix (qv 3) qe_int)) (qv 2)))))) (qss_one (qs_ret (qv 1))))), spec_wires_at hsp⟩

theorem sc_weights_of : FnScope ["net", "row", "number"] ["net"] (defScope (top 28)) := ⟨rfl, rfl, rfl, by decide +kernel, rfl, by decide +kernel, by decide +kernel⟩
theorem ok_weights_of {f : Addr} {fd : FuncData} (M : MF P K mg c) (Fn : Fun K "weights_of" "weights_of" (top 28) f fd) (D_wires_at : FB P w K mg base T "wires_at" 1 ["net"] 0 [] (sp_wires_at c)) (D_ratio_total : FB P w K mg base T "ratio_total" 4 ["fractions"] 0 [] (sp_ratio_total c)) : FnQ P w K mg base T 5 f fd ["net"] (sp_weights_of c) := by
  refine fnQ_mk Fn sc_weights_of (len_weights_of c) fun cdv A outer s E0 G xs Q E hT hr hsp lx => ?_
  subst hT
  have hu := hr.units
  have hu1 := hu_of hr
  exact ⟨rd_weights_of c E, (qss_one (qs_ret (qe_lc (own := [("row", 1)]) rfl sc_weights_of.nd (qi_seq (qe_fc D_wires_at 0 (by decide) (hr.mono (by decide)) rfl LX.none (qa_cons (qv 0) qa_nil))) (blkOk_by rfl) (by decide) (fun s H C cl fp => (qg_name (i := 1) sc_weights_of.nd)) (fun s H C cl fp => qts_nil) (fun s H C cl fp => (qe_fc D_ratio_total 0 (by decide) (hr.mono (by decide)) rfl LX.none (qa_cons (qe_lc (own := [("number", 2)]) rfl sc_weights_of.nd (qi_seq (qv 1)) (blkOk_by rfl) (by decide) (fun s H C cl fp => (qg_name (i := 2) sc_weights_of.nd)) (fun s H C cl fp => qts_nil) (fun s H C cl fp => (qe_ix (qe_ix (qe_ix (qv 0) qe_int) (qv 2)) qe_int))) qa_nil)))))), spec_weights_of hsp⟩

theorem sc_node_weights : FnScope ["net"] ["net"] (defScope (top 29)) := ⟨rfl, rfl, rfl, by decide +kernel, rfl, by decide +kernel, by decide +kernel⟩
theorem ok_node_weights {f : Addr} {fd : FuncData} (M : MF P K mg c) (Fn : Fun K "node_weights" "node_weights" (top 29) f fd) (D_weights_of : FB P w K mg base T "weights_of" 5 ["net"] 0 [] (sp_weights_of c)) (D_need_net : FB P w K mg base T "need_net" 5 ["net"] 0 [] (sp_need_net c)) : FnQ P w K mg base T 6 f fd ["net"] (sp_node_weights c) := by
  refine fnQ_mk Fn sc_node_weights (len_node_weights c) fun cdv A outer s E0 G xs Q E hT hr hsp lx => ?_
  subst hT
  have hu := hr.units
  have hu1 := hu_of hr
  exact ⟨rd_node_weights c E, (qss_cons (qs_expr (qe_fc D_need_net 0 (by decide) (hr.mono (by decide)) rfl lx (qa_cons (qv 0) qa_nil))) (qss_one (qs_ret (c_tuple (M.no "tuple" (by decide)) rfl (qa_cons (qe_fc D_weights_of 0 (by decide) (hr.mono (by decide)) rfl LX.none (qa_cons (qv 0) qa_nil)) qa_nil))))), spec_node_weights hsp⟩

theorem sc_need_node : FnScope ["net", "node"] ["net", "node"] (defScope (top 30)) := ⟨rfl, rfl, rfl, by decide +kernel, rfl, by decide +kernel, by decide +kernel⟩
theorem ok_need_node {f : Addr} {fd : FuncData} (M : MF P K mg c) (Fn : Fun K "need_node" "need_node" (top 30) f fd) (D_is_whole : FB P w K mg base T "is_whole" 1 ["value", "least", "most"] 2 [] (sp_is_whole c)) : FnQ P w K mg base T 2 f fd ["net", "node"] (sp_need_node c) := by
  refine fnQ_mk Fn sc_need_node (len_need_node c) fun cdv A outer s E0 G xs Q E hT hr hsp lx => ?_
  subst hT
  have hu := hr.units
  have hu1 := hu_of hr
  exact ⟨rd_need_node c E, (qss_cons (qs_if (qt_not (qt_val (qe_fc D_is_whole 0 (by decide) (hr.mono (by decide)) rfl LX.none (qa_cons (qv 1) (qa_cons qe_int (qa_cons (qe_op oq_sub (qe_ix (qv 0) qe_int) qe_int) qa_nil)))))) (qss_one (qs_raise M.x_BadNodes PySem.ExS.fok_value rfl hr lx (qa_cons (qv 1) qa_nil) rfl)) qss_nil) (qss_one (qs_ret (qv 1)))), spec_need_node hsp⟩

theorem sc_stepped_chances : FnScope ["net", "weights", "chances", "one", "found", "two", "strength", "there", "back", "weight"] ["net", "weights", "chances"] (defScope (top 31)) := ⟨rfl, rfl, rfl, by decide +kernel, rfl, by decide +kernel, by decide +kernel⟩
theorem ok_stepped_chances {f : Addr} {fd : FuncData} (M : MF P K mg c) (Fn : Fun K "stepped_chances" "stepped_chances" (top 31) f fd) (D_ratio_sum : FB P w K mg base T "ratio_sum" 3 ["one", "other"] 0 [] (sp_ratio_sum c)) (D_ratio_over : FB P w K mg base T "ratio_over" 3 ["one", "other"] 0 [] (sp_ratio_over c)) (D_ratio_times : FB P w K mg base T "ratio_times" 3 ["one", "other"] 0 [] (sp_ratio_times c)) : FnQ P w K mg base T 4 f fd ["net", "weights", "chances"] (sp_stepped_chances c) := by
  refine fnQ_mk Fn sc_stepped_chances (len_stepped_chances c) fun cdv A outer s E0 G xs Q E hT hr hsp lx => ?_
  subst hT
  have hu := hr.units
  have hu1 := hu_of hr
  exact ⟨rd_stepped_chances c E, (qss_cons (qs_setLc (own := [("one", 3), ("weight", 9)]) rfl sc_stepped_chances.nd (qi_zip rfl (M.no "zip" (by decide)) (qv 2) (qv 1)) (blkOk_by rfl) (by decide) (fun s H C cl fp => (qg_tup rfl (qgs_cons (qg_name (i := 3) sc_stepped_chances.nd) (qgs_cons (qg_name (i := 9) sc_stepped_chances.nd) qgs_nil)))) (fun s H C cl fp => qts_nil) (fun s H C cl fp => (qe_if (qt_cmp (oq_eqD hu) (qv 9) (qe_gc M.g_NONE rfl)) (qv 3) (qe_gc M.g_NONE rfl)))) (qss_cons (qs_for (passes_of rfl) rfl (qi_seq (qe_ix (qv 0) qe_int)) (qg_tup rfl (qgs_cons (qg_name (i := 3) sc_stepped_chances.nd) (qgs_cons (qg_name (i := 5) sc_stepped_chances.nd) (qgs_cons (qg_name (i := 6) sc_stepped_chances.nd) qgs_nil)))) (qss_cons (qs_set (i := 7) (qe_fc D_ratio_over 0 (by decide) (hr.mono (by decide)) rfl LX.none (qa_cons (qe_fc D_ratio_times 0 (by decide) (hr.mono (by decide)) rfl LX.none (qa_cons (qe_ix (qv 2) (qv 3)) (qa_cons (qv 6) qa_nil))) (qa_cons (qe_ix (qv 1) (qv 3)) qa_nil))) sc_stepped_chances.nd) (qss_cons (qs_set (i := 8) (qe_fc D_ratio_over 0 (by decide) (hr.mono (by decide)) rfl LX.none (qa_cons (qe_fc D_ratio_times 0 (by decide) (hr.mono (by decide)) rfl LX.none (qa_cons (qe_ix (qv 2) (qv 5)) (qa_cons (qv 6) qa_nil))) (qa_cons (qe_ix (qv 1) (qv 5)) qa_nil))) sc_stepped_chances.nd) (qss_cons (qs_asg (qe_fc D_ratio_sum 0 (by decide) (hr.mono (by decide)) rfl LX.none (qa_cons (qe_ix (qv 4) (qv 5)) (qa_cons (qv 7) qa_nil))) (qg_set (qv 4) (qv 5))) (qss_one (qs_asg (qe_fc D_ratio_sum 0 (by decide) (hr.mono (by decide)) rfl LX.none (qa_cons (qe_ix (qv 4) (qv 3)) (qa_cons (qv 8) qa_nil))) (qg_set (qv 4) (qv 3)))))))) (qss_one (qs_ret (qv 4))))), spec_stepped_chances hsp⟩

theorem sc_chances_after : FnScope ["net", "node", "steps", "weights", "found", "turn", "place"] ["net", "node", "steps"] (defScope (top 32)) := ⟨rfl, rfl, rfl, by decide +kernel, rfl, by decide +kernel, by decide +kernel⟩
theorem ok_chances_after {f : Addr} {fd : FuncData} (M : MF P K mg c) (Fn : Fun K "chances_after" "chances_after" (top 32) f fd) (D_stepped_chances : FB P w K mg base T "stepped_chances" 4 ["net", "weights", "chances"] 0 [] (sp_stepped_chances c)) (D_weights_of : FB P w K mg base T "weights_of" 5 ["net"] 0 [] (sp_weights_of c)) (D_is_whole : FB P w K mg base T "is_whole" 1 ["value", "least", "most"] 2 [] (sp_is_whole c)) (D_need_node : FB P w K mg base T "need_node" 2 ["net", "node"] 0 [] (sp_need_node c)) (D_need_net : FB P w K mg base T "need_net" 5 ["net"] 0 [] (sp_need_net c)) : FnQ P w K mg base T 6 f fd ["net", "node", "steps"] (sp_chances_after c) := by
  refine fnQ_mk Fn sc_chances_after (len_chances_after c) fun cdv A outer s E0 G xs Q E hT hr hsp lx => ?_
  subst hT
  have hu := hr.units
  have hu1 := hu_of hr
  exact ⟨rd_chances_after c E, (qss_cons (qs_expr (qe_fc D_need_net 0 (by decide) (hr.mono (by decide)) rfl lx (qa_cons (qv 0) qa_nil))) (qss_cons (qs_expr (qe_fc D_need_node 0 (by decide) (hr.mono (by decide)) rfl lx (qa_cons (qv 0) (qa_cons (qv 1) qa_nil)))) (qss_cons (qs_if (qt_not (qt_val (qe_fc D_is_whole 0 (by decide) (hr.mono (by decide)) rfl LX.none (qa_cons (qv 2) (qa_cons qe_int (qa_cons (qe_gc M.g_MOST_STEPS rfl) qa_nil)))))) (qss_one (qs_raise M.x_BadNumber PySem.ExS.fok_value rfl hr lx (qa_cons (qv 2) qa_nil) rfl)) qss_nil) (qss_cons (qs_set (i := 3) (qe_fc D_weights_of 0 (by decide) (hr.mono (by decide)) rfl LX.none (qa_cons (qv 0) qa_nil)) sc_chances_after.nd) (qss_cons (qs_setLc (own := [("place", 6)]) rfl sc_chances_after.nd (qi_range1 rfl (M.no "range" (by decide)) (qe_ix (qv 0) qe_int)) (blkOk_by rfl) (by decide) (fun s H C cl fp => (qg_name (i := 6) sc_chances_after.nd)) (fun s H C cl fp => qts_nil) (fun s H C cl fp => (qe_if (qt_cmp (oq_eqD hu) (qv 6) (qv 1)) (qe_gc M.g_ONE rfl) (qe_gc M.g_NONE rfl)))) (qss_cons (qs_for (passes_of rfl) rfl (qi_range1 rfl (M.no "range" (by decide)) (qv 2)) (qg_name (i := 5) sc_chances_after.nd) (qss_one (qs_set (i := 4) (qe_fc D_stepped_chances 0 (by decide) (hr.mono (by decide)) rfl LX.none (qa_cons (qv 0) (qa_cons (qv 3) (qa_cons (qv 4) qa_nil)))) sc_chances_after.nd))) (qss_one (qs_ret (c_tuple (M.no "tuple" (by decide)) rfl (qa_cons (qv 4) qa_nil)))))))))), spec_chances_after hsp⟩

theorem sc_step_chances : FnScope ["net", "node"] ["net", "node"] (defScope (top 33)) := ⟨rfl, rfl, rfl, by decide +kernel, rfl, by decide +kernel, by decide +kernel⟩
theorem ok_step_chances {f : Addr} {fd : FuncData} (M : MF P K mg c) (Fn : Fun K "step_chances" "step_chances" (top 33) f fd) (D_chances_after : FB P w K mg base T "chances_after" 6 ["net", "node", "steps"] 0 [(["steps", "node", "net"], [2, 1, 0])] (sp_chances_after c)) : FnQ P w K mg base T 7 f fd ["net", "node"] (sp_step_chances c) := by
  refine fnQ_mk Fn sc_step_chances (len_step_chances c) fun cdv A outer s E0 G xs Q E hT hr hsp lx => ?_
  subst hT
  have hu := hr.units
  have hu1 := hu_of hr
  exact ⟨rd_step_chances c E, (qss_one (qs_ret (qe_fc D_chances_after 0 (by decide) (hr.mono (by decide)) rfl lx (qa_cons (qv 0) (qa_cons (qv 1) (qa_cons qe_int qa_nil)))))), spec_step_chances hsp⟩

theorem sc_law_mixed : FnScope ["cell", "n", "blend"] ["cell", "n"] (defScope (top 35)) := ⟨rfl, rfl, rfl, by decide +kernel, rfl, by decide +kernel, by decide +kernel⟩
theorem ok_law_mixed {f : Addr} {fd : FuncData} (M : MF P K mg c) (Fn : Fun K "_law_mixed" "_law_mixed" (top 35) f fd)  : FnQ P w K mg base T 1 f fd ["cell", "n"] (sp_law_mixed c) := by
  refine fnQ_mk Fn sc_law_mixed (len_law_mixed c) fun cdv A outer s E0 G xs Q E hT hr hsp lx => ?_
  subst hT
  have hu := hr.units
  have hu1 := hu_of hr
  exact ⟨rd_law_mixed c E, (qss_cons (qs_set (i := 2) (qe_op oq_add (qe_op oq_add (qe_op oq_mod (c_int (M.no "int" (by decide)) rfl (qa_cons (qe_op oq_mul (qe_op oq_mul (qv 0) (qe_op oq_add qe_int (qe_op oq_mul qe_int (qv 1)))) qe_int) qa_nil)) qe_int) (qe_op oq_mul (qe_op oq_mul qe_int (qv 1)) (qv 1))) (qe_op oq_mul qe_int (qv 1))) sc_law_mixed.nd) (qss_one (qs_ret (qe_op oq_fdiv (qe_op oq_mod (c_int (M.no "int" (by decide)) rfl (qa_cons (qe_op oq_mul (qv 2) qe_int) qa_nil)) qe_int) qe_int)))), spec_law_mixed hsp⟩

theorem sc_law_folded : FnScope ["script", "n", "found", "cell"] ["script"] (defScope (top 36)) := ⟨rfl, rfl, rfl, by decide +kernel, rfl, by decide +kernel, by decide +kernel⟩
theorem ok_law_folded {f : Addr} {fd : FuncData} (M : MF P K mg c) (Fn : Fun K "_law_folded" "_law_folded" (top 36) f fd)  : FnQ P w K mg base T 1 f fd ["script"] (sp_law_folded c) := by
  refine fnQ_mk Fn sc_law_folded (len_law_folded c) fun cdv A outer s E0 G xs Q E hT hr hsp lx => ?_
  subst hT
  have hu := hr.units
  have hu1 := hu_of hr
  exact ⟨rd_law_folded c E, (qss_cons (qs_setLc (own := [("n", 1)]) rfl sc_law_folded.nd (qi_range1 rfl (M.no "range" (by decide)) qe_int) (blkOk_by rfl) (by decide) (fun s H C cl fp => (qg_name (i := 1) sc_law_folded.nd)) (fun s H C cl fp => qts_nil) (fun s H C cl fp => (qe_op oq_add qe_int (qv 1)))) (qss_cons (qs_for (passes_of rfl) rfl (qi_enum rfl (M.no "enumerate" (by decide)) (qv 0)) (qg_tup rfl (qgs_cons (qg_name (i := 1) sc_law_folded.nd) (qgs_cons (qg_name (i := 3) sc_law_folded.nd) qgs_nil))) (qss_one (qs_asg (qe_op oq_mod (c_int (M.no "int" (by decide)) rfl (qa_cons (qe_op oq_add (qe_op oq_mul (qe_ix (qv 2) (qe_op oq_mod (c_int (M.no "int" (by decide)) rfl (qa_cons (qv 1) qa_nil)) qe_int)) qe_int) (qv 3)) qa_nil)) qe_int) (qg_set (qv 2) (qe_op oq_mod (c_int (M.no "int" (by decide)) rfl (qa_cons (qv 1) qa_nil)) qe_int))))) (qss_cons (qs_for (passes_of rfl) rfl (qi_range2 rfl (M.no "range" (by decide)) qe_int qe_int) (qg_name (i := 1) sc_law_folded.nd) (qss_one (qs_asg (qe_op oq_mod (c_int (M.no "int" (by decide)) rfl (qa_cons (qe_op oq_add (qe_ix (qv 2) (qv 1)) (qe_op oq_mul (qe_ix (qv 2) (qe_op oq_sub (qv 1) qe_int)) qe_int)) qa_nil)) qe_int) (qg_set (qv 2) (qv 1))))) (qss_one (qs_ret (qv 2)))))), spec_law_folded hsp⟩

theorem sc_law_draw : FnScope ["m", "limit", "n", "lot", "here", "cell"] ["m", "limit"] (defScope (top 37)) := ⟨rfl, rfl, rfl, by decide +kernel, rfl, by decide +kernel, by decide +kernel⟩
theorem ok_law_draw {f : Addr} {fd : FuncData} (M : MF P K mg c) (Fn : Fun K "_law_draw" "_law_draw" (top 37) f fd) (D_law_mixed : FB P w K mg base T "_law_mixed" 1 ["cell", "n"] 0 [] (sp_law_mixed c)) : FnQ P w K mg base T 2 f fd ["m", "limit"] (sp_law_draw c) := by
  refine fnQ_mk Fn sc_law_draw (len_law_draw c) fun cdv A outer s E0 G xs Q E hT hr hsp lx => ?_
  subst hT
  have hu := hr.units
  have hu1 := hu_of hr
  exact ⟨rd_law_draw c E, (qss_cons (qs_set (i := 2) (qe_dget hu1 (qv 0) qe_str) sc_law_draw.nd) (qss_cons (qs_dput hu1 (qv 0) qe_str (qe_op oq_add (qv 2) qe_int)) (qss_cons (qs_if (qt_cmp (oq_neD hu) (qe_dget hu1 (qv 0) qe_str) (qe_lst qa_nil)) (qss_cons (qs_set (i := 3) (qe_dget hu1 (qv 0) qe_str) sc_law_draw.nd) (qss_cons (qs_set (i := 4) (qe_op oq_mod (c_int (M.no "int" (by decide)) rfl (qa_cons (qv 2) qa_nil)) (c_len (M.no "len" (by decide)) rfl (qa_cons (qv 3) qa_nil))) sc_law_draw.nd) (qss_cons (qs_set (i := 5) (qe_ix (qv 3) (qv 4)) sc_law_draw.nd) (qss_one (qs_if (qt_cmp oq_gt (qv 5) qe_int) (qss_cons (qs_asg (qe_op oq_fdiv (qv 5) (qv 1)) (qg_set (qv 3) (qv 4))) (qss_one (qs_ret (qe_op oq_mod (c_int (M.no "int" (by decide)) rfl (qa_cons (qv 5) qa_nil)) (qv 1))))) qss_nil))))) qss_nil) (qss_cons (qs_set (i := 3) (qe_dget hu1 (qv 0) qe_str) sc_law_draw.nd) (qss_one (qs_ret (qe_op oq_mod (c_int (M.no "int" (by decide)) rfl (qa_cons (qe_fc D_law_mixed 0 (by decide) (hr.mono (by decide)) rfl LX.none (qa_cons (qe_fc D_law_mixed 0 (by decide) (hr.mono (by decide)) rfl LX.none (qa_cons (qe_op oq_add (qe_ix (qv 3) (qe_op oq_mod (c_int (M.no "int" (by decide)) rfl (qa_cons (qv 2) qa_nil)) qe_int)) (qe_op oq_mul qe_int (qe_op oq_fdiv (qv 2) qe_int))) (qa_cons (qv 2) qa_nil))) (qa_cons (qe_op oq_add (qv 2) qe_int) qa_nil))) qa_nil)) (qv 1)))))))), spec_law_draw hsp⟩

theorem sc_law_begun : FnScope ["script", "m", "cell"] ["script"] (defScope (top 38)) := ⟨rfl, rfl, rfl, by decide +kernel, rfl, by decide +kernel, by decide +kernel⟩
theorem ok_law_begun {f : Addr} {fd : FuncData} (M : MF P K mg c) (Fn : Fun K "_law_begun" "_law_begun" (top 38) f fd) (D_law_folded : FB P w K mg base T "_law_folded" 1 ["script"] 0 [] (sp_law_folded c)) : FnQ P w K mg base T 2 f fd ["script"] (sp_law_begun c) := by
  refine fnQ_mk Fn sc_law_begun (len_law_begun c) fun cdv A outer s E0 G xs Q E hT hr hsp lx => ?_
  subst hT
  have hu := hr.units
  have hu1 := hu_of hr
  exact ⟨rd_law_begun c E, (qss_cons (qs_set (i := 1) (qe_disp (.cons qe_str (qe_fc D_law_folded 0 (by decide) (hr.mono (by decide)) rfl LX.none (qa_cons (qv 0) qa_nil)) (.cons qe_str (qe_lst qa_nil) (.cons qe_str qe_int .nil)))) sc_law_begun.nd) (qss_cons (qs_dput hu1 (qv 1) qe_str (qe_lc (own := [("cell", 2)]) rfl sc_law_begun.nd (qi_seq (qv 0)) (blkOk_by rfl) (by decide) (fun s H C cl fp => (qg_name (i := 2) sc_law_begun.nd)) (fun s H C cl fp => qts_nil) (fun s H C cl fp => (qe_if (qt_cmp oq_ge (qv 2) (qe_op oq_pow qe_int qe_int)) (qv 2) qe_int)))) (qss_one (qs_ret (qv 1))))), spec_law_begun hsp⟩

theorem sc_law_of : FnScope ["m", "some"] ["m", "some"] (defScope (top 39)) := ⟨rfl, rfl, rfl, by decide +kernel, rfl, by decide +kernel, by decide +kernel⟩
theorem ok_law_of {f : Addr} {fd : FuncData} (M : MF P K mg c) (Fn : Fun K "_law_of" "_law_of" (top 39) f fd) (D_law_draw : FB P w K mg base T "_law_draw" 2 ["m", "limit"] 0 [] (sp_law_draw c)) : FnQ P w K mg base T 3 f fd ["m", "some"] (sp_law_of c) := by
  refine fnQ_mk Fn sc_law_of (len_law_of c) fun cdv A outer s E0 G xs Q E hT hr hsp lx => ?_
  subst hT
  have hu := hr.units
  have hu1 := hu_of hr
  exact ⟨rd_law_of c E, (qss_one (qs_ret (qe_ix (qv 1) (qe_fc D_law_draw 0 (by decide) (hr.mono (by decide)) rfl LX.none (qa_cons (qv 0) (qa_cons (c_len (M.no "len" (by decide)) rfl (qa_cons (qv 1) qa_nil)) qa_nil)))))), spec_law_of hsp⟩

theorem sc_law_like : FnScope ["got", "due", "n"] ["got", "due"] (defScope (top 40)) := ⟨rfl, rfl, rfl, by decide +kernel, rfl, by decide +kernel, by decide +kernel⟩
theorem ok_law_like {j : Nat} {f : Addr} {fd : FuncData} (M : MF P K mg c) (Fn : Fun K "_law_like" "_law_like" (top 40) f fd) (D_law_like : FB P w K mg base T "_law_like" j ["got", "due"] 0 [] (sp_law_like c j)) : FnQ P w K mg base T (j + 1) f fd ["got", "due"] (sp_law_like c (j + 1)) := by
  refine fnQ_mk Fn sc_law_like (len_law_like c) fun cdv A outer s E0 G xs Q E hT hr hsp lx => ?_
  subst hT
  have hu := hr.units
  have hu1 := hu_of hr
  exact ⟨rd_law_like c E (sp_law_like c j), (qss_cons (qs_if (qt_isN (qv 1)) (qss_one (qs_ret (qe_isN (qv 0)))) qss_nil) (qss_cons (qs_if (qt_val (i_bool (M.no "isinstance" (by decide)) (M.no "bool" (by decide)) rfl rfl (qv 1))) (qss_one (qs_ret (qe_and (i_bool (M.no "isinstance" (by decide)) (M.no "bool" (by decide)) rfl rfl (qv 0)) (qe_one (qe_cmp (oq_eqD hu) (qv 0) (qv 1)))))) qss_nil) (qss_cons (qs_if (qt_val (i_int (M.no "isinstance" (by decide)) (M.no "int" (by decide)) rfl rfl (qv 1))) (qss_one (qs_ret (qe_and (i_int (M.no "isinstance" (by decide)) (M.no "int" (by decide)) rfl rfl (qv 0)) (qe_and (qe_not (i_bool (M.no "isinstance" (by decide)) (M.no "bool" (by decide)) rfl rfl (qv 0))) (qe_one (qe_cmp (oq_eqD hu) (qv 0) (qv 1))))))) qss_nil) (qss_cons (qs_if (qt_val (i_str (M.no "isinstance" (by decide)) (M.no "str" (by decide)) rfl rfl (qv 1))) (qss_one (qs_ret (qe_and (i_str (M.no "isinstance" (by decide)) (M.no "str" (by decide)) rfl rfl (qv 0)) (qe_one (qe_cmp (oq_eqD hu) (qv 0) (qv 1)))))) qss_nil) (qss_cons (qs_if (QW.qt (qw_or (QW.qt (qw_and (qt_val (i_tuple (M.no "isinstance" (by decide)) (M.no "tuple" (by decide)) rfl rfl (qv 1))) (qw_and1 (qt_not (qt_val (i_tuple (M.no "isinstance" (by decide)) (M.no "tuple" (by decide)) rfl rfl (qv 0))))))) (qw_or1 (QW.qt (qw_and (qt_val (i_list (M.no "isinstance" (by decide)) (M.no "list" (by decide)) rfl rfl (qv 1))) (qw_and1 (qt_not (qt_val (i_list (M.no "isinstance" (by decide)) (M.no "list" (by decide)) rfl rfl (qv 0)))))))))) (qss_one (qs_ret qe_bl)) qss_nil) (qss_cons (qs_if (qt_cmp (oq_neD hu) (c_len (M.no "len" (by decide)) rfl (qa_cons (qv 0) qa_nil)) (c_len (M.no "len" (by decide)) rfl (qa_cons (qv 1) qa_nil))) (qss_one (qs_ret qe_bl)) qss_nil) (qss_cons (qs_for (passes_of rfl) rfl (qi_range1 rfl (M.no "range" (by decide)) (c_len (M.no "len" (by decide)) rfl (qa_cons (qv 1) qa_nil))) (qg_name (i := 2) sc_law_like.nd) (qss_one (qs_if (qt_not (qt_val (qe_fc D_law_like 0 (by decide) hr rfl LX.none (qa_cons (qe_ix (qv 0) (qv 2)) (qa_cons (qe_ix (qv 1) (qv 2)) qa_nil))))) (qss_one (qs_ret qe_bl)) qss_nil))) (qss_one (qs_ret qe_bl))))))))), spec_law_like hsp⟩

theorem sc_law_order : FnScope ["m", "many", "left", "found"] ["m", "many"] (defScope (top 41)) := ⟨rfl, rfl, rfl, by decide +kernel, rfl, by decide +kernel, by decide +kernel⟩
theorem ok_law_order {f : Addr} {fd : FuncData} (M : MF P K mg c) (Fn : Fun K "_law_order" "_law_order" (top 41) f fd) (D_law_draw : FB P w K mg base T "_law_draw" 2 ["m", "limit"] 0 [] (sp_law_draw c)) : FnQ P w K mg base T 3 f fd ["m", "many"] (sp_law_order c) := by
  refine fnQ_mk Fn sc_law_order (len_law_order c) fun cdv A outer s E0 G xs Q E hT hr hsp lx => ?_
  subst hT
  have hu := hr.units
  have hu1 := hu_of hr
  exact ⟨rd_law_order c E, (qss_cons (qs_par (i := 2) (j := 3) rfl sc_law_order.nd (qe_listRg rfl rfl (M.no "list" (by decide)) rfl (M.no "range" (by decide)) (qv 1)) (qe_lst qa_nil)) (qss_cons (qs_while (passes_of rfl) (qt_cmp (oq_neD hu) (qv 2) (qe_lst qa_nil)) (qss_one (qs_expr (qe_append (qv 3) (qe_popAt (qv 2) (qe_fc D_law_draw 0 (by decide) (hr.mono (by decide)) rfl LX.none (qa_cons (qv 0) (qa_cons (c_len (M.no "len" (by decide)) rfl (qa_cons (qv 2) qa_nil)) qa_nil)))))))) (qss_one (qs_ret (qv 3))))), spec_law_order hsp⟩

theorem sc_law_common : FnScope ["one", "other"] ["one", "other"] (defScope (top 42)) := ⟨rfl, rfl, rfl, by decide +kernel, rfl, by decide +kernel, by decide +kernel⟩
theorem ok_law_common {f : Addr} {fd : FuncData} (M : MF P K mg c) (Fn : Fun K "_law_common" "_law_common" (top 42) f fd)  : FnQ P w K mg base T 1 f fd ["one", "other"] (sp_law_common c) := by
  refine fnQ_mk Fn sc_law_common (len_law_common c) fun cdv A outer s E0 G xs Q E hT hr hsp lx => ?_
  subst hT
  have hu := hr.units
  have hu1 := hu_of hr
  exact ⟨rd_law_common c E, (qss_cons (qs_par (i := 0) (j := 1) rfl sc_law_common.nd (c_abs (M.no "abs" (by decide)) rfl (qa_cons (qv 0) qa_nil)) (c_abs (M.no "abs" (by decide)) rfl (qa_cons (qv 1) qa_nil))) (qss_cons (qs_while (passes_of rfl) (qt_cmp (oq_neD hu) (qv 1) qe_int) (qss_one (qs_par (i := 0) (j := 1) rfl sc_law_common.nd (qv 1) (qe_op oq_mod (c_int (M.no "int" (by decide)) rfl (qa_cons (qv 0) qa_nil)) (qv 1))))) (qss_one (qs_ret (qv 0))))), spec_law_common hsp⟩

theorem sc_law_ratio : FnScope ["upper", "under", "common"] ["upper", "under"] (defScope (top 43)) := ⟨rfl, rfl, rfl, by decide +kernel, rfl, by decide +kernel, by decide +kernel⟩
theorem ok_law_ratio {f : Addr} {fd : FuncData} (M : MF P K mg c) (Fn : Fun K "_law_ratio" "_law_ratio" (top 43) f fd) (D_law_common : FB P w K mg base T "_law_common" 1 ["one", "other"] 0 [] (sp_law_common c)) : FnQ P w K mg base T 2 f fd ["upper", "under"] (sp_law_ratio c) := by
  refine fnQ_mk Fn sc_law_ratio (len_law_ratio c) fun cdv A outer s E0 G xs Q E hT hr hsp lx => ?_
  subst hT
  have hu := hr.units
  have hu1 := hu_of hr
  exact ⟨rd_law_ratio c E, (qss_cons (qs_set (i := 2) (qe_fc D_law_common 0 (by decide) (hr.mono (by decide)) rfl LX.none (qa_cons (qv 0) (qa_cons (qv 1) qa_nil))) sc_law_ratio.nd) (qss_cons (qs_set (i := 2) (qe_if (qt_cmp oq_lt (qv 1) qe_int) (qe_neg (qv 2)) (qv 2)) sc_law_ratio.nd) (qss_one (qs_ret (qe_tup (qa_cons (qe_op oq_fdiv (qv 0) (qv 2)) (qa_cons (qe_op oq_fdiv (qv 1) (qv 2)) qa_nil))))))), spec_law_ratio hsp⟩

theorem sc_law_sum : FnScope ["fractions", "found", "upper", "under"] ["fractions"] (defScope (top 44)) := ⟨rfl, rfl, rfl, by decide +kernel, rfl, by decide +kernel, by decide +kernel⟩
theorem ok_law_sum {f : Addr} {fd : FuncData} (M : MF P K mg c) (Fn : Fun K "_law_sum" "_law_sum" (top 44) f fd) (D_law_ratio : FB P w K mg base T "_law_ratio" 2 ["upper", "under"] 0 [] (sp_law_ratio c)) : FnQ P w K mg base T 3 f fd ["fractions"] (sp_law_sum c) := by
  refine fnQ_mk Fn sc_law_sum (len_law_sum c) fun cdv A outer s E0 G xs Q E hT hr hsp lx => ?_
  subst hT
  have hu := hr.units
  have hu1 := hu_of hr
  exact ⟨rd_law_sum c E, (qss_cons (qs_set (i := 1) (qe_tup (qa_cons qe_int (qa_cons qe_int qa_nil))) sc_law_sum.nd) (qss_cons (qs_for (passes_of rfl) rfl (qi_seq (qv 0)) (qg_tup rfl (qgs_cons (qg_name (i := 2) sc_law_sum.nd) (qgs_cons (qg_name (i := 3) sc_law_sum.nd) qgs_nil))) (qss_one (qs_set (i := 1) (qe_fc D_law_ratio 0 (by decide) (hr.mono (by decide)) rfl LX.none (qa_cons (qe_op oq_add (qe_op oq_mul (qe_ix (qv 1) qe_int) (qv 3)) (qe_op oq_mul (qv 2) (qe_ix (qv 1) qe_int))) (qa_cons (qe_op oq_mul (qe_ix (qv 1) qe_int) (qv 3)) qa_nil))) sc_law_sum.nd))) (qss_one (qs_ret (qv 1))))), spec_law_sum hsp⟩

theorem sc_law_times : FnScope ["fractions", "found", "upper", "under"] ["fractions"] (defScope (top 45)) := ⟨rfl, rfl, rfl, by decide +kernel, rfl, by decide +kernel, by decide +kernel⟩
theorem ok_law_times {f : Addr} {fd : FuncData} (M : MF P K mg c) (Fn : Fun K "_law_times" "_law_times" (top 45) f fd) (D_law_ratio : FB P w K mg base T "_law_ratio" 2 ["upper", "under"] 0 [] (sp_law_ratio c)) : FnQ P w K mg base T 3 f fd ["fractions"] (sp_law_times c) := by
  refine fnQ_mk Fn sc_law_times (len_law_times c) fun cdv A outer s E0 G xs Q E hT hr hsp lx => ?_
  subst hT
  have hu := hr.units
  have hu1 := hu_of hr
  exact ⟨rd_law_times c E, (qss_cons (qs_set (i := 1) (qe_tup (qa_cons qe_int (qa_cons qe_int qa_nil))) sc_law_times.nd) (qss_cons (qs_for (passes_of rfl) rfl (qi_seq (qv 0)) (qg_tup rfl (qgs_cons (qg_name (i := 2) sc_law_times.nd) (qgs_cons (qg_name (i := 3) sc_law_times.nd) qgs_nil))) (qss_one (qs_set (i := 1) (qe_fc D_law_ratio 0 (by decide) (hr.mono (by decide)) rfl LX.none (qa_cons (qe_op oq_mul (qe_ix (qv 1) qe_int) (qv 2)) (qa_cons (qe_op oq_mul (qe_ix (qv 1) qe_int) (qv 3)) qa_nil))) sc_law_times.nd))) (qss_one (qs_ret (qv 1))))), spec_law_times hsp⟩

theorem sc_law_over : FnScope ["one", "other"] ["one", "other"] (defScope (top 46)) := ⟨rfl, rfl, rfl, by decide +kernel, rfl, by decide +kernel, by decide +kernel⟩
theorem ok_law_over {f : Addr} {fd : FuncData} (M : MF P K mg c) (Fn : Fun K "_law_over" "_law_over" (top 46) f fd) (D_law_ratio : FB P w K mg base T "_law_ratio" 2 ["upper", "under"] 0 [] (sp_law_ratio c)) : FnQ P w K mg base T 3 f fd ["one", "other"] (sp_law_over c) := by
  refine fnQ_mk Fn sc_law_over (len_law_over c) fun cdv A outer s E0 G xs Q E hT hr hsp lx => ?_
  subst hT
  have hu := hr.units
  have hu1 := hu_of hr
  exact ⟨rd_law_over c E, (qss_one (qs_ret (qe_fc D_law_ratio 0 (by decide) (hr.mono (by decide)) rfl LX.none (qa_cons (qe_op oq_mul (qe_ix (qv 0) qe_int) (qe_ix (qv 1) qe_int)) (qa_cons (qe_op oq_mul (qe_ix (qv 0) qe_int) (qe_ix (qv 1) qe_int)) qa_nil))))), spec_law_over hsp⟩

theorem sc_law_strength : FnScope ["m", "pick"] ["m"] (defScope (top 47)) := ⟨rfl, rfl, rfl, by decide +kernel, rfl, by decide +kernel, by decide +kernel⟩
theorem ok_law_strength {f : Addr} {fd : FuncData} (M : MF P K mg c) (Fn : Fun K "_law_strength" "_law_strength" (top 47) f fd) (D_law_ratio : FB P w K mg base T "_law_ratio" 2 ["upper", "under"] 0 [] (sp_law_ratio c)) (D_law_draw : FB P w K mg base T "_law_draw" 2 ["m", "limit"] 0 [] (sp_law_draw c)) : FnQ P w K mg base T 3 f fd ["m"] (sp_law_strength c) := by
  refine fnQ_mk Fn sc_law_strength (len_law_strength c) fun cdv A outer s E0 G xs Q E hT hr hsp lx => ?_
  subst hT
  have hu := hr.units
  have hu1 := hu_of hr
  exact ⟨rd_law_strength c E, (qss_cons (qs_set (i := 1) (qe_fc D_law_draw 0 (by decide) (hr.mono (by decide)) rfl LX.none (qa_cons (qv 0) (qa_cons qe_int qa_nil))) sc_law_strength.nd) (qss_cons (qs_if (qt_cmp oq_lt (qv 1) qe_int) (qss_one (qs_ret (qe_tup (qa_cons qe_int (qa_cons qe_int qa_nil))))) qss_nil) (qss_cons (qs_if (qt_cmp oq_lt (qv 1) qe_int) (qss_one (qs_ret (qe_fc D_law_ratio 0 (by decide) (hr.mono (by decide)) rfl LX.none (qa_cons (qe_op oq_add qe_int (qe_fc D_law_draw 0 (by decide) (hr.mono (by decide)) rfl LX.none (qa_cons (qv 0) (qa_cons qe_int qa_nil)))) (qa_cons (qe_op oq_add qe_int (qe_fc D_law_draw 0 (by decide) (hr.mono (by decide)) rfl LX.none (qa_cons (qv 0) (qa_cons qe_int qa_nil)))) qa_nil))))) qss_nil) (qss_one (qs_ret (qe_fc D_law_ratio 0 (by decide) (hr.mono (by decide)) rfl LX.none (qa_cons (qe_op oq_add qe_int (qe_fc D_law_draw 0 (by decide) (hr.mono (by decide)) rfl LX.none (qa_cons (qv 0) (qa_cons (qe_op oq_pow qe_int qe_int) qa_nil)))) (qa_cons (qe_op oq_add qe_int (qe_fc D_law_draw 0 (by decide) (hr.mono (by decide)) rfl LX.none (qa_cons (qv 0) (qa_cons (qe_op oq_pow qe_int qe_int) qa_nil)))) qa_nil)))))))), spec_law_strength hsp⟩

theorem sc_law_net : FnScope ["m", "nodes", "ports", "wires", "found", "turn", "one", "two"] ["m", "nodes", "ports", "wires"] (defScope (top 48)) := ⟨rfl, rfl, rfl, by decide +kernel, rfl, by decide +kernel, by decide +kernel⟩
theorem ok_law_net {f : Addr} {fd : FuncData} (M : MF P K mg c) (Fn : Fun K "_law_net" "_law_net" (top 48) f fd) (D_law_draw : FB P w K mg base T "_law_draw" 2 ["m", "limit"] 0 [] (sp_law_draw c)) (D_law_strength : FB P w K mg base T "_law_strength" 3 ["m"] 0 [] (sp_law_strength c)) : FnQ P w K mg base T 4 f fd ["m", "nodes", "ports", "wires"] (sp_law_net c) := by
  refine fnQ_mk Fn sc_law_net (len_law_net c) fun cdv A outer s E0 G xs Q E hT hr hsp lx => ?_
  subst hT
  have hu := hr.units
  have hu1 := hu_of hr
  exact ⟨rd_law_net c E, (qss_cons (qs_set (i := 4) (qe_lst qa_nil) sc_law_net.nd) (qss_cons (qs_if (qt_cmp oq_gt (qv 1) qe_int) (qss_one (qs_for (passes_of rfl) rfl (qi_range1 rfl (M.no "range" (by decide)) (qe_fc D_law_draw 0 (by decide) (hr.mono (by decide)) rfl LX.none (qa_cons (qv 0) (qa_cons (qe_op oq_add (qv 3) qe_int) qa_nil)))) (qg_name (i := 5) sc_law_net.nd) (qss_cons (qs_par (i := 6) (j := 7) rfl sc_law_net.nd (qe_fc D_law_draw 0 (by decide) (hr.mono (by decide)) rfl LX.none (qa_cons (qv 0) (qa_cons (qv 1) qa_nil))) (qe_fc D_law_draw 0 (by decide) (hr.mono (by decide)) rfl LX.none (qa_cons (qv 0) (qa_cons (qe_op oq_sub (qv 1) qe_int) qa_nil)))) (qss_cons (qs_set (i := 7) (qe_if (qt_cmp oq_ge (qv 7) (qv 6)) (qe_op oq_add (qv 7) qe_int) (qv 7)) sc_law_net.nd) (qss_one (qs_expr (qe_append (qv 4) (qe_tup (qa_cons (c_min (M.no "min" (by decide)) rfl rfl (qa_cons (qv 6) (qa_cons (qv 7) qa_nil))) (qa_cons (c_max (M.no "max" (by decide)) rfl rfl (qa_cons (qv 6) (qa_cons (qv 7) qa_nil))) (qa_cons (qe_fc D_law_strength 0 (by decide) (hr.mono (by decide)) rfl LX.none (qa_cons (qv 0) qa_nil)) qa_nil))))))))))) qss_nil) (qss_one (qs_ret (qe_tup (qa_cons (qv 1) (qa_cons (qv 2) (qa_cons (c_tuple (M.no "tuple" (by decide)) rfl (qa_cons (c_sorted (M.no "sorted" (by decide)) hu rfl (qa_cons (qv 4) qa_nil)) qa_nil)) qa_nil)))))))), spec_law_net hsp⟩

theorem sc_law_held : FnScope ["m", "nodes", "ports", "wires", "found", "node", "turn", "one", "two", "order", "n", "strength"] ["m", "nodes", "ports", "wires"] (defScope (top 49)) := ⟨rfl, rfl, rfl, by decide +kernel, rfl, by decide +kernel, by decide +kernel⟩
theorem ok_law_held {f : Addr} {fd : FuncData} (M : MF P K mg c) (Fn : Fun K "_law_held" "_law_held" (top 49) f fd) (D_law_order : FB P w K mg base T "_law_order" 3 ["m", "many"] 0 [] (sp_law_order c)) (D_law_draw : FB P w K mg base T "_law_draw" 2 ["m", "limit"] 0 [] (sp_law_draw c)) (D_law_strength : FB P w K mg base T "_law_strength" 3 ["m"] 0 [] (sp_law_strength c)) : FnQ P w K mg base T 4 f fd ["m", "nodes", "ports", "wires"] (sp_law_held c) := by
  refine fnQ_mk Fn sc_law_held (len_law_held c) fun cdv A outer s E0 G xs Q E hT hr hsp lx => ?_
  subst hT
  have hu := hr.units
  have hu1 := hu_of hr
  exact ⟨rd_law_held c E, (qss_cons (qs_set (i := 4) (qe_lst qa_nil) sc_law_held.nd) (qss_cons (qs_for (passes_of rfl) rfl (qi_range2 rfl (M.no "range" (by decide)) (qv 2) (qv 1)) (qg_name (i := 5) sc_law_held.nd) (qss_one (qs_expr (qe_append (qv 4) (qe_tup (qa_cons (qe_fc D_law_draw 0 (by decide) (hr.mono (by decide)) rfl LX.none (qa_cons (qv 0) (qa_cons (qv 5) qa_nil))) (qa_cons (qv 5) (qa_cons (qe_fc D_law_strength 0 (by decide) (hr.mono (by decide)) rfl LX.none (qa_cons (qv 0) qa_nil)) qa_nil)))))))) (qss_cons (qs_if (qt_cmp oq_gt (qv 1) qe_int) (qss_one (qs_for (passes_of rfl) rfl (qi_range1 rfl (M.no "range" (by decide)) (qe_fc D_law_draw 0 (by decide) (hr.mono (by decide)) rfl LX.none (qa_cons (qv 0) (qa_cons (c_max (M.no "max" (by decide)) rfl rfl (qa_cons qe_int (qa_cons (qe_op oq_add (qe_op oq_sub (qv 3) (c_len (M.no "len" (by decide)) rfl (qa_cons (qv 4) qa_nil))) qe_int) qa_nil))) qa_nil)))) (qg_name (i := 6) sc_law_held.nd) (qss_cons (qs_par (i := 7) (j := 8) rfl sc_law_held.nd (qe_fc D_law_draw 0 (by decide) (hr.mono (by decide)) rfl LX.none (qa_cons (qv 0) (qa_cons (qv 1) qa_nil))) (qe_fc D_law_draw 0 (by decide) (hr.mono (by decide)) rfl LX.none (qa_cons (qv 0) (qa_cons (qe_op oq_sub (qv 1) qe_int) qa_nil)))) (qss_cons (qs_set (i := 8) (qe_if (qt_cmp oq_ge (qv 8) (qv 7)) (qe_op oq_add (qv 8) qe_int) (qv 8)) sc_law_held.nd) (qss_one (qs_expr (qe_append (qv 4) (qe_tup (qa_cons (c_min (M.no "min" (by decide)) rfl rfl (qa_cons (qv 7) (qa_cons (qv 8) qa_nil))) (qa_cons (c_max (M.no "max" (by decide)) rfl rfl (qa_cons (qv 7) (qa_cons (qv 8) qa_nil))) (qa_cons (qe_fc D_law_strength 0 (by decide) (hr.mono (by decide)) rfl LX.none (qa_cons (qv 0) qa_nil)) qa_nil))))))))))) qss_nil) (qss_cons (qs_set (i := 9) (qe_op oq_cat (qe_listRg rfl rfl (M.no "list" (by decide)) rfl (M.no "range" (by decide)) (qv 2)) (qe_lc (own := [("n", 10)]) rfl sc_law_held.nd (qi_seq (qe_fc D_law_order 0 (by decide) (hr.mono (by decide)) rfl LX.none (qa_cons (qv 0) (qa_cons (qe_op oq_sub (qv 1) (qv 2)) qa_nil)))) (blkOk_by rfl) (by decide) (fun s H C cl fp => (qg_name (i := 10) sc_law_held.nd)) (fun s H C cl fp => qts_nil) (fun s H C cl fp => (qe_op oq_add (qv 2) (qv 10))))) sc_law_held.nd) (qss_cons (qs_setLc (own := [("one", 7), ("two", 8), ("strength", 11)]) rfl sc_law_held.nd (qi_seq (qv 4)) (blkOk_by rfl) (by decide) (fun s H C cl fp => (qg_tup rfl (qgs_cons (qg_name (i := 7) sc_law_held.nd) (qgs_cons (qg_name (i := 8) sc_law_held.nd) (qgs_cons (qg_name (i := 11) sc_law_held.nd) qgs_nil))))) (fun s H C cl fp => qts_nil) (fun s H C cl fp => (qe_tup (qa_cons (c_min (M.no "min" (by decide)) rfl rfl (qa_cons (qe_ix (qv 9) (qv 7)) (qa_cons (qe_ix (qv 9) (qv 8)) qa_nil))) (qa_cons (c_max (M.no "max" (by decide)) rfl rfl (qa_cons (qe_ix (qv 9) (qv 7)) (qa_cons (qe_ix (qv 9) (qv 8)) qa_nil))) (qa_cons (qv 11) qa_nil)))))) (qss_one (qs_ret (qe_tup (qa_cons (qv 1) (qa_cons (qv 2) (qa_cons (c_tuple (M.no "tuple" (by decide)) rfl (qa_cons (c_sorted (M.no "sorted" (by decide)) hu rfl (qa_cons (qv 4) qa_nil)) qa_nil)) qa_nil))))))))))), spec_law_held hsp⟩

theorem sc_law_weights : FnScope ["net", "found", "one", "two", "strength"] ["net"] (defScope (top 50)) := ⟨rfl, rfl, rfl, by decide +kernel, rfl, by decide +kernel, by decide +kernel⟩
theorem ok_law_weights {f : Addr} {fd : FuncData} (M : MF P K mg c) (Fn : Fun K "_law_weights" "_law_weights" (top 50) f fd) (D_law_sum : FB P w K mg base T "_law_sum" 3 ["fractions"] 0 [] (sp_law_sum c)) : FnQ P w K mg base T 4 f fd ["net"] (sp_law_weights c) := by
  refine fnQ_mk Fn sc_law_weights (len_law_weights c) fun cdv A outer s E0 G xs Q E hT hr hsp lx => ?_
  subst hT
  have hu := hr.units
  have hu1 := hu_of hr
  exact ⟨rd_law_weights c E, (qss_cons (qs_set (i := 1) (qe_op oq_rep (qe_lst (qa_cons (qe_tup (qa_cons qe_int (qa_cons qe_int qa_nil))) qa_nil)) (qe_ix (qv 0) qe_int)) sc_law_weights.nd) (qss_cons (qs_for (passes_of rfl) rfl (qi_seq (qe_ix (qv 0) qe_int)) (qg_tup rfl (qgs_cons (qg_name (i := 2) sc_law_weights.nd) (qgs_cons (qg_name (i := 3) sc_law_weights.nd) (qgs_cons (qg_name (i := 4) sc_law_weights.nd) qgs_nil)))) (qss_one (qs_asg (qe_tup (qa_cons (qe_fc D_law_sum 0 (by decide) (hr.mono (by decide)) rfl LX.none (qa_cons (qe_lst (qa_cons (qe_ix (qv 1) (qv 2)) (qa_cons (qv 4) qa_nil))) qa_nil)) (qa_cons (qe_fc D_law_sum 0 (by decide) (hr.mono (by decide)) rfl LX.none (qa_cons (qe_lst (qa_cons (qe_ix (qv 1) (qv 3)) (qa_cons (qv 4) qa_nil))) qa_nil)) qa_nil))) (qg_tup rfl (qgs_cons (qg_set (qv 1) (qv 2)) (qgs_cons (qg_set (qv 1) (qv 3)) qgs_nil)))))) (qss_one (qs_ret (qv 1))))), spec_law_weights hsp⟩

theorem sc_law_any_net : FnScope ["m", "nodes"] ["m"] (defScope (top 51)) := ⟨rfl, rfl, rfl, by decide +kernel, rfl, by decide +kernel, by decide +kernel⟩
theorem ok_law_any_net {f : Addr} {fd : FuncData} (M : MF P K mg c) (Fn : Fun K "_law_any_net" "_law_any_net" (top 51) f fd) (D_law_held : FB P w K mg base T "_law_held" 4 ["m", "nodes", "ports", "wires"] 0 [] (sp_law_held c)) (D_law_draw : FB P w K mg base T "_law_draw" 2 ["m", "limit"] 0 [] (sp_law_draw c)) (D_law_net : FB P w K mg base T "_law_net" 4 ["m", "nodes", "ports", "wires"] 0 [] (sp_law_net c)) : FnQ P w K mg base T 5 f fd ["m"] (sp_law_any_net c) := by
  refine fnQ_mk Fn sc_law_any_net (len_law_any_net c) fun cdv A outer s E0 G xs Q E hT hr hsp lx => ?_
  subst hT
  have hu := hr.units
  have hu1 := hu_of hr
  exact ⟨rd_law_any_net c E, (qss_cons (qs_set (i := 1) (qe_op oq_add qe_int (qe_fc D_law_draw 0 (by decide) (hr.mono (by decide)) rfl LX.none (qa_cons (qv 0) (qa_cons qe_int qa_nil)))) sc_law_any_net.nd) (qss_cons (qs_if (qt_cmp (oq_eqD hu) (qe_fc D_law_draw 0 (by decide) (hr.mono (by decide)) rfl LX.none (qa_cons (qv 0) (qa_cons qe_int qa_nil))) qe_int) (qss_one (qs_ret (qe_fc D_law_net 0 (by decide) (hr.mono (by decide)) rfl LX.none (qa_cons (qv 0) (qa_cons (qv 1) (qa_cons (qe_fc D_law_draw 0 (by decide) (hr.mono (by decide)) rfl LX.none (qa_cons (qv 0) (qa_cons (qe_op oq_add (qv 1) qe_int) qa_nil))) (qa_cons qe_int qa_nil))))))) qss_nil) (qss_one (qs_ret (qe_fc D_law_held 0 (by decide) (hr.mono (by decide)) rfl LX.none (qa_cons (qv 0) (qa_cons (qv 1) (qa_cons (qe_op oq_add qe_int (qe_fc D_law_draw 0 (by decide) (hr.mono (by decide)) rfl LX.none (qa_cons (qv 0) (qa_cons (qv 1) qa_nil)))) (qa_cons qe_int qa_nil))))))))), spec_law_any_net hsp⟩

theorem sc_law_great_net : FnScope ["m", "nodes", "wires", "node", "turn", "one", "strength", "net", "order", "two"] ["m"] (defScope (top 52)) := ⟨rfl, rfl, rfl, by decide +kernel, rfl, by decide +kernel, by decide +kernel⟩
theorem ok_law_great_net {f : Addr} {fd : FuncData} (M : MF P K mg c) (Fn : Fun K "_law_great_net" "_law_great_net" (top 52) f fd) (D_law_draw : FB P w K mg base T "_law_draw" 2 ["m", "limit"] 0 [] (sp_law_draw c)) (D_law_order : FB P w K mg base T "_law_order" 3 ["m", "many"] 0 [] (sp_law_order c)) (D_law_ratio : FB P w K mg base T "_law_ratio" 2 ["upper", "under"] 0 [] (sp_law_ratio c)) : FnQ P w K mg base T 4 f fd ["m"] (sp_law_great_net c) := by
  refine fnQ_mk Fn sc_law_great_net (len_law_great_net c) fun cdv A outer s E0 G xs Q E hT hr hsp lx => ?_
  subst hT
  have hu := hr.units
  have hu1 := hu_of hr
  exact ⟨rd_law_great_net c E, (qss_cons (qs_par (i := 1) (j := 2) rfl sc_law_great_net.nd (qe_op oq_add qe_int (qe_fc D_law_draw 0 (by decide) (hr.mono (by decide)) rfl LX.none (qa_cons (qv 0) (qa_cons qe_int qa_nil)))) (qe_lst qa_nil)) (qss_cons (qs_for (passes_of rfl) rfl (qi_range2 rfl (M.no "range" (by decide)) qe_int (qv 1)) (qg_name (i := 3) sc_law_great_net.nd) (qss_one (qs_if (qt_cmp oq_gt (qe_fc D_law_draw 0 (by decide) (hr.mono (by decide)) rfl LX.none (qa_cons (qv 0) (qa_cons qe_int qa_nil))) qe_int) (qss_one (qs_expr (qe_append (qv 2) (qe_tup (qa_cons (qe_fc D_law_draw 0 (by decide) (hr.mono (by decide)) rfl LX.none (qa_cons (qv 0) (qa_cons (qv 3) qa_nil))) (qa_cons (qv 3) (qa_cons (qe_fc D_law_ratio 0 (by decide) (hr.mono (by decide)) rfl LX.none (qa_cons (qe_op oq_add qe_int (qe_fc D_law_draw 0 (by decide) (hr.mono (by decide)) rfl LX.none (qa_cons (qv 0) (qa_cons qe_int qa_nil)))) (qa_cons (qe_op oq_add qe_int (qe_fc D_law_draw 0 (by decide) (hr.mono (by decide)) rfl LX.none (qa_cons (qv 0) (qa_cons qe_int qa_nil)))) qa_nil))) qa_nil))))))) qss_nil))) (qss_cons (qs_for (passes_of rfl) rfl (qi_range1 rfl (M.no "range" (by decide)) (qe_fc D_law_draw 0 (by decide) (hr.mono (by decide)) rfl LX.none (qa_cons (qv 0) (qa_cons qe_int qa_nil)))) (qg_name (i := 4) sc_law_great_net.nd) (qss_cons (qs_par (i := 5) (j := 6) rfl sc_law_great_net.nd (qe_fc D_law_draw 0 (by decide) (hr.mono (by decide)) rfl LX.none (qa_cons (qv 0) (qa_cons (qe_op oq_sub (qv 1) qe_int) qa_nil))) (qe_fc D_law_ratio 0 (by decide) (hr.mono (by decide)) rfl LX.none (qa_cons (qe_op oq_add qe_int (qe_fc D_law_draw 0 (by decide) (hr.mono (by decide)) rfl LX.none (qa_cons (qv 0) (qa_cons qe_int qa_nil)))) (qa_cons (qe_op oq_add qe_int (qe_fc D_law_draw 0 (by decide) (hr.mono (by decide)) rfl LX.none (qa_cons (qv 0) (qa_cons qe_int qa_nil)))) qa_nil)))) (qss_one (qs_expr (qe_append (qv 2) (qe_tup (qa_cons (qv 5) (qa_cons (qe_op oq_add (qe_op oq_add (qv 5) qe_int) (qe_fc D_law_draw 0 (by decide) (hr.mono (by decide)) rfl LX.none (qa_cons (qv 0) (qa_cons (qe_op oq_sub (qe_op oq_sub (qv 1) qe_int) (qv 5)) qa_nil)))) (qa_cons (qv 6) qa_nil))))))))) (qss_cons (qs_set (i := 7) (qe_tup (qa_cons (qv 1) (qa_cons qe_int (qa_cons (c_tuple (M.no "tuple" (by decide)) rfl (qa_cons (c_sorted (M.no "sorted" (by decide)) hu rfl (qa_cons (qv 2) qa_nil)) qa_nil)) qa_nil)))) sc_law_great_net.nd) (qss_cons (qs_set (i := 8) (qe_fc D_law_order 0 (by decide) (hr.mono (by decide)) rfl LX.none (qa_cons (qv 0) (qa_cons (qv 1) qa_nil))) sc_law_great_net.nd) (qss_cons (qs_setLc (own := [("one", 5), ("two", 9), ("strength", 6)]) rfl sc_law_great_net.nd (qi_seq (qe_ix (qv 7) qe_int)) (blkOk_by rfl) (by decide) (fun s H C cl fp => (qg_tup rfl (qgs_cons (qg_name (i := 5) sc_law_great_net.nd) (qgs_cons (qg_name (i := 9) sc_law_great_net.nd) (qgs_cons (qg_name (i := 6) sc_law_great_net.nd) qgs_nil))))) (fun s H C cl fp => qts_nil) (fun s H C cl fp => (qe_tup (qa_cons (c_min (M.no "min" (by decide)) rfl rfl (qa_cons (qe_ix (qv 8) (qv 5)) (qa_cons (qe_ix (qv 8) (qv 9)) qa_nil))) (qa_cons (c_max (M.no "max" (by decide)) rfl rfl (qa_cons (qe_ix (qv 8) (qv 5)) (qa_cons (qe_ix (qv 8) (qv 9)) qa_nil))) (qa_cons (qv 6) qa_nil)))))) (qss_one (qs_ret (qe_tup (qa_cons (qv 1) (qa_cons (qe_if (qt_cmp oq_gt (qv 1) qe_int) (qe_fc D_law_draw 0 (by decide) (hr.mono (by decide)) rfl LX.none (qa_cons (qv 0) (qa_cons qe_int qa_nil))) (qe_fc D_law_draw 0 (by decide) (hr.mono (by decide)) rfl LX.none (qa_cons (qv 0) (qa_cons qe_int qa_nil)))) (qa_cons (c_tuple (M.no "tuple" (by decide)) rfl (qa_cons (c_sorted (M.no "sorted" (by decide)) hu rfl (qa_cons (qv 2) qa_nil)) qa_nil)) qa_nil)))))))))))), spec_law_great_net hsp⟩

theorem sc_law_shared : FnScope ["net", "chances", "weights", "found", "node", "parts", "one", "two", "strength"] ["net", "chances"] (defScope (top 53)) := ⟨rfl, rfl, rfl, by decide +kernel, rfl, by decide +kernel, by decide +kernel⟩
theorem ok_law_shared {f : Addr} {fd : FuncData} (M : MF P K mg c) (Fn : Fun K "_law_shared" "_law_shared" (top 53) f fd) (D_law_sum : FB P w K mg base T "_law_sum" 3 ["fractions"] 0 [] (sp_law_sum c)) (D_law_over : FB P w K mg base T "_law_over" 3 ["one", "other"] 0 [] (sp_law_over c)) (D_law_times : FB P w K mg base T "_law_times" 3 ["fractions"] 0 [] (sp_law_times c)) (D_law_weights : FB P w K mg base T "_law_weights" 4 ["net"] 0 [] (sp_law_weights c)) : FnQ P w K mg base T 5 f fd ["net", "chances"] (sp_law_shared c) := by
  refine fnQ_mk Fn sc_law_shared (len_law_shared c) fun cdv A outer s E0 G xs Q E hT hr hsp lx => ?_
  subst hT
  have hu := hr.units
  have hu1 := hu_of hr
  exact ⟨rd_law_shared c E, (qss_cons (qs_par (i := 2) (j := 3) rfl sc_law_shared.nd (qe_fc D_law_weights 0 (by decide) (hr.mono (by decide)) rfl LX.none (qa_cons (qv 0) qa_nil)) (qe_lst qa_nil)) (qss_cons (qs_for (passes_of rfl) rfl (qi_range1 rfl (M.no "range" (by decide)) (qe_ix (qv 0) qe_int)) (qg_name (i := 4) sc_law_shared.nd) (qss_cons (qs_set (i := 5) (qe_if (qt_cmp (oq_eqD hu) (qe_ix (qe_ix (qv 2) (qv 4)) qe_int) qe_int) (qe_lst (qa_cons (qe_ix (qv 1) (qv 4)) qa_nil)) (qe_lst qa_nil)) sc_law_shared.nd) (qss_cons (qs_for (passes_of rfl) rfl (qi_seq (qe_ix (qv 0) qe_int)) (qg_tup rfl (qgs_cons (qg_name (i := 6) sc_law_shared.nd) (qgs_cons (qg_name (i := 7) sc_law_shared.nd) (qgs_cons (qg_name (i := 8) sc_law_shared.nd) qgs_nil)))) (qss_cons (qs_if (qt_cmp (oq_eqD hu) (qv 6) (qv 4)) (qss_one (qs_expr (qe_append (qv 5) (qe_fc D_law_over 0 (by decide) (hr.mono (by decide)) rfl LX.none (qa_cons (qe_fc D_law_times 0 (by decide) (hr.mono (by decide)) rfl LX.none (qa_cons (qe_lst (qa_cons (qe_ix (qv 1) (qv 7)) (qa_cons (qv 8) qa_nil))) qa_nil)) (qa_cons (qe_ix (qv 2) (qv 7)) qa_nil)))))) qss_nil) (qss_one (qs_if (qt_cmp (oq_eqD hu) (qv 7) (qv 4)) (qss_one (qs_expr (qe_append (qv 5) (qe_fc D_law_over 0 (by decide) (hr.mono (by decide)) rfl LX.none (qa_cons (qe_fc D_law_times 0 (by decide) (hr.mono (by decide)) rfl LX.none (qa_cons (qe_lst (qa_cons (qe_ix (qv 1) (qv 6)) (qa_cons (qv 8) qa_nil))) qa_nil)) (qa_cons (qe_ix (qv 2) (qv 6)) qa_nil)))))) qss_nil)))) (qss_one (qs_expr (qe_append (qv 3) (qe_fc D_law_sum 0 (by decide) (hr.mono (by decide)) rfl LX.none (qa_cons (qv 5) qa_nil)))))))) (qss_one (qs_ret (qv 3))))), spec_law_shared hsp⟩

theorem sc_law_after : FnScope ["net", "node", "steps", "found", "turn", "one"] ["net", "node", "steps"] (defScope (top 54)) := ⟨rfl, rfl, rfl, by decide +kernel, rfl, by decide +kernel, by decide +kernel⟩
theorem ok_law_after {f : Addr} {fd : FuncData} (M : MF P K mg c) (Fn : Fun K "_law_after" "_law_after" (top 54) f fd) (D_law_shared : FB P w K mg base T "_law_shared" 5 ["net", "chances"] 0 [] (sp_law_shared c)) : FnQ P w K mg base T 6 f fd ["net", "node", "steps"] (sp_law_after c) := by
  refine fnQ_mk Fn sc_law_after (len_law_after c) fun cdv A outer s E0 G xs Q E hT hr hsp lx => ?_
  subst hT
  have hu := hr.units
  have hu1 := hu_of hr
  exact ⟨rd_law_after c E, (qss_cons (qs_setLc (own := [("one", 5)]) rfl sc_law_after.nd (qi_range1 rfl (M.no "range" (by decide)) (qe_ix (qv 0) qe_int)) (blkOk_by rfl) (by decide) (fun s H C cl fp => (qg_name (i := 5) sc_law_after.nd)) (fun s H C cl fp => qts_nil) (fun s H C cl fp => (qe_tup (qa_cons (c_int (M.no "int" (by decide)) rfl (qa_cons (qe_cmp (oq_eqD hu) (qv 5) (qv 1)) qa_nil)) (qa_cons qe_int qa_nil))))) (qss_cons (qs_for (passes_of rfl) rfl (qi_range1 rfl (M.no "range" (by decide)) (qv 2)) (qg_name (i := 4) sc_law_after.nd) (qss_one (qs_set (i := 3) (qe_fc D_law_shared 0 (by decide) (hr.mono (by decide)) rfl LX.none (qa_cons (qv 0) (qa_cons (qv 3) qa_nil))) sc_law_after.nd))) (qss_one (qs_ret (c_tuple (M.no "tuple" (by decide)) rfl (qa_cons (qv 3) qa_nil)))))), spec_law_after hsp⟩

theorem sc_law_right : FnScope ["m", "net", "node", "steps", "due", "told", "weights", "other", "back"] ["m", "net"] (defScope (top 56)) := ⟨rfl, rfl, rfl, by decide +kernel, rfl, by decide +kernel, by decide +kernel⟩
theorem ok_law_right {f : Addr} {fd : FuncData} (M : MF P K mg c) (Fn : Fun K "_law_right" "_law_right" (top 56) f fd) (D_law_sum : FB P w K mg base T "_law_sum" 3 ["fractions"] 0 [] (sp_law_sum c)) (D_law_times : FB P w K mg base T "_law_times" 3 ["fractions"] 0 [] (sp_law_times c)) (D_chances_after : FB P w K mg base T "chances_after" 6 ["net", "node", "steps"] 0 [(["steps", "node", "net"], [2, 1, 0])] (sp_chances_after c)) (D_law_weights : FB P w K mg base T "_law_weights" 4 ["net"] 0 [] (sp_law_weights c)) (D_law_draw : FB P w K mg base T "_law_draw" 2 ["m", "limit"] 0 [] (sp_law_draw c)) (D_law_like : FB P w K mg base T "_law_like" 9 ["got", "due"] 0 [] (sp_law_like c 8)) (D_law_after : FB P w K mg base T "_law_after" 6 ["net", "node", "steps"] 0 [] (sp_law_after c)) (D_step_chances : FB P w K mg base T "step_chances" 7 ["net", "node"] 0 [(["node", "net"], [1, 0])] (sp_step_chances c)) (D_node_weights : FB P w K mg base T "node_weights" 6 ["net"] 0 [(["net"], [0])] (sp_node_weights c)) : FnQ P w K mg base T 10 f fd ["m", "net"] (sp_law_right c) := by
  refine fnQ_mk Fn sc_law_right (len_law_right c) fun cdv A outer s E0 G xs Q E hT hr hsp lx => ?_
  subst hT
  have hu := hr.units
  have hu1 := hu_of hr
  exact ⟨rd_law_right c E, (qss_cons (qs_if (qt_not (qt_val (qe_fc D_law_like 0 (by decide) (hr.mono (by decide)) rfl LX.none (qa_cons (qe_lst (qa_cons (qe_fc D_node_weights 0 (by decide) (hr.mono (by decide)) rfl LX.none (qa_cons (qv 1) qa_nil)) (qa_cons (qe_fk (ks := ["net"]) (is := [0]) D_node_weights (by decide) (hr.mono (by decide)) rfl LX.none (qk_cons (qv 1) qk_nil)) qa_nil))) (qa_cons (qe_op oq_rep (qe_lst (qa_cons (c_tuple (M.no "tuple" (by decide)) rfl (qa_cons (qe_fc D_law_weights 0 (by decide) (hr.mono (by decide)) rfl LX.none (qa_cons (qv 1) qa_nil)) qa_nil)) qa_nil)) qe_int) qa_nil))))) (qss_one (qs_ret qe_bl)) qss_nil) (qss_cons (qs_par (i := 2) (j := 3) rfl sc_law_right.nd (qe_fc D_law_draw 0 (by decide) (hr.mono (by decide)) rfl LX.none (qa_cons (qv 0) (qa_cons (qe_ix (qv 1) qe_int) qa_nil))) (qe_fc D_law_draw 0 (by decide) (hr.mono (by decide)) rfl LX.none (qa_cons (qv 0) (qa_cons qe_int qa_nil)))) (qss_cons (qs_set (i := 4) (qe_fc D_law_after 0 (by decide) (hr.mono (by decide)) rfl LX.none (qa_cons (qv 1) (qa_cons (qv 2) (qa_cons (qv 3) qa_nil)))) sc_law_right.nd) (qss_cons (qs_set (i := 5) (qe_lst (qa_cons (qe_fc D_chances_after 0 (by decide) (hr.mono (by decide)) rfl LX.none (qa_cons (qv 1) (qa_cons (qv 2) (qa_cons (qv 3) qa_nil)))) (qa_cons (qe_fk (ks := ["steps", "node", "net"]) (is := [2, 1, 0]) D_chances_after (by decide) (hr.mono (by decide)) rfl LX.none (qk_cons (qv 3) (qk_cons (qv 2) (qk_cons (qv 1) qk_nil)))) qa_nil))) sc_law_right.nd) (qss_cons (qs_if (qt_not (qt_val (qe_fc D_law_like 0 (by decide) (hr.mono (by decide)) rfl LX.none (qa_cons (qe_op oq_cat (qv 5) (qe_lst (qa_cons (qe_fk (ks := ["node", "net"]) (is := [1, 0]) D_step_chances (by decide) (hr.mono (by decide)) rfl LX.none (qk_cons (qv 2) (qk_cons (qv 1) qk_nil))) qa_nil))) (qa_cons (qe_lst (qa_cons (qv 4) (qa_cons (qv 4) (qa_cons (qe_fc D_law_after 0 (by decide) (hr.mono (by decide)) rfl LX.none (qa_cons (qv 1) (qa_cons (qv 2) (qa_cons qe_int qa_nil)))) qa_nil)))) qa_nil))))) (qss_one (qs_ret qe_bl)) qss_nil) (qss_cons (qs_par (i := 6) (j := 7) rfl sc_law_right.nd (qe_fc D_law_weights 0 (by decide) (hr.mono (by decide)) rfl LX.none (qa_cons (qv 1) qa_nil)) (qe_fc D_law_draw 0 (by decide) (hr.mono (by decide)) rfl LX.none (qa_cons (qv 0) (qa_cons (qe_ix (qv 1) qe_int) qa_nil)))) (qss_cons (qs_set (i := 8) (qe_ix (qe_fc D_chances_after 0 (by decide) (hr.mono (by decide)) rfl LX.none (qa_cons (qv 1) (qa_cons (qv 7) (qa_cons (qv 3) qa_nil)))) (qv 2)) sc_law_right.nd) (qss_cons (qs_if (qt_cmp (oq_neD hu) (qe_fc D_law_times 0 (by decide) (hr.mono (by decide)) rfl LX.none (qa_cons (qe_lst (qa_cons (qe_ix (qv 6) (qv 2)) (qa_cons (qe_ix (qv 4) (qv 7)) qa_nil))) qa_nil)) (qe_fc D_law_times 0 (by decide) (hr.mono (by decide)) rfl LX.none (qa_cons (qe_lst (qa_cons (qe_ix (qv 6) (qv 7)) (qa_cons (qv 8) qa_nil))) qa_nil))) (qss_one (qs_ret qe_bl)) qss_nil) (qss_one (qs_ret (qe_cmp (oq_eqD hu) (qe_fc D_law_sum 0 (by decide) (hr.mono (by decide)) rfl LX.none (qa_cons (qv 4) qa_nil)) (qe_tup (qa_cons qe_int (qa_cons qe_int qa_nil)))))))))))))), spec_law_right hsp⟩

theorem sc_law_refused_right : FnScope ["m", "net", "some", "place", "told", "due", "bad", "far", "odd"] ["m", "net"] (defScope (top 57)) := ⟨rfl, rfl, rfl, by decide +kernel, rfl, by decide +kernel, by decide +kernel⟩
theorem ok_law_refused_right {f cm Pt : Addr} {oc : Value} {od an : Option Addr} {osl : Array (Option Value)} {kV doc pm ct : Value} (M : MF P K mg c) (lk : K.lookup f = some ⟨oc, od, .func (PySem.W.fnOf "_law_refused_right" "_law_refused_right" (defArgs (top 57)) (defBody (top 57)) (defScope (top 57)) .none kV doc pm an (.ref cm) ct), osl⟩) (hcd : PySem.W.codeIn K (.ref cm) "_law_refused_right" = true) (TB : LamX.TabB base mg cm Pt) (hT0 : T = [(Pt, lamName "_law_refused_right")]) (D_law_like : FB P w K mg base T "_law_like" 9 ["got", "due"] 0 [] (sp_law_like c 8)) (D_step_chances : FB P w K mg base T "step_chances" 7 ["net", "node"] 0 [(["node", "net"], [1, 0])] (sp_step_chances c)) (D_chances_after : FB P w K mg base T "chances_after" 6 ["net", "node", "steps"] 0 [(["steps", "node", "net"], [2, 1, 0])] (sp_chances_after c)) (D_node_weights : FB P w K mg base T "node_weights" 6 ["net"] 0 [(["net"], [0])] (sp_node_weights c)) (D_law_of : FB P w K mg base T "_law_of" 3 ["m", "some"] 0 [] (sp_law_of c)) (Hf : HF K mg (top 55)) : FnQ P w K mg base T 12 f (PySem.W.fnOf "_law_refused_right" "_law_refused_right" (defArgs (top 57)) (defBody (top 57)) (defScope (top 57)) .none kV doc pm an (.ref cm) ct) ["m", "net"] (sp_law_refused_right c) := by
  refine fnQ_mkC lk hcd sc_law_refused_right (len_law_refused_right c) fun A outer s E0 G xs Q E hT hr hsp lx => ?_
  subst hT
  have hu := hr.units
  have hu1 := hu_of hr
  have hT := hT0
  exact ⟨rd_law_refused_right c E, (qss_cons (qs_asg (qe_tup (qa_cons (qe_fc D_law_of 0 (by decide) (hr.mono (by decide)) rfl LX.none (qa_cons (qv 0) (qa_cons (qe_lst (qa_cons (qe_neg qe_int) (qa_cons (qe_ix (qv 1) qe_int) (qa_cons qe_bl (qa_cons qe_non (qa_cons qe_str (qa_cons (qe_tup (qa_cons qe_int qa_nil)) qa_nil))))))) qa_nil))) (qa_cons (qe_fc D_law_of 0 (by decide) (hr.mono (by decide)) rfl LX.none (qa_cons (qv 0) (qa_cons (qe_lst (qa_cons (qe_neg qe_int) (qa_cons qe_int (qa_cons qe_bl (qa_cons qe_non (qa_cons (qe_tup (qa_cons qe_int qa_nil)) qa_nil)))))) qa_nil))) qa_nil))) (qg_tup rfl (qgs_cons (qg_name (i := 8) sc_law_refused_right.nd) (qgs_cons (qg_name (i := 7) sc_law_refused_right.nd) qgs_nil)))) (qss_cons (qs_set (i := 2) (qe_lst (qa_cons (qe_tup (qa_cons qe_non (qa_cons qe_str qa_nil))) (qa_cons (qe_tup (qa_cons (qe_tup (qa_cons qe_int (qa_cons qe_int (qa_cons (qe_tup qa_nil) qa_nil)))) (qa_cons qe_str qa_nil))) (qa_cons (qe_tup (qa_cons (qe_tup (qa_cons qe_int (qa_cons qe_int (qa_cons (qe_tup qa_nil) qa_nil)))) (qa_cons qe_str qa_nil))) (qa_cons (qe_tup (qa_cons (qe_tup (qa_cons qe_int (qa_cons qe_int (qa_cons (qe_tup (qa_cons (qe_tup (qa_cons qe_int (qa_cons qe_int (qa_cons (qe_tup (qa_cons qe_int (qa_cons qe_int qa_nil))) qa_nil)))) qa_nil)) qa_nil)))) (qa_cons qe_int qa_nil))) qa_nil))))) sc_law_refused_right.nd) (qss_cons (qs_asg (qe_fc D_law_of 0 (by decide) (hr.mono (by decide)) rfl LX.none (qa_cons (qv 0) (qa_cons (qv 2) qa_nil))) (qg_tup rfl (qgs_cons (qg_name (i := 6) sc_law_refused_right.nd) (qgs_cons (qg_name (i := 3) sc_law_refused_right.nd) qgs_nil)))) (qss_cons (qs_set (i := 4) (qe_lst (qa_cons (qe_heard Hf rfl sc_law_heard rfl (Or.inl rfl) (fun g cdg => heard_gives M) hT TB rfl hr (LamX.lamS_by rfl) rfl (fun _ _ _ _ _ => rfl) (fun A outer s H E f c' hr2 => lam_body fun G2 W hT2 lx => (qe_fc (D_node_weights.cast hT2) 0 (by decide) (hr2.mono (by decide)) rfl lx (qa_cons (qv 6) qa_nil)))) (qa_cons (qe_heard Hf rfl sc_law_heard rfl (Or.inl rfl) (fun g cdg => heard_gives M) hT TB rfl hr (LamX.lamS_by rfl) rfl (fun _ _ _ _ _ => rfl) (fun A outer s H E f c' hr2 => lam_body fun G2 W hT2 lx => (qe_fc (D_chances_after.cast hT2) 0 (by decide) (hr2.mono (by decide)) rfl lx (qa_cons (qv 6) (qa_cons (qv 8) (qa_cons (qv 7) qa_nil)))))) (qa_cons (qe_heard Hf rfl sc_law_heard rfl (Or.inl rfl) (fun g cdg => heard_gives M) hT TB rfl hr (LamX.lamS_by rfl) rfl (fun _ _ _ _ _ => rfl) (fun A outer s H E f c' hr2 => lam_body fun G2 W hT2 lx => (qe_fc (D_chances_after.cast hT2) 0 (by decide) (hr2.mono (by decide)) rfl lx (qa_cons (qv 1) (qa_cons (qv 8) (qa_cons (qv 7) qa_nil)))))) (qa_cons (qe_heard Hf rfl sc_law_heard rfl (Or.inl rfl) (fun g cdg => heard_gives M) hT TB rfl hr (LamX.lamS_by rfl) rfl (fun _ _ _ _ _ => rfl) (fun A outer s H E f c' hr2 => lam_body fun G2 W hT2 lx => (qe_fc (D_chances_after.cast hT2) 0 (by decide) (hr2.mono (by decide)) rfl lx (qa_cons (qv 1) (qa_cons qe_int (qa_cons (qv 7) qa_nil)))))) (qa_cons (qe_heard Hf rfl sc_law_heard rfl (Or.inl rfl) (fun g cdg => heard_gives M) hT TB rfl hr (LamX.lamS_by rfl) rfl (fun _ _ _ _ _ => rfl) (fun A outer s H E f c' hr2 => lam_body fun G2 W hT2 lx => (qe_fc (D_step_chances.cast hT2) 0 (by decide) (hr2.mono (by decide)) rfl lx (qa_cons (qv 1) (qa_cons (qv 8) qa_nil))))) (qa_cons (qe_heard Hf rfl sc_law_heard rfl (Or.inl rfl) (fun g cdg => heard_gives M) hT TB rfl hr (LamX.lamS_by rfl) rfl (fun _ _ _ _ _ => rfl) (fun A outer s H E f c' hr2 => lam_body fun G2 W hT2 lx => (qe_fc (D_step_chances.cast hT2) 0 (by decide) (hr2.mono (by decide)) rfl lx (qa_cons (qe_tup (qa_cons qe_int (qa_cons qe_int (qa_cons (qe_tup qa_nil) qa_nil)))) (qa_cons qe_int qa_nil))))) qa_nil))))))) sc_law_refused_right.nd) (qss_cons (qs_set (i := 5) (qe_lst (qa_cons (qe_lst (qa_cons qe_str (qa_cons (qv 3) qa_nil))) (qa_cons (qe_lst (qa_cons qe_str (qa_cons (qv 3) qa_nil))) (qa_cons (qe_lst (qa_cons qe_str (qa_cons (qv 8) qa_nil))) (qa_cons (qe_lst (qa_cons qe_str (qa_cons (qv 7) qa_nil))) (qa_cons (qe_lst (qa_cons qe_str (qa_cons (qv 8) qa_nil))) qa_nil)))))) sc_law_refused_right.nd) (qss_one (qs_ret (qe_fc D_law_like 0 (by decide) (hr.mono (by decide)) rfl LX.none (qa_cons (qv 4) (qa_cons (qe_op oq_cat (qv 5) (qe_lst (qa_cons (qe_lst (qa_cons qe_str (qa_cons qe_int qa_nil))) qa_nil))) qa_nil)))))))))), spec_law_refused_right hsp⟩

theorem sc_law : FnScope ["script", "m", "turn", "net", "pair"] ["script"] (defScope (top 58)) := ⟨rfl, rfl, rfl, by decide +kernel, rfl, by decide +kernel, by decide +kernel⟩
theorem ok_law {f : Addr} {fd : FuncData} (M : MF P K mg c) (Fn : Fun K "law" "law" (top 58) f fd) (D_law_like : FB P w K mg base T "_law_like" 9 ["got", "due"] 0 [] (sp_law_like c 8)) (D_node_weights : FB P w K mg base T "node_weights" 6 ["net"] 0 [(["net"], [0])] (sp_node_weights c)) (D_law_refused_right : FB P w K mg base T "_law_refused_right" 12 ["m", "net"] 0 [] (sp_law_refused_right c)) (D_chances_after : FB P w K mg base T "chances_after" 6 ["net", "node", "steps"] 0 [(["steps", "node", "net"], [2, 1, 0])] (sp_chances_after c)) (D_law_draw : FB P w K mg base T "_law_draw" 2 ["m", "limit"] 0 [] (sp_law_draw c)) (D_law_strength : FB P w K mg base T "_law_strength" 3 ["m"] 0 [] (sp_law_strength c)) (D_law_right : FB P w K mg base T "_law_right" 10 ["m", "net"] 0 [] (sp_law_right c)) (D_law_great_net : FB P w K mg base T "_law_great_net" 4 ["m"] 0 [] (sp_law_great_net c)) (D_law_any_net : FB P w K mg base T "_law_any_net" 5 ["m"] 0 [] (sp_law_any_net c)) (D_law_begun : FB P w K mg base T "_law_begun" 2 ["script"] 0 [] (sp_law_begun c)) : FnQ P w K mg base T 13 f fd ["script"] (sp_law c) := by
  refine fnQ_mk Fn sc_law (len_law c) fun cdv A outer s E0 G xs Q E hT hr hsp lx => ?_
  subst hT
  have hu := hr.units
  have hu1 := hu_of hr
  exact ⟨rd_law c E, (qss_cons (qs_set (i := 1) (qe_fc D_law_begun 0 (by decide) (hr.mono (by decide)) rfl LX.none (qa_cons (qv 0) qa_nil)) sc_law.nd) (qss_cons (qs_for (passes_of rfl) rfl (qi_range1 rfl (M.no "range" (by decide)) qe_int) (qg_name (i := 2) sc_law.nd) (qss_cons (qs_set (i := 3) (qe_fc D_law_any_net 0 (by decide) (hr.mono (by decide)) rfl LX.none (qa_cons (qv 1) qa_nil)) sc_law.nd) (qss_one (qs_if (qt_not (qt_val (qe_fc D_law_right 0 (by decide) (hr.mono (by decide)) rfl LX.none (qa_cons (qv 1) (qa_cons (qv 3) qa_nil))))) (qss_one (qs_ret qe_bl)) qss_nil)))) (qss_cons (qs_if (QW.qt (qw_and (qt_cmp (oq_eqD hu) (qe_fc D_law_draw 0 (by decide) (hr.mono (by decide)) rfl LX.none (qa_cons (qv 1) (qa_cons qe_int qa_nil))) qe_int) (qw_and1 (qt_not (qt_val (qe_fc D_law_right 0 (by decide) (hr.mono (by decide)) rfl LX.none (qa_cons (qv 1) (qa_cons (qe_fc D_law_great_net 0 (by decide) (hr.mono (by decide)) rfl LX.none (qa_cons (qv 1) qa_nil)) qa_nil)))))))) (qss_one (qs_ret qe_bl)) qss_nil) (qss_cons (qs_set (i := 4) (qe_tup (qa_cons qe_int (qa_cons (qe_fc D_law_draw 0 (by decide) (hr.mono (by decide)) rfl LX.none (qa_cons (qv 1) (qa_cons qe_int qa_nil))) (qa_cons (qe_tup (qa_cons (qe_tup (qa_cons qe_int (qa_cons qe_int (qa_cons (qe_fc D_law_strength 0 (by decide) (hr.mono (by decide)) rfl LX.none (qa_cons (qv 1) qa_nil)) qa_nil)))) qa_nil)) qa_nil)))) sc_law.nd) (qss_cons (qs_if (qt_not (qt_val (qe_fc D_law_like 0 (by decide) (hr.mono (by decide)) rfl LX.none (qa_cons (qe_fc D_chances_after 0 (by decide) (hr.mono (by decide)) rfl LX.none (qa_cons (qv 4) (qa_cons qe_int (qa_cons (qe_op oq_sub qe_int (qe_op oq_mul (qe_fc D_law_draw 0 (by decide) (hr.mono (by decide)) rfl LX.none (qa_cons (qv 1) (qa_cons qe_int qa_nil))) qe_int)) qa_nil)))) (qa_cons (qe_tup (qa_cons (qe_tup (qa_cons qe_int (qa_cons qe_int qa_nil))) (qa_cons (qe_tup (qa_cons qe_int (qa_cons qe_int qa_nil))) qa_nil))) qa_nil))))) (qss_one (qs_ret qe_bl)) qss_nil) (qss_one (qs_ret (qe_and (qe_fc D_law_like 0 (by decide) (hr.mono (by decide)) rfl LX.none (qa_cons (qe_fc D_node_weights 0 (by decide) (hr.mono (by decide)) rfl LX.none (qa_cons (qe_tup (qa_cons qe_int (qa_cons qe_int (qa_cons (qe_tup qa_nil) qa_nil)))) qa_nil)) (qa_cons (qe_tup qa_nil) qa_nil))) (qe_one (qe_fc D_law_refused_right 0 (by decide) (hr.mono (by decide)) rfl LX.none (qa_cons (qv 1) (qa_cons (qv 3) qa_nil)))))))))))), spec_law hsp⟩

theorem law_at {l : PySem.W.OpenLaw} {h : Heap} {fa cm Pt fr : Addr} {c : Str → Addr} {oc : Value} {od an : Option Addr} {osl : Array (Option Value)} {kV doc pm ct : Value} (X : K.In h) (G : h.Ns mainGlobals mg) (hfa : mg "law" = some (.ref fa)) (tb : h.get? Pt = some { cls := .none, data := .fields #[] }) (nl : noLists K = true) (nP : K.lookup Pt = none) (hdc : PySem.W.codeHdIn K cm Pt = true) (M : MF l.prog K mg c)
    (d_is_whole : DKD K "is_whole" (top 6) 2)
    (d_is_row : DKD K "is_row" (top 7) 1)
    (d_gcd : DK K "gcd" (top 8))
    (d_is_fraction : DK K "is_fraction" (top 12))
    (d_ratio : DK K "ratio" (top 13))
    (d_ratio_sum : DK K "ratio_sum" (top 14))
    (d_ratio_times : DK K "ratio_times" (top 15))
    (d_ratio_over : DK K "ratio_over" (top 16))
    (d_ratio_total : DK K "ratio_total" (top 17))
    (d_is_wire : DK K "is_wire" (top 22))
    (d_net_fault : DK K "net_fault" (top 23))
    (d_need_net : DK K "need_net" (top 24))
    (d_wires_at : DK K "wires_at" (top 25))
    (d_weights_of : DK K "weights_of" (top 28))
    (d_node_weights : DK K "node_weights" (top 29))
    (d_need_node : DK K "need_node" (top 30))
    (d_stepped_chances : DK K "stepped_chances" (top 31))
    (d_chances_after : DK K "chances_after" (top 32))
    (d_step_chances : DK K "step_chances" (top 33))
    (d_law_mixed : DK K "_law_mixed" (top 35))
    (d_law_folded : DK K "_law_folded" (top 36))
    (d_law_draw : DK K "_law_draw" (top 37))
    (d_law_begun : DK K "_law_begun" (top 38))
    (d_law_of : DK K "_law_of" (top 39))
    (d_law_like : DK K "_law_like" (top 40))
    (d_law_order : DK K "_law_order" (top 41))
    (d_law_common : DK K "_law_common" (top 42))
    (d_law_ratio : DK K "_law_ratio" (top 43))
    (d_law_sum : DK K "_law_sum" (top 44))
    (d_law_times : DK K "_law_times" (top 45))
    (d_law_over : DK K "_law_over" (top 46))
    (d_law_strength : DK K "_law_strength" (top 47))
    (d_law_net : DK K "_law_net" (top 48))
    (d_law_held : DK K "_law_held" (top 49))
    (d_law_weights : DK K "_law_weights" (top 50))
    (d_law_any_net : DK K "_law_any_net" (top 51))
    (d_law_great_net : DK K "_law_great_net" (top 52))
    (d_law_shared : DK K "_law_shared" (top 53))
    (d_law_after : DK K "_law_after" (top 54))
    (d_law_heard : DK K "_law_heard" (top 55))
    (d_law_right : DK K "_law_right" (top 56))
    (d_law : DK K "law" (top 58))
    (ar : PySem.W.nsIn K mainGlobals "_law_refused_right" = some (some (.ref fr))) (lr : K.lookup fr = some ⟨oc, od, .func (PySem.W.fnOf "_law_refused_right" "_law_refused_right" (defArgs (top 57)) (defBody (top 57)) (defScope (top 57)) .none kV doc pm an (.ref cm) ct), osl⟩) (cr : PySem.W.codeIn K (.ref cm) "_law_refused_right" = true) (kr : PySem.W.keepIn K (.ref fr) = true) :
    LamX.LawAtS l w K (L2.CX l.prog w) 13 63 "script" mg fa h := by
  have g : ∀ y v, PySem.W.nsIn K mainGlobals y = some (some v) → mg y = some v := fun y v e => PySem.W.mg_of X G e
  obtain ⟨f, fd, a, F⟩ := d_law.ex
  have e := hfa.symm.trans (g _ _ a)
  cases e
  refine ⟨fd, [(cm, Pt)], lSp K [(Pt, lamName "_law_refused_right")] (sp_law c), fun p hp => by rw [List.mem_singleton.mp hp]; exact tb, fun p hp => by rw [List.mem_singleton.mp hp]; exact nP, fun p hp => by rw [List.mem_singleton.mp hp]; exact PySem.W.codeHd_of_K X hdc, ?b, fun H a ns hn _ hH S => lsp_start nl (hH _ (List.mem_singleton.mpr rfl)) S fun x h Q E e k => ⟨x, ns, rfl, e, hn, k⟩, fun base KB NB TB => ?_⟩
  case b =>
    obtain ⟨oc, od, kV, doc, pm, an, cdv, ct, osl, rfl, lk, hcd⟩ := F.ex
    exact fun s u => .of_eq rfl
  have tB := TB (cm, Pt) (List.mem_singleton.mpr rfl)
  have D_is_whole := fb_mkD (P := l.prog) (w := w) (base := base) (T := [(Pt, lamName "_law_refused_right")]) (k := 1) (ps := ["value", "least", "most"]) (sp := sp_is_whole c) d_is_whole (by decide) (by decide) g (fun f fd F => ok_is_whole M F ) (fun j hj t kV doc pm an cdv ct us its h1 h2 => by
    match j, hj, us, its, h1, h2 with
    | 0, _, [_, _, _], [_, _], _, _ => exact ⟨_, rfl, rfl⟩
    | 1, _, [_, _], [_, _], _, _ => exact ⟨_, rfl, rfl⟩
    | 2, _, [_], [_, _], _, _ => exact ⟨_, rfl, rfl⟩)
  have D_is_row := fb_mkD (P := l.prog) (w := w) (base := base) (T := [(Pt, lamName "_law_refused_right")]) (k := 1) (ps := ["value", "length"]) (sp := sp_is_row c) d_is_row (by decide) (by decide) g (fun f fd F => ok_is_row M F ) (fun j hj t kV doc pm an cdv ct us its h1 h2 => by
    match j, hj, us, its, h1, h2 with
    | 0, _, [_, _], [_], _, _ => exact ⟨_, rfl, rfl⟩
    | 1, _, [_], [_], _, _ => exact ⟨_, rfl, rfl⟩)
  have D_gcd := fb_mk (P := l.prog) (w := w) (base := base) (T := [(Pt, lamName "_law_refused_right")]) (k := 1) (ps := ["one", "other"]) (kl := []) (sp := sp_gcd c) d_gcd g (fun f fd F => ok_gcd M F ) (fun _ _ _ _ _ _ us hl => match us, hl with | [_, _], _ => rfl) (fun _ _ _ q hq => nomatch hq)
  have D_is_fraction := fb_mk (P := l.prog) (w := w) (base := base) (T := [(Pt, lamName "_law_refused_right")]) (k := 2) (ps := ["value"]) (kl := []) (sp := sp_is_fraction c) d_is_fraction g (fun f fd F => ok_is_fraction M F D_gcd D_is_row D_is_whole) (fun _ _ _ _ _ _ us hl => match us, hl with | [_], _ => rfl) (fun _ _ _ q hq => nomatch hq)
  have D_ratio := fb_mk (P := l.prog) (w := w) (base := base) (T := [(Pt, lamName "_law_refused_right")]) (k := 2) (ps := ["upper", "under"]) (kl := []) (sp := sp_ratio c) d_ratio g (fun f fd F => ok_ratio M F D_gcd) (fun _ _ _ _ _ _ us hl => match us, hl with | [_, _], _ => rfl) (fun _ _ _ q hq => nomatch hq)
  have D_ratio_sum := fb_mk (P := l.prog) (w := w) (base := base) (T := [(Pt, lamName "_law_refused_right")]) (k := 3) (ps := ["one", "other"]) (kl := []) (sp := sp_ratio_sum c) d_ratio_sum g (fun f fd F => ok_ratio_sum M F D_ratio) (fun _ _ _ _ _ _ us hl => match us, hl with | [_, _], _ => rfl) (fun _ _ _ q hq => nomatch hq)
  have D_ratio_times := fb_mk (P := l.prog) (w := w) (base := base) (T := [(Pt, lamName "_law_refused_right")]) (k := 3) (ps := ["one", "other"]) (kl := []) (sp := sp_ratio_times c) d_ratio_times g (fun f fd F => ok_ratio_times M F D_ratio) (fun _ _ _ _ _ _ us hl => match us, hl with | [_, _], _ => rfl) (fun _ _ _ q hq => nomatch hq)
  have D_ratio_over := fb_mk (P := l.prog) (w := w) (base := base) (T := [(Pt, lamName "_law_refused_right")]) (k := 3) (ps := ["one", "other"]) (kl := []) (sp := sp_ratio_over c) d_ratio_over g (fun f fd F => ok_ratio_over M F D_ratio) (fun _ _ _ _ _ _ us hl => match us, hl with | [_, _], _ => rfl) (fun _ _ _ q hq => nomatch hq)
  have D_ratio_total := fb_mk (P := l.prog) (w := w) (base := base) (T := [(Pt, lamName "_law_refused_right")]) (k := 4) (ps := ["fractions"]) (kl := []) (sp := sp_ratio_total c) d_ratio_total g (fun f fd F => ok_ratio_total M F D_ratio_sum) (fun _ _ _ _ _ _ us hl => match us, hl with | [_], _ => rfl) (fun _ _ _ q hq => nomatch hq)
  have D_is_wire := fb_mk (P := l.prog) (w := w) (base := base) (T := [(Pt, lamName "_law_refused_right")]) (k := 3) (ps := ["nodes", "value"]) (kl := []) (sp := sp_is_wire c) d_is_wire g (fun f fd F => ok_is_wire M F D_is_fraction D_is_row D_is_whole) (fun _ _ _ _ _ _ us hl => match us, hl with | [_, _], _ => rfl) (fun _ _ _ q hq => nomatch hq)
  have D_net_fault := fb_mk (P := l.prog) (w := w) (base := base) (T := [(Pt, lamName "_law_refused_right")]) (k := 4) (ps := ["value"]) (kl := []) (sp := sp_net_fault c) d_net_fault g (fun f fd F => ok_net_fault M F D_is_wire D_is_whole D_is_row) (fun _ _ _ _ _ _ us hl => match us, hl with | [_], _ => rfl) (fun _ _ _ q hq => nomatch hq)
  have D_need_net := fb_mk (P := l.prog) (w := w) (base := base) (T := [(Pt, lamName "_law_refused_right")]) (k := 5) (ps := ["net"]) (kl := []) (sp := sp_need_net c) d_need_net g (fun f fd F => ok_need_net M F D_net_fault) (fun _ _ _ _ _ _ us hl => match us, hl with | [_], _ => rfl) (fun _ _ _ q hq => nomatch hq)
  have D_wires_at := fb_mk (P := l.prog) (w := w) (base := base) (T := [(Pt, lamName "_law_refused_right")]) (k := 1) (ps := ["net"]) (kl := []) (sp := sp_wires_at c) d_wires_at g (fun f fd F => ok_wires_at M F ) (fun _ _ _ _ _ _ us hl => match us, hl with | [_], _ => rfl) (fun _ _ _ q hq => nomatch hq)
  have D_weights_of := fb_mk (P := l.prog) (w := w) (base := base) (T := [(Pt, lamName "_law_refused_right")]) (k := 5) (ps := ["net"]) (kl := []) (sp := sp_weights_of c) d_weights_of g (fun f fd F => ok_weights_of M F D_wires_at D_ratio_total) (fun _ _ _ _ _ _ us hl => match us, hl with | [_], _ => rfl) (fun _ _ _ q hq => nomatch hq)
  have D_node_weights := fb_mk (P := l.prog) (w := w) (base := base) (T := [(Pt, lamName "_law_refused_right")]) (k := 6) (ps := ["net"]) (kl := [(["net"], [0])]) (sp := sp_node_weights c) d_node_weights g (fun f fd F => ok_node_weights M F D_weights_of D_need_net) (fun _ _ _ _ _ _ us hl => match us, hl with | [_], _ => rfl) (fun f fd F q hq => by
    rw [List.mem_singleton.mp hq]
    exact kd_mk F (fun _ _ _ _ _ _ ws hl => match ws, hl with | [_], _ => rfl) (by decide))
  have D_need_node := fb_mk (P := l.prog) (w := w) (base := base) (T := [(Pt, lamName "_law_refused_right")]) (k := 2) (ps := ["net", "node"]) (kl := []) (sp := sp_need_node c) d_need_node g (fun f fd F => ok_need_node M F D_is_whole) (fun _ _ _ _ _ _ us hl => match us, hl with | [_, _], _ => rfl) (fun _ _ _ q hq => nomatch hq)
  have D_stepped_chances := fb_mk (P := l.prog) (w := w) (base := base) (T := [(Pt, lamName "_law_refused_right")]) (k := 4) (ps := ["net", "weights", "chances"]) (kl := []) (sp := sp_stepped_chances c) d_stepped_chances g (fun f fd F => ok_stepped_chances M F D_ratio_sum D_ratio_over D_ratio_times) (fun _ _ _ _ _ _ us hl => match us, hl with | [_, _, _], _ => rfl) (fun _ _ _ q hq => nomatch hq)
  have D_chances_after := fb_mk (P := l.prog) (w := w) (base := base) (T := [(Pt, lamName "_law_refused_right")]) (k := 6) (ps := ["net", "node", "steps"]) (kl := [(["steps", "node", "net"], [2, 1, 0])]) (sp := sp_chances_after c) d_chances_after g (fun f fd F => ok_chances_after M F D_stepped_chances D_weights_of D_is_whole D_need_node D_need_net) (fun _ _ _ _ _ _ us hl => match us, hl with | [_, _, _], _ => rfl) (fun f fd F q hq => by
    rw [List.mem_singleton.mp hq]
    exact kd_mk F (fun _ _ _ _ _ _ ws hl => match ws, hl with | [_, _, _], _ => rfl) (by decide))
  have D_step_chances := fb_mk (P := l.prog) (w := w) (base := base) (T := [(Pt, lamName "_law_refused_right")]) (k := 7) (ps := ["net", "node"]) (kl := [(["node", "net"], [1, 0])]) (sp := sp_step_chances c) d_step_chances g (fun f fd F => ok_step_chances M F D_chances_after) (fun _ _ _ _ _ _ us hl => match us, hl with | [_, _], _ => rfl) (fun f fd F q hq => by
    rw [List.mem_singleton.mp hq]
    exact kd_mk F (fun _ _ _ _ _ _ ws hl => match ws, hl with | [_, _], _ => rfl) (by decide))
  have D_law_mixed := fb_mk (P := l.prog) (w := w) (base := base) (T := [(Pt, lamName "_law_refused_right")]) (k := 1) (ps := ["cell", "n"]) (kl := []) (sp := sp_law_mixed c) d_law_mixed g (fun f fd F => ok_law_mixed M F ) (fun _ _ _ _ _ _ us hl => match us, hl with | [_, _], _ => rfl) (fun _ _ _ q hq => nomatch hq)
  have D_law_folded := fb_mk (P := l.prog) (w := w) (base := base) (T := [(Pt, lamName "_law_refused_right")]) (k := 1) (ps := ["script"]) (kl := []) (sp := sp_law_folded c) d_law_folded g (fun f fd F => ok_law_folded M F ) (fun _ _ _ _ _ _ us hl => match us, hl with | [_], _ => rfl) (fun _ _ _ q hq => nomatch hq)
  have D_law_draw := fb_mk (P := l.prog) (w := w) (base := base) (T := [(Pt, lamName "_law_refused_right")]) (k := 2) (ps := ["m", "limit"]) (kl := []) (sp := sp_law_draw c) d_law_draw g (fun f fd F => ok_law_draw M F D_law_mixed) (fun _ _ _ _ _ _ us hl => match us, hl with | [_, _], _ => rfl) (fun _ _ _ q hq => nomatch hq)
  have D_law_begun := fb_mk (P := l.prog) (w := w) (base := base) (T := [(Pt, lamName "_law_refused_right")]) (k := 2) (ps := ["script"]) (kl := []) (sp := sp_law_begun c) d_law_begun g (fun f fd F => ok_law_begun M F D_law_folded) (fun _ _ _ _ _ _ us hl => match us, hl with | [_], _ => rfl) (fun _ _ _ q hq => nomatch hq)
  have D_law_of := fb_mk (P := l.prog) (w := w) (base := base) (T := [(Pt, lamName "_law_refused_right")]) (k := 3) (ps := ["m", "some"]) (kl := []) (sp := sp_law_of c) d_law_of g (fun f fd F => ok_law_of M F D_law_draw) (fun _ _ _ _ _ _ us hl => match us, hl with | [_, _], _ => rfl) (fun _ _ _ q hq => nomatch hq)
  have D_law_like : FB l.prog w K mg base [(Pt, lamName "_law_refused_right")] "_law_like" 9 ["got", "due"] 0 [] (sp_law_like c 8) := (rec_all (P := l.prog) (w := w) (base := base) (T := [(Pt, lamName "_law_refused_right")]) (sp := fun j => sp_law_like c j) d_law_like g (fun _ _ _ _ ⟨_, _, _, z, _⟩ => z) (fun j f fd F D => ok_law_like M F  D) (fun _ _ _ _ _ _ us hl => match us, hl with | [_, _], _ => rfl) 8).up (by decide)
  have D_law_order := fb_mk (P := l.prog) (w := w) (base := base) (T := [(Pt, lamName "_law_refused_right")]) (k := 3) (ps := ["m", "many"]) (kl := []) (sp := sp_law_order c) d_law_order g (fun f fd F => ok_law_order M F D_law_draw) (fun _ _ _ _ _ _ us hl => match us, hl with | [_, _], _ => rfl) (fun _ _ _ q hq => nomatch hq)
  have D_law_common := fb_mk (P := l.prog) (w := w) (base := base) (T := [(Pt, lamName "_law_refused_right")]) (k := 1) (ps := ["one", "other"]) (kl := []) (sp := sp_law_common c) d_law_common g (fun f fd F => ok_law_common M F ) (fun _ _ _ _ _ _ us hl => match us, hl with | [_, _], _ => rfl) (fun _ _ _ q hq => nomatch hq)
  have D_law_ratio := fb_mk (P := l.prog) (w := w) (base := base) (T := [(Pt, lamName "_law_refused_right")]) (k := 2) (ps := ["upper", "under"]) (kl := []) (sp := sp_law_ratio c) d_law_ratio g (fun f fd F => ok_law_ratio M F D_law_common) (fun _ _ _ _ _ _ us hl => match us, hl with | [_, _], _ => rfl) (fun _ _ _ q hq => nomatch hq)
  have D_law_sum := fb_mk (P := l.prog) (w := w) (base := base) (T := [(Pt, lamName "_law_refused_right")]) (k := 3) (ps := ["fractions"]) (kl := []) (sp := sp_law_sum c) d_law_sum g (fun f fd F => ok_law_sum M F D_law_ratio) (fun _ _ _ _ _ _ us hl => match us, hl with | [_], _ => rfl) (fun _ _ _ q hq => nomatch hq)
  have D_law_times := fb_mk (P := l.prog) (w := w) (base := base) (T := [(Pt, lamName "_law_refused_right")]) (k := 3) (ps := ["fractions"]) (kl := []) (sp := sp_law_times c) d_law_times g (fun f fd F => ok_law_times M F D_law_ratio) (fun _ _ _ _ _ _ us hl => match us, hl with | [_], _ => rfl) (fun _ _ _ q hq => nomatch hq)
  have D_law_over := fb_mk (P := l.prog) (w := w) (base := base) (T := [(Pt, lamName "_law_refused_right")]) (k := 3) (ps := ["one", "other"]) (kl := []) (sp := sp_law_over c) d_law_over g (fun f fd F => ok_law_over M F D_law_ratio) (fun _ _ _ _ _ _ us hl => match us, hl with | [_, _], _ => rfl) (fun _ _ _ q hq => nomatch hq)
  have D_law_strength := fb_mk (P := l.prog) (w := w) (base := base) (T := [(Pt, lamName "_law_refused_right")]) (k := 3) (ps := ["m"]) (kl := []) (sp := sp_law_strength c) d_law_strength g (fun f fd F => ok_law_strength M F D_law_ratio D_law_draw) (fun _ _ _ _ _ _ us hl => match us, hl with | [_], _ => rfl) (fun _ _ _ q hq => nomatch hq)
  have D_law_net := fb_mk (P := l.prog) (w := w) (base := base) (T := [(Pt, lamName "_law_refused_right")]) (k := 4) (ps := ["m", "nodes", "ports", "wires"]) (kl := []) (sp := sp_law_net c) d_law_net g (fun f fd F => ok_law_net M F D_law_draw D_law_strength) (fun _ _ _ _ _ _ us hl => match us, hl with | [_, _, _, _], _ => rfl) (fun _ _ _ q hq => nomatch hq)
  have D_law_held := fb_mk (P := l.prog) (w := w) (base := base) (T := [(Pt, lamName "_law_refused_right")]) (k := 4) (ps := ["m", "nodes", "ports", "wires"]) (kl := []) (sp := sp_law_held c) d_law_held g (fun f fd F => ok_law_held M F D_law_order D_law_draw D_law_strength) (fun _ _ _ _ _ _ us hl => match us, hl with | [_, _, _, _], _ => rfl) (fun _ _ _ q hq => nomatch hq)
  have D_law_weights := fb_mk (P := l.prog) (w := w) (base := base) (T := [(Pt, lamName "_law_refused_right")]) (k := 4) (ps := ["net"]) (kl := []) (sp := sp_law_weights c) d_law_weights g (fun f fd F => ok_law_weights M F D_law_sum) (fun _ _ _ _ _ _ us hl => match us, hl with | [_], _ => rfl) (fun _ _ _ q hq => nomatch hq)
  have D_law_any_net := fb_mk (P := l.prog) (w := w) (base := base) (T := [(Pt, lamName "_law_refused_right")]) (k := 5) (ps := ["m"]) (kl := []) (sp := sp_law_any_net c) d_law_any_net g (fun f fd F => ok_law_any_net M F D_law_held D_law_draw D_law_net) (fun _ _ _ _ _ _ us hl => match us, hl with | [_], _ => rfl) (fun _ _ _ q hq => nomatch hq)
  have D_law_great_net := fb_mk (P := l.prog) (w := w) (base := base) (T := [(Pt, lamName "_law_refused_right")]) (k := 4) (ps := ["m"]) (kl := []) (sp := sp_law_great_net c) d_law_great_net g (fun f fd F => ok_law_great_net M F D_law_draw D_law_order D_law_ratio) (fun _ _ _ _ _ _ us hl => match us, hl with | [_], _ => rfl) (fun _ _ _ q hq => nomatch hq)
  have D_law_shared := fb_mk (P := l.prog) (w := w) (base := base) (T := [(Pt, lamName "_law_refused_right")]) (k := 5) (ps := ["net", "chances"]) (kl := []) (sp := sp_law_shared c) d_law_shared g (fun f fd F => ok_law_shared M F D_law_sum D_law_over D_law_times D_law_weights) (fun _ _ _ _ _ _ us hl => match us, hl with | [_, _], _ => rfl) (fun _ _ _ q hq => nomatch hq)
  have D_law_after := fb_mk (P := l.prog) (w := w) (base := base) (T := [(Pt, lamName "_law_refused_right")]) (k := 6) (ps := ["net", "node", "steps"]) (kl := []) (sp := sp_law_after c) d_law_after g (fun f fd F => ok_law_after M F D_law_shared) (fun _ _ _ _ _ _ us hl => match us, hl with | [_, _, _], _ => rfl) (fun _ _ _ q hq => nomatch hq)
  have Hf := hf_mk d_law_heard g fun _ _ _ _ _ _ us hl => match us, hl with | [_], _ => rfl
  have D_law_right := fb_mk (P := l.prog) (w := w) (base := base) (T := [(Pt, lamName "_law_refused_right")]) (k := 10) (ps := ["m", "net"]) (kl := []) (sp := sp_law_right c) d_law_right g (fun f fd F => ok_law_right M F D_law_sum D_law_times D_chances_after D_law_weights D_law_draw D_law_like D_law_after D_step_chances D_node_weights) (fun _ _ _ _ _ _ us hl => match us, hl with | [_, _], _ => rfl) (fun _ _ _ q hq => nomatch hq)
  have D_law_refused_right : FB l.prog w K mg base [(Pt, lamName "_law_refused_right")] "_law_refused_right" 12 ["m", "net"] 0 [] (sp_law_refused_right c) := ⟨fr, _, ⟨ok_law_refused_right (T := [(Pt, lamName "_law_refused_right")]) M lr cr tB rfl D_law_like D_step_chances D_chances_after D_node_weights D_law_of Hf, g _ _ ar, kr⟩, fun m hm => (by obtain rfl := Nat.le_zero.mp hm; exact BD.all (.all fun us hl => match us, hl with | [_, _], _ => rfl)), fun q hq => nomatch hq⟩
  exact ok_law M F D_law_like D_node_weights D_law_refused_right D_chances_after D_law_draw D_law_strength D_law_right D_law_great_net D_law_any_net D_law_begun

theorem mf_at {h : Heap} (X : K.In h) (G : h.Ns mainGlobals mg) {A_BadNet I_BadNet A_BadNumber I_BadNumber A_BadNodes I_BadNodes a_NONE a_ONE : Addr}
    (n_abs : PySem.W.nsIn K mainGlobals "abs" = some none)
    (n_bool : PySem.W.nsIn K mainGlobals "bool" = some none)
    (n_enumerate : PySem.W.nsIn K mainGlobals "enumerate" = some none)
    (n_int : PySem.W.nsIn K mainGlobals "int" = some none)
    (n_isinstance : PySem.W.nsIn K mainGlobals "isinstance" = some none)
    (n_len : PySem.W.nsIn K mainGlobals "len" = some none)
    (n_list : PySem.W.nsIn K mainGlobals "list" = some none)
    (n_max : PySem.W.nsIn K mainGlobals "max" = some none)
    (n_min : PySem.W.nsIn K mainGlobals "min" = some none)
    (n_range : PySem.W.nsIn K mainGlobals "range" = some none)
    (n_sorted : PySem.W.nsIn K mainGlobals "sorted" = some none)
    (n_str : PySem.W.nsIn K mainGlobals "str" = some none)
    (n_tuple : PySem.W.nsIn K mainGlobals "tuple" = some none)
    (n_zip : PySem.W.nsIn K mainGlobals "zip" = some none)
    {od_NONE : Option Addr} {t_NONE u_NONE : Tok} {m_NONE : Nat} {s_NONE : Array (Option Value)} (g_NONE : PySem.W.nsIn K mainGlobals "NONE" = some (some (.ref a_NONE))) (l_NONE : K.lookup a_NONE = some ⟨.type "tuple", od_NONE, .seq #[.int 0 t_NONE, .int 1 u_NONE] m_NONE, s_NONE⟩)
    {od_ONE : Option Addr} {t_ONE u_ONE : Tok} {m_ONE : Nat} {s_ONE : Array (Option Value)} (g_ONE : PySem.W.nsIn K mainGlobals "ONE" = some (some (.ref a_ONE))) (l_ONE : K.lookup a_ONE = some ⟨.type "tuple", od_ONE, .seq #[.int 1 t_ONE, .int 1 u_ONE] m_ONE, s_ONE⟩)
    {t_MOST_NODES : Tok} (g_MOST_NODES : PySem.W.nsIn K mainGlobals "MOST_NODES" = some (some (.int 48 t_MOST_NODES)))
    {t_MOST_PORTS : Tok} (g_MOST_PORTS : PySem.W.nsIn K mainGlobals "MOST_PORTS" = some (some (.int 8 t_MOST_PORTS)))
    {t_MOST_WIRES : Tok} (g_MOST_WIRES : PySem.W.nsIn K mainGlobals "MOST_WIRES" = some (some (.int 40 t_MOST_WIRES)))
    {t_MOST_STEPS : Tok} (g_MOST_STEPS : PySem.W.nsIn K mainGlobals "MOST_STEPS" = some (some (.int 60 t_MOST_STEPS)))
    (x_BadNet : PySem.ExS.XTxt P K mg "BadNet" "place" A_BadNet I_BadNet) (y_BadNet : PySem.W.isClsIn K A_BadNet = true)
    (x_BadNumber : PySem.ExS.XTxt P K mg "BadNumber" "value" A_BadNumber I_BadNumber) (y_BadNumber : PySem.W.isClsIn K A_BadNumber = true)
    (x_BadNodes : PySem.ExS.XTxt P K mg "BadNodes" "value" A_BadNodes I_BadNodes) (y_BadNodes : PySem.W.isClsIn K A_BadNodes = true)
    (s_BadNet_BadNet : PySem.W.subIn K (.ref A_BadNet) (.ref A_BadNet) = some true)
    (s_BadNet_BadNumber : PySem.W.subIn K (.ref A_BadNet) (.ref A_BadNumber) = some false)
    (s_BadNet_BadNodes : PySem.W.subIn K (.ref A_BadNet) (.ref A_BadNodes) = some false)
    (s_BadNumber_BadNet : PySem.W.subIn K (.ref A_BadNumber) (.ref A_BadNet) = some false)
    (s_BadNumber_BadNumber : PySem.W.subIn K (.ref A_BadNumber) (.ref A_BadNumber) = some true)
    (s_BadNumber_BadNodes : PySem.W.subIn K (.ref A_BadNumber) (.ref A_BadNodes) = some false)
    (s_BadNodes_BadNet : PySem.W.subIn K (.ref A_BadNodes) (.ref A_BadNet) = some false)
    (s_BadNodes_BadNumber : PySem.W.subIn K (.ref A_BadNodes) (.ref A_BadNumber) = some false)
    (s_BadNodes_BadNodes : PySem.W.subIn K (.ref A_BadNodes) (.ref A_BadNodes) = some true)
    : MF P K mg (cOf [("BadNet", A_BadNet), ("BadNet.__init__", I_BadNet), ("BadNumber", A_BadNumber), ("BadNumber.__init__", I_BadNumber), ("BadNodes", A_BadNodes), ("BadNodes.__init__", I_BadNodes)]) :=
  { no := List.forall_mem_cons.mpr ⟨PySem.W.mg_none_of X G n_abs, List.forall_mem_cons.mpr ⟨PySem.W.mg_none_of X G n_bool, List.forall_mem_cons.mpr ⟨PySem.W.mg_none_of X G n_enumerate, List.forall_mem_cons.mpr ⟨PySem.W.mg_none_of X G n_int, List.forall_mem_cons.mpr ⟨PySem.W.mg_none_of X G n_isinstance, List.forall_mem_cons.mpr ⟨PySem.W.mg_none_of X G n_len, List.forall_mem_cons.mpr ⟨PySem.W.mg_none_of X G n_list, List.forall_mem_cons.mpr ⟨PySem.W.mg_none_of X G n_max, List.forall_mem_cons.mpr ⟨PySem.W.mg_none_of X G n_min, List.forall_mem_cons.mpr ⟨PySem.W.mg_none_of X G n_range, List.forall_mem_cons.mpr ⟨PySem.W.mg_none_of X G n_sorted, List.forall_mem_cons.mpr ⟨PySem.W.mg_none_of X G n_str, List.forall_mem_cons.mpr ⟨PySem.W.mg_none_of X G n_tuple, List.forall_mem_cons.mpr ⟨PySem.W.mg_none_of X G n_zip, fun _ z => nomatch z⟩⟩⟩⟩⟩⟩⟩⟩⟩⟩⟩⟩⟩⟩,
    g_NONE := gc_tup2 (oc := .type "tuple") (PySem.W.mg_of X G g_NONE) l_NONE,
    g_ONE := gc_tup2 (oc := .type "tuple") (PySem.W.mg_of X G g_ONE) l_ONE,
    g_MOST_NODES := gc_int (PySem.W.mg_of X G g_MOST_NODES),
    g_MOST_PORTS := gc_int (PySem.W.mg_of X G g_MOST_PORTS),
    g_MOST_WIRES := gc_int (PySem.W.mg_of X G g_MOST_WIRES),
    g_MOST_STEPS := gc_int (PySem.W.mg_of X G g_MOST_STEPS),
    x_BadNet := x_BadNet,
    x_BadNumber := x_BadNumber,
    x_BadNodes := x_BadNodes,
    xm := List.forall_mem_cons.mpr ⟨List.forall_mem_cons.mpr ⟨exm_of x_BadNet.exC y_BadNet x_BadNet.tyC s_BadNet_BadNet, List.forall_mem_cons.mpr ⟨exm_of x_BadNumber.exC y_BadNumber x_BadNumber.tyC s_BadNet_BadNumber, List.forall_mem_cons.mpr ⟨exm_of x_BadNodes.exC y_BadNodes x_BadNodes.tyC s_BadNet_BadNodes, fun _ z => nomatch z⟩⟩⟩, List.forall_mem_cons.mpr ⟨List.forall_mem_cons.mpr ⟨exm_of x_BadNet.exC y_BadNet x_BadNet.tyC s_BadNumber_BadNet, List.forall_mem_cons.mpr ⟨exm_of x_BadNumber.exC y_BadNumber x_BadNumber.tyC s_BadNumber_BadNumber, List.forall_mem_cons.mpr ⟨exm_of x_BadNodes.exC y_BadNodes x_BadNodes.tyC s_BadNumber_BadNodes, fun _ z => nomatch z⟩⟩⟩, List.forall_mem_cons.mpr ⟨List.forall_mem_cons.mpr ⟨exm_of x_BadNet.exC y_BadNet x_BadNet.tyC s_BadNodes_BadNet, List.forall_mem_cons.mpr ⟨exm_of x_BadNumber.exC y_BadNumber x_BadNumber.tyC s_BadNodes_BadNumber, List.forall_mem_cons.mpr ⟨exm_of x_BadNodes.exC y_BadNodes x_BadNodes.tyC s_BadNodes_BadNodes, fun _ z => nomatch z⟩⟩⟩, fun _ z => nomatch z⟩⟩⟩ }

end L3

open PySem PySem.W PyProof.Rows
set_option maxRecDepth 100000 in
set_option maxHeartbeats 0 in
theorem PySem.Challenge.cw_portstell_k60_walks_step_by_step_holds : PySem.Challenge.rw_portstell_k60_walks_step_by_step.Holds := by
  w_on; o_law; k_head; (case hw => w_witness2)
  k_fill
  refine LamX.walk_ofTs (l := PySem.Challenge.rw_portstell_k60_walks_step_by_step) (n := 63) (k := 13) (x := "script") (CX := fun w => L2.CX PySem.Challenge.rw_portstell_k60_walks_step_by_step.prog w) rfl (by decide) rfl ⟨rfl, by decide, by decide⟩ (fun w h Y => PySem.W.km_in_of Y) ?F (fun w H s e s' ⟨_, _, _, _, _, _, _, _, _, _, _, _, z⟩ => z)
  case F =>
    intro w mg fa h Y KX G hmg
    have tt := PySem.W.km_tabs_of Y
    refine' L3.law_at KX G hmg ?q5 ?q6 ?q7 ?q8 (L3.mf_at KX G ?q9 ?q10 ?q11 ?q12 ?q13 ?q14 ?q15 ?q16 ?q17 ?q18 ?q19 ?q20 ?q21 ?q22 ?q23 ?q24 ?q25 ?q26 ?q27 ?q28 ?q29 ?q30 (L3.xtxt_mk KX G ?q31 ?q32 ?q33 ?q34 ?q35 ?q36 ?q37 ?q38 ?q39 ?q40 ?q41 ?q42 ?q43 ?q44 ?q45 ?q46 ?q47 ?q48 ?q49 ?q50 ?q51 ?q52 ?q53 ?q54 ?q55 ?q56) ?q57 (L3.xtxt_mk KX G ?q58 ?q59 ?q60 ?q61 ?q62 ?q63 ?q64 ?q65 ?q66 ?q67 ?q68 ?q69 ?q70 ?q71 ?q72 ?q73 ?q74 ?q75 ?q76 ?q77 ?q78 ?q79 ?q80 ?q81 ?q82 ?q83) ?q84 (L3.xtxt_mk KX G ?q85 ?q86 ?q87 ?q88 ?q89 ?q90 ?q91 ?q92 ?q93 ?q94 ?q95 ?q96 ?q97 ?q98 ?q99 ?q100 ?q101 ?q102 ?q103 ?q104 ?q105 ?q106 ?q107 ?q108 ?q109 ?q110) ?q111 ?q112 ?q113 ?q114 ?q115 ?q116 ?q117 ?q118 ?q119 ?q120) (L3.dkd_mk (by decide) ?q121 ?q122 ?q123 ?q124 ?q125) (L3.dkd_mk (by decide) ?q126 ?q127 ?q128 ?q129 ?q130) (L3.dk_mk ?q131 ?q132 ?q133 ?q134) (L3.dk_mk ?q135 ?q136 ?q137 ?q138) (L3.dk_mk ?q139 ?q140 ?q141 ?q142) (L3.dk_mk ?q143 ?q144 ?q145 ?q146) (L3.dk_mk ?q147 ?q148 ?q149 ?q150) (L3.dk_mk ?q151 ?q152 ?q153 ?q154) (L3.dk_mk ?q155 ?q156 ?q157 ?q158) (L3.dk_mk ?q159 ?q160 ?q161 ?q162) (L3.dk_mk ?q163 ?q164 ?q165 ?q166) (L3.dk_mk ?q167 ?q168 ?q169 ?q170) (L3.dk_mk ?q171 ?q172 ?q173 ?q174) (L3.dk_mk ?q175 ?q176 ?q177 ?q178) (L3.dk_mk ?q179 ?q180 ?q181 ?q182) (L3.dk_mk ?q183 ?q184 ?q185 ?q186) (L3.dk_mk ?q187 ?q188 ?q189 ?q190) (L3.dk_mk ?q191 ?q192 ?q193 ?q194) (L3.dk_mk ?q195 ?q196 ?q197 ?q198) (L3.dk_mk ?q199 ?q200 ?q201 ?q202) (L3.dk_mk ?q203 ?q204 ?q205 ?q206) (L3.dk_mk ?q207 ?q208 ?q209 ?q210) (L3.dk_mk ?q211 ?q212 ?q213 ?q214) (L3.dk_mk ?q215 ?q216 ?q217 ?q218) (L3.dk_mk ?q219 ?q220 ?q221 ?q222) (L3.dk_mk ?q223 ?q224 ?q225 ?q226) (L3.dk_mk ?q227 ?q228 ?q229 ?q230) (L3.dk_mk ?q231 ?q232 ?q233 ?q234) (L3.dk_mk ?q235 ?q236 ?q237 ?q238) (L3.dk_mk ?q239 ?q240 ?q241 ?q242) (L3.dk_mk ?q243 ?q244 ?q245 ?q246) (L3.dk_mk ?q247 ?q248 ?q249 ?q250) (L3.dk_mk ?q251 ?q252 ?q253 ?q254) (L3.dk_mk ?q255 ?q256 ?q257 ?q258) (L3.dk_mk ?q259 ?q260 ?q261 ?q262) (L3.dk_mk ?q263 ?q264 ?q265 ?q266) (L3.dk_mk ?q267 ?q268 ?q269 ?q270) (L3.dk_mk ?q271 ?q272 ?q273 ?q274) (L3.dk_mk ?q275 ?q276 ?q277 ?q278) (L3.dk_mk ?q279 ?q280 ?q281 ?q282) (L3.dk_mk ?q283 ?q284 ?q285 ?q286) (L3.dk_mk ?q287 ?q288 ?q289 ?q290) ?q1 ?q2 ?q3 ?q4
    (case q1 => k_is)
    (case q2 => k_is)
    (case q3 => k_is)
    (case q4 => k_is)
    (case q5 => exact tt _ List.mem_cons_self)
    (case q6 => first | kernel_rfl | rfl | decide +kernel)
    (case q7 => first | k_is | kernel_rfl | rfl)
    (case q8 => first | kernel_rfl | rfl)
    (case q9 => k_is)
    (case q10 => k_is)
    (case q11 => k_is)
    (case q12 => k_is)
    (case q13 => k_is)
    (case q14 => k_is)
    (case q15 => k_is)
    (case q16 => k_is)
    (case q17 => k_is)
    (case q18 => k_is)
    (case q19 => k_is)
    (case q20 => k_is)
    (case q21 => k_is)
    (case q22 => k_is)
    (case q23 => k_is)
    (case q24 => k_is)
    (case q25 => k_is)
    (case q26 => k_is)
    (case q27 => k_is)
    (case q28 => k_is)
    (case q29 => k_is)
    (case q30 => k_is)
    (case q31 => k_is)
    (case q32 => k_is)
    (case q33 => decide +kernel)
    (case q34 => k_is)
    (case q35 => k_is)
    (case q36 => k_is)
    (case q37 => k_is)
    (case q38 => k_is)
    (case q39 => k_is)
    (case q40 => k_is)
    (case q41 => k_is)
    (case q42 => k_is)
    (case q43 => k_is)
    (case q44 => first | k_is | rfl | kernel_rfl | decide +kernel)
    (case q45 => k_is)
    (case q46 => first | k_is | rfl | kernel_rfl | decide +kernel)
    (case q47 => first | k_is | rfl | kernel_rfl | decide +kernel)
    (case q48 => k_is)
    (case q49 => first | rfl | decide +kernel)
    (case q50 => k_is)
    (case q51 => k_is)
    (case q52 => exact fun env => ⟨_, rfl⟩)
    (case q53 => k_is)
    (case q54 => k_is)
    (case q55 => rfl)
    (case q56 => first | rfl | decide +kernel)
    (case q57 => k_is)
    (case q58 => k_is)
    (case q59 => k_is)
    (case q60 => decide +kernel)
    (case q61 => k_is)
    (case q62 => k_is)
    (case q63 => k_is)
    (case q64 => k_is)
    (case q65 => k_is)
    (case q66 => k_is)
    (case q67 => k_is)
    (case q68 => k_is)
    (case q69 => k_is)
    (case q70 => k_is)
    (case q71 => first | k_is | rfl | kernel_rfl | decide +kernel)
    (case q72 => k_is)
    (case q73 => first | k_is | rfl | kernel_rfl | decide +kernel)
    (case q74 => first | k_is | rfl | kernel_rfl | decide +kernel)
    (case q75 => k_is)
    (case q76 => first | rfl | decide +kernel)
    (case q77 => k_is)
    (case q78 => k_is)
    (case q79 => exact fun env => ⟨_, rfl⟩)
    (case q80 => k_is)
    (case q81 => k_is)
    (case q82 => rfl)
    (case q83 => first | rfl | decide +kernel)
    (case q84 => k_is)
    (case q85 => k_is)
    (case q86 => k_is)
    (case q87 => decide +kernel)
    (case q88 => k_is)
    (case q89 => k_is)
    (case q90 => k_is)
    (case q91 => k_is)
    (case q92 => k_is)
    (case q93 => k_is)
    (case q94 => k_is)
    (case q95 => k_is)
    (case q96 => k_is)
    (case q97 => k_is)
    (case q98 => first | k_is | rfl | kernel_rfl | decide +kernel)
    (case q99 => k_is)
    (case q100 => first | k_is | rfl | kernel_rfl | decide +kernel)
    (case q101 => first | k_is | rfl | kernel_rfl | decide +kernel)
    (case q102 => k_is)
    (case q103 => first | rfl | decide +kernel)
    (case q104 => k_is)
    (case q105 => k_is)
    (case q106 => exact fun env => ⟨_, rfl⟩)
    (case q107 => k_is)
    (case q108 => k_is)
    (case q109 => rfl)
    (case q110 => first | rfl | decide +kernel)
    (case q111 => k_is)
    (case q112 => k_is)
    (case q113 => k_is)
    (case q114 => k_is)
    (case q115 => k_is)
    (case q116 => k_is)
    (case q117 => k_is)
    (case q118 => k_is)
    (case q119 => k_is)
    (case q120 => k_is)
    (case q121 => k_is)
    (case q122 => k_is)
    (case q123 => k_is)
    (case q124 => k_is)
    (case q125 => k_is)
    (case q126 => k_is)
    (case q127 => k_is)
    (case q128 => k_is)
    (case q129 => k_is)
    (case q130 => k_is)
    (case q131 => k_is)
    (case q132 => k_is)
    (case q133 => k_is)
    (case q134 => k_is)
    (case q135 => k_is)
    (case q136 => k_is)
    (case q137 => k_is)
    (case q138 => k_is)
    (case q139 => k_is)
    (case q140 => k_is)
    (case q141 => k_is)
    (case q142 => k_is)
    (case q143 => k_is)
    (case q144 => k_is)
    (case q145 => k_is)
    (case q146 => k_is)
    (case q147 => k_is)
    (case q148 => k_is)
    (case q149 => k_is)
    (case q150 => k_is)
    (case q151 => k_is)
    (case q152 => k_is)
    (case q153 => k_is)
    (case q154 => k_is)
    (case q155 => k_is)
    (case q156 => k_is)
    (case q157 => k_is)
    (case q158 => k_is)
    (case q159 => k_is)
    (case q160 => k_is)
    (case q161 => k_is)
    (case q162 => k_is)
    (case q163 => k_is)
    (case q164 => k_is)
    (case q165 => k_is)
    (case q166 => k_is)
    (case q167 => k_is)
    (case q168 => k_is)
    (case q169 => k_is)
    (case q170 => k_is)
    (case q171 => k_is)
    (case q172 => k_is)
    (case q173 => k_is)
    (case q174 => k_is)
    (case q175 => k_is)
    (case q176 => k_is)
    (case q177 => k_is)
    (case q178 => k_is)
    (case q179 => k_is)
    (case q180 => k_is)
    (case q181 => k_is)
    (case q182 => k_is)
    (case q183 => k_is)
    (case q184 => k_is)
    (case q185 => k_is)
    (case q186 => k_is)
    (case q187 => k_is)
    (case q188 => k_is)
    (case q189 => k_is)
    (case q190 => k_is)
    (case q191 => k_is)
    (case q192 => k_is)
    (case q193 => k_is)
    (case q194 => k_is)
    (case q195 => k_is)
    (case q196 => k_is)
    (case q197 => k_is)
    (case q198 => k_is)
    (case q199 => k_is)
    (case q200 => k_is)
    (case q201 => k_is)
    (case q202 => k_is)
    (case q203 => k_is)
    (case q204 => k_is)
    (case q205 => k_is)
    (case q206 => k_is)
    (case q207 => k_is)
    (case q208 => k_is)
    (case q209 => k_is)
    (case q210 => k_is)
    (case q211 => k_is)
    (case q212 => k_is)
    (case q213 => k_is)
    (case q214 => k_is)
    (case q215 => k_is)
    (case q216 => k_is)
    (case q217 => k_is)
    (case q218 => k_is)
    (case q219 => k_is)
    (case q220 => k_is)
    (case q221 => k_is)
    (case q222 => k_is)
    (case q223 => k_is)
    (case q224 => k_is)
    (case q225 => k_is)
    (case q226 => k_is)
    (case q227 => k_is)
    (case q228 => k_is)
    (case q229 => k_is)
    (case q230 => k_is)
    (case q231 => k_is)
    (case q232 => k_is)
    (case q233 => k_is)
    (case q234 => k_is)
    (case q235 => k_is)
    (case q236 => k_is)
    (case q237 => k_is)
    (case q238 => k_is)
    (case q239 => k_is)
    (case q240 => k_is)
    (case q241 => k_is)
    (case q242 => k_is)
    (case q243 => k_is)
    (case q244 => k_is)
    (case q245 => k_is)
    (case q246 => k_is)
    (case q247 => k_is)
    (case q248 => k_is)
    (case q249 => k_is)
    (case q250 => k_is)
    (case q251 => k_is)
    (case q252 => k_is)
    (case q253 => k_is)
    (case q254 => k_is)
    (case q255 => k_is)
    (case q256 => k_is)
    (case q257 => k_is)
    (case q258 => k_is)
    (case q259 => k_is)
    (case q260 => k_is)
    (case q261 => k_is)
    (case q262 => k_is)
    (case q263 => k_is)
    (case q264 => k_is)
    (case q265 => k_is)
    (case q266 => k_is)
    (case q267 => k_is)
    (case q268 => k_is)
    (case q269 => k_is)
    (case q270 => k_is)
    (case q271 => k_is)
    (case q272 => k_is)
    (case q273 => k_is)
    (case q274 => k_is)
    (case q275 => k_is)
    (case q276 => k_is)
    (case q277 => k_is)
    (case q278 => k_is)
    (case q279 => k_is)
    (case q280 => k_is)
    (case q281 => k_is)
    (case q282 => k_is)
    (case q283 => k_is)
    (case q284 => k_is)
    (case q285 => k_is)
    (case q286 => k_is)
    (case q287 => k_is)
    (case q288 => k_is)
    (case q289 => k_is)
    (case q290 => k_is)

