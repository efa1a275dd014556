import PyProof.Rows.All
import Wide.All
import OpenK.AllK
import Wide.FinOn
import HandS.ForMost
import HandS.Exc
import HandS.WordsExc
import HandS.Defaults
import HandS.IsInst
import HandS.Wide
import HandS.TupAny
import HandS.Small
import HandS.Style
import HandS.Text
import HandS.More
import PyProof.ReprRoads
import HandS.Zip
import KE.GoesEnum
import HandS.Deep
import HandS.Ends
import HandS.HeadEnd
import PyProof.Rows.SeqCalls
import HandS.Conv
import PySem.Challenge.RW_halverules_k66_whole_accepted_claims_are
import HandS.Head0
import HandS.Head1
import HandS.Head2
import HandS.HeadHook1
import HandS.HeadHook2
import HandS.HeadHook3
import HandS.HeadHook4
import KE.KStateDown
set_option Elab.async false
set_option linter.all false
set_option maxRecDepth 100000
set_option maxHeartbeats 1000000
/-! VLa: plain data for what a body handles, and what it means that a heap bears it. -/
namespace VL
open PySem PySem.Spec PyProof.Rows L2

/-- plain data -/
inductive D where
  | non | bl (b : Bool) | int (i : Int) | str (x : Str)
  | tup (xs : List D) | lst (xs : List D) | ins (c : Nat) (fs : List (Str × D)) | ty (n : String) | cls (c : Nat) | fl (xs : List D) | raw (v : V)
/-- the content of an object that may still change -/
inductive MO where
  | lst (xs : List D) | ins (c : Nat) (fs : List (Str × D))
def MO.toD : MO → D
  | .lst xs => .lst xs
  | .ins c fs => .ins c fs
/-- what a slot holds: nothing that is known, a value that stays, an object of the body's own, an object of the caller's that may be changed -/
inductive Sl where
  | no | val (d : D) | own (m : MO) | par (m : MO)
abbrev Env' := List Sl

section
variable (K : PySem.W.Frag) (cl : Nat → Addr)
mutual
def Rep (S : Hp) : D → V → Prop
  | .non, v => v = .non
  | .bl b, v => v = .bl b
  | .int i, v => v = .int i
  | .str x, v => v = .str x
  | .ty n, v => v = .ty n
  | .cls c, v => v = .ref (cl c)
  | .raw u, v => v = u
  | .tup xs, v => ∃ a vs, v = .ref a ∧ SqT K S a vs ∧ Reps S xs vs
  | .lst xs, v => ∃ a vs, v = .ref a ∧ S a = some (.lst vs) ∧ Reps S xs vs
  | .fl xs, v => ∃ a vs, v = .ref a ∧ SqL K S a vs ∧ Reps S xs vs
  | .ins c fs, v => ∃ a dx gs, v = .ref a ∧ S a = some (.ins (cl c) dx gs) ∧ RepF S fs gs
def Reps (S : Hp) : List D → List V → Prop
  | [], vs => vs = []
  | d :: ds, vs => ∃ v r, vs = v :: r ∧ Rep S d v ∧ Reps S ds r
def RepF (S : Hp) : List (Str × D) → List (Str × V) → Prop
  | [], gs => gs = []
  | p :: fs, gs => ∃ v r, gs = (p.1, v) :: r ∧ Rep S p.2 v ∧ RepF S fs r
end
end

/-- one abstract heap within another -/
abbrev Sub (S H : Hp) : Prop := ∀ b o, S b = some o → H b = some o
theorem Sub.t {K : PySem.W.Frag} {S H : Hp} {a : Addr} {vs : List V} (e : Sub S H) (h : SqT K S a vs) : SqT K H a vs := by
  rcases h with (h | ⟨o, h⟩) | h
  · exact .inl (.inl (e _ _ h))
  · exact .inl (.inr ⟨o, e _ _ h⟩)
  · exact .inr h
theorem Sub.l {K : PySem.W.Frag} {S H : Hp} {a : Addr} {vs : List V} (e : Sub S H) (h : SqL K S a vs) : SqL K H a vs := by
  rcases h with (h | ⟨o, h⟩) | h
  · exact .inl (.inl (e _ _ h))
  · exact .inl (.inr ⟨o, e _ _ h⟩)
  · exact .inr h
theorem Sub.r {S H : Hp} {a : Addr} {u : HO} (e : Sub S H) (h : Rd S a u) : Rd H a u := h.elim (fun h => .inl (e _ _ h)) fun ⟨o, h⟩ => .inr ⟨o, e _ _ h⟩
theorem Sub.rfl' {S : Hp} : Sub S S := fun _ _ h => h
theorem Sub.comp {A B C : Hp} (h : Sub A B) (g : Sub B C) : Sub A C := fun b o e => g b o (h b o e)
theorem Sub.upd {S : Hp} {a : Addr} {o : HO} (h : S a = none) : Sub S (upd S a o) := fun b u e => by
  rw [upd_ne (ne_of_none e h)]; exact e

section
variable {K : PySem.W.Frag} {cl : Nat → Addr} {S S' H H' : Hp}
mutual
theorem Rep.mono (e : Sub S S') : ∀ {d : D} {v : V}, Rep K cl S d v → Rep K cl S' d v
  | .non, _, h => h
  | .bl _, _, h => h
  | .int _, _, h => h
  | .str _, _, h => h
  | .ty _, _, h => h
  | .cls _, _, h => h
  | .raw _, _, h => h
  | .tup _, _, ⟨a, vs, h1, h2, h3⟩ => ⟨a, vs, h1, e.t h2, Reps.mono e h3⟩
  | .lst _, _, ⟨a, vs, h1, h2, h3⟩ => ⟨a, vs, h1, e _ _ h2, Reps.mono e h3⟩
  | .fl _, _, ⟨a, vs, h1, h2, h3⟩ => ⟨a, vs, h1, e.l h2, Reps.mono e h3⟩
  | .ins _ _, _, ⟨a, dx, gs, h1, h2, h3⟩ => ⟨a, dx, gs, h1, e _ _ h2, RepF.mono e h3⟩
theorem Reps.mono (e : Sub S S') : ∀ {ds : List D} {vs : List V}, Reps K cl S ds vs → Reps K cl S' ds vs
  | [], _, h => h
  | _ :: _, _, ⟨v, r, h1, h2, h3⟩ => ⟨v, r, h1, Rep.mono e h2, Reps.mono e h3⟩
theorem RepF.mono (e : Sub S S') : ∀ {fs : List (Str × D)} {gs : List (Str × V)}, RepF K cl S fs gs → RepF K cl S' fs gs
  | [], _, h => h
  | _ :: _, _, ⟨v, r, h1, h2, h3⟩ => ⟨v, r, h1, Rep.mono e h2, RepF.mono e h3⟩
end
theorem Reps.len : ∀ {ds : List D} {vs : List V}, Reps K cl S ds vs → ds.length = vs.length
  | [], _, h => by cases (show _ = [] from h); rfl
  | _ :: _, _, ⟨v, r, h1, _, h3⟩ => by subst h1; simp [Reps.len h3]
theorem Reps.get : ∀ {ds : List D} {vs : List V} {i : Nat} {d : D}, Reps K cl S ds vs → ds[i]? = some d → ∃ v, vs[i]? = some v ∧ Rep K cl S d v
  | [], _, _, _, _, h => by simp at h
  | _ :: _, _, 0, _, ⟨v, r, h1, h2, _⟩, h => by
    subst h1; simp at h; subst h; exact ⟨v, rfl, h2⟩
  | _ :: _, _, i + 1, _, ⟨v, r, h1, _, h3⟩, h => by
    subst h1
    obtain ⟨u, e, q⟩ := Reps.get (i := i) h3 (by simpa using h)
    exact ⟨u, by simpa using e, q⟩
theorem Reps.append : ∀ {ds es : List D} {vs us : List V}, Reps K cl S ds vs → Reps K cl S es us → Reps K cl S (ds ++ es) (vs ++ us)
  | [], _, _, _, h, g => by cases (show _ = [] from h); exact g
  | _ :: _, _, _, _, ⟨v, r, h1, h2, h3⟩, g => by subst h1; exact ⟨v, r ++ _, rfl, h2, Reps.append h3 g⟩
theorem Reps.one {d : D} {v : V} (h : Rep K cl S d v) : Reps K cl S [d] [v] := ⟨v, [], rfl, h, rfl⟩
theorem Reps.drop : ∀ {ds : List D} {vs : List V} (n : Nat), Reps K cl S ds vs → Reps K cl S (ds.drop n) (vs.drop n)
  | _, _, 0, h => h
  | [], _, n + 1, h => by cases (show _ = [] from h); rfl
  | _ :: _, _, n + 1, ⟨v, r, h1, _, h3⟩ => by subst h1; exact Reps.drop n h3
theorem Reps.take : ∀ {ds : List D} {vs : List V} (n : Nat), Reps K cl S ds vs → Reps K cl S (ds.take n) (vs.take n)
  | _, _, 0, _ => rfl
  | [], _, n + 1, h => by cases (show _ = [] from h); rfl
  | _ :: _, _, n + 1, ⟨v, r, h1, h2, h3⟩ => by subst h1; exact ⟨v, r.take n, rfl, h2, Reps.take n h3⟩
theorem Reps.set {d : D} {v : V} (q : Rep K cl S d v) : ∀ {ds : List D} {vs : List V} (n : Nat), Reps K cl S ds vs → Reps K cl S (ds.set n d) (vs.set n v)
  | [], _, _, h => by cases (show _ = [] from h); rfl
  | _ :: _, _, 0, ⟨w, r, h1, _, h3⟩ => by subst h1; exact ⟨v, r, rfl, q, h3⟩
  | _ :: _, _, n + 1, ⟨w, r, h1, h2, h3⟩ => by subst h1; exact ⟨w, r.set n v, rfl, h2, Reps.set q n h3⟩
theorem Reps.rev : ∀ {ds : List D} {vs : List V}, Reps K cl S ds vs → Reps K cl S ds.reverse vs.reverse
  | [], _, h => by cases (show _ = [] from h); rfl
  | _ :: _, _, ⟨w, r, h1, h2, h3⟩ => by
    subst h1
    rw [List.reverse_cons, List.reverse_cons]
    exact (Reps.rev h3).append (Reps.one h2)
theorem Reps.rep {d : D} {v : V} (q : Rep K cl S d v) : ∀ n : Nat, Reps K cl S (List.replicate n d) (List.replicate n v)
  | 0 => rfl
  | n + 1 => ⟨v, List.replicate n v, rfl, q, Reps.rep q n⟩
theorem RepF.look : ∀ {fs : List (Str × D)} {gs : List (Str × V)} {x : Str} {d : D}, RepF K cl S fs gs → fs.lookup x = some d → ∃ v, gs.lookup x = some v ∧ Rep K cl S d v
  | [], _, _, _, _, h => by simp at h
  | p :: fs, _, x, d, ⟨w, r, h1, h2, h3⟩, h => by
    subst h1
    obtain ⟨y, e⟩ := p
    rw [List.lookup_cons] at h ⊢
    by_cases hx : (x == y) = true
    · rw [hx] at h ⊢
      cases h
      exact ⟨w, rfl, h2⟩
    · rw [Bool.not_eq_true] at hx
      rw [hx] at h ⊢
      exact RepF.look h3 h
theorem RepF.look0 : ∀ {fs : List (Str × D)} {gs : List (Str × V)} {x : Str}, RepF K cl S fs gs → fs.lookup x = none → gs.lookup x = none
  | [], _, _, h, _ => by cases (show _ = [] from h); rfl
  | p :: fs, _, x, ⟨w, r, h1, _, h3⟩, h => by
    subst h1
    obtain ⟨y, e⟩ := p
    rw [List.lookup_cons] at h ⊢
    by_cases hx : (x == y) = true
    · rw [hx] at h; cases h
    · rw [Bool.not_eq_true] at hx
      rw [hx] at h ⊢
      exact RepF.look0 h3 h
theorem RepF.len : ∀ {fs : List (Str × D)} {gs : List (Str × V)}, RepF K cl S fs gs → fs.length = gs.length
  | [], _, h => by cases (show _ = [] from h); rfl
  | _ :: _, _, ⟨v, r, h1, _, h3⟩ => by subst h1; simp [RepF.len h3]
/-- a field stored -/
def putD (f : Str) (d : D) : List (Str × D) → List (Str × D)
  | [] => [(f, d)]
  | p :: fs => if p.1 = f then (f, d) :: fs else p :: putD f d fs
end
end VL

set_option Elab.async false
set_option linter.all false
set_option maxRecDepth 100000
set_option maxHeartbeats 1000000
/-! VLb: a state of a body, and what a step leaves as it was. -/
namespace VL
open PySem PySem.Spec PyProof.Rows L2
section
variable {K : PySem.W.Frag} {cl : Nat → Addr} {S S' S1 H H' H1 : Hp}
theorem RepF.put {f : Str} {d : D} {v : V} (q : Rep K cl S d v) : ∀ {fs : List (Str × D)} {gs : List (Str × V)}, RepF K cl S fs gs → RepF K cl S (putD f d fs) (putF f v gs)
  | [], _, h => by cases (show _ = [] from h); exact ⟨v, [], rfl, q, rfl⟩
  | p :: fs, _, ⟨w, r, h1, h2, h3⟩ => by
    subst h1
    obtain ⟨y, e⟩ := p
    unfold putD putF
    by_cases hx : y = f
    · subst hx
      rw [if_pos rfl, if_pos rfl]
      exact ⟨v, r, rfl, q, h3⟩
    · rw [if_neg hx, if_neg hx]
      exact ⟨w, putF f v r, rfl, h2, RepF.put q h3⟩
/-- at a: the content m, of things that stay; a itself may change -/
def OwnAt (K : PySem.W.Frag) (cl : Nat → Addr) (H S : Hp) (a : Addr) : MO → Prop
  | .lst xs => S a = none ∧ ∃ vs, H a = some (.lst vs) ∧ Reps K cl S xs vs
  | .ins c fs => S a = none ∧ ∃ dx gs, H a = some (.ins (cl c) dx gs) ∧ RepF K cl S fs gs
theorem OwnAt.free {a : Addr} : ∀ {m : MO}, OwnAt K cl H S a m → S a = none
  | .lst _, h => h.1
  | .ins _ _, h => h.1
theorem OwnAt.there {a : Addr} : ∀ {m : MO}, OwnAt K cl H S a m → ∃ o, H a = some o
  | .lst _, ⟨_, vs, h, _⟩ => ⟨_, h⟩
  | .ins _ _, ⟨_, dx, gs, h, _⟩ => ⟨_, h⟩
theorem OwnAt.move {a : Addr} (e : Sub S S') (h0 : S' a = none) (ha : ∀ o, H a = some o → H' a = some o) : ∀ {m : MO}, OwnAt K cl H S a m → OwnAt K cl H' S' a m
  | .lst _, ⟨_, vs, h, r⟩ => ⟨h0, vs, ha _ h, r.mono e⟩
  | .ins _ _, ⟨_, dx, gs, h, r⟩ => ⟨h0, dx, gs, ha _ h, r.mono e⟩
/-- an owned object turned into one that stays -/
theorem OwnAt.share {a : Addr} {o : HO} (ho : H a = some o) : ∀ {m : MO}, OwnAt K cl H S a m → Rep K cl (upd S a o) m.toD (.ref a)
  | .lst _, ⟨h0, vs, h, r⟩ => by
    rw [h] at ho; cases ho
    exact ⟨a, vs, rfl, upd_same, r.mono (Sub.upd h0)⟩
  | .ins _ _, ⟨h0, dx, gs, h, r⟩ => by
    rw [h] at ho; cases ho
    exact ⟨a, dx, gs, rfl, upd_same, r.mono (Sub.upd h0)⟩

def Sl.mo : Sl → Option MO
  | .own m => some m
  | .par m => some m
  | _ => none
/-- the object at b may be changed through a slot -/
def Owned (σ : L2.St) (env : Env') (b : Addr) : Prop := ∃ (i : Nat) (l : Sl) (m : MO), env[i]? = some l ∧ l.mo = some m ∧ σ[i]? = some (some (.ref b))
structure SOk (K : PySem.W.Frag) (cl : Nat → Addr) (σ : L2.St) (H S : Hp) (env : Env') : Prop where
  sub : Sub S H
  len : env.length = σ.length
  val : ∀ (i : Nat) (d : D), env[i]? = some (.val d) → ∃ v, σ[i]? = some (some v) ∧ Rep K cl S d v
  own : ∀ (i : Nat) (l : Sl) (m : MO), env[i]? = some l → l.mo = some m → ∃ a, σ[i]? = some (some (.ref a)) ∧ OwnAt K cl H S a m
  dis : ∀ (i j : Nat) (l l' : Sl) (m m' : MO) (a : Addr), env[i]? = some l → l.mo = some m → env[j]? = some l' → l'.mo = some m' → σ[i]? = some (some (.ref a)) → σ[j]? = some (some (.ref a)) → i = j
structure Fr (σ : L2.St) (env : Env') (H S : Hp) (σ' : L2.St) (env' : Env') (H' S' : Hp) : Prop where
  keep : ∀ b o, H b = some o → ¬ Owned σ env b → H' b = some o
  mono : Sub S S'
  priv : ∀ b o, H b = some o → S b = none → ¬ Owned σ env b → S' b = none
  back : ∀ b, Owned σ' env' b → Owned σ env b ∨ H b = none
  par : ∀ (i : Nat) (m : MO), env[i]? = some (.par m) → σ'[i]? = σ[i]? ∧ ∃ m', env'[i]? = some (.par m')
theorem Fr.same {σ : L2.St} {env : Env'} : Fr σ env H S σ env H S := ⟨fun _ _ h _ => h, Sub.rfl', fun _ _ _ h _ => h, fun _ h => .inl h, fun _ m h => ⟨rfl, m, h⟩⟩
theorem Fr.trans {σ σ1 σ2 : L2.St} {env env1 env2 : Env'} {H2 S2 : Hp} (a : Fr σ env H S σ1 env1 H1 S1) (b : Fr σ1 env1 H1 S1 σ2 env2 H2 S2) : Fr σ env H S σ2 env2 H2 S2 where
  keep := fun c o h n => b.keep c o (a.keep c o h n) fun q => (a.back c q).elim n fun z => by rw [z] at h; cases h
  mono := a.mono.comp b.mono
  priv := fun c o h s n => b.priv c o (a.keep c o h n) (a.priv c o h s n) fun q => (a.back c q).elim n fun z => by rw [z] at h; cases h
  back := fun c q => (b.back c q).elim (a.back c) fun z => by
    by_cases n : Owned σ env c
    · exact .inl n
    · cases h : H c with
      | none => exact .inr rfl
      | some o => rw [a.keep c o h n] at z; cases z
  par := fun i m h => by
    obtain ⟨e1, m1, h1⟩ := a.par i m h
    obtain ⟨e2, m2, h2⟩ := b.par i m1 h1
    exact ⟨e2.trans e1, m2, h2⟩
theorem SOk.there {σ : L2.St} {env : Env'} {b : Addr} (s : SOk K cl σ H S env) (h : Owned σ env b) : ∃ o, H b = some o := by
  obtain ⟨i, l, m, h1, h2, h3⟩ := h
  obtain ⟨a, e, q⟩ := s.own i l m h1 h2
  rw [h3] at e; cases e
  exact q.there
theorem SOk.priv {σ : L2.St} {env : Env'} {b : Addr} (s : SOk K cl σ H S env) (h : Owned σ env b) : S b = none := by
  obtain ⟨i, l, m, h1, h2, h3⟩ := h
  obtain ⟨a, e, q⟩ := s.own i l m h1 h2
  rw [h3] at e; cases e
  exact q.free
/-- the heap grows, nothing that stood is touched -/
structure Gr (H S H' S' : Hp) : Prop where
  keep : Sub H H'
  mono : Sub S S'
  sub : Sub S' H'
  priv : ∀ b o, H b = some o → S b = none → S' b = none
theorem Gr.same (h : Sub S H) : Gr H S H S := ⟨Sub.rfl', Sub.rfl', h, fun _ _ _ h => h⟩
theorem Gr.trans {H2 S2 : Hp} (a : Gr H S H1 S1) (b : Gr H1 S1 H2 S2) : Gr H S H2 S2 :=
  ⟨a.keep.comp b.keep, a.mono.comp b.mono, b.sub, fun c o h s => b.priv c o (a.keep c o h) (a.priv c o h s)⟩
theorem SOk.gr {σ : L2.St} {env : Env'} (s : SOk K cl σ H S env) (g : Gr H S H' S') : SOk K cl σ H' S' env where
  sub := g.sub
  len := s.len
  val := fun i d h => let ⟨v, e, r⟩ := s.val i d h; ⟨v, e, r.mono g.mono⟩
  own := fun i l m h h2 => by
    obtain ⟨a, e, r⟩ := s.own i l m h h2
    obtain ⟨o, ho⟩ := r.there
    exact ⟨a, e, r.move g.mono (g.priv a o ho r.free) fun o h => g.keep a o h⟩
  dis := s.dis
theorem SOk.fr {σ : L2.St} {env : Env'} (s : SOk K cl σ H S env) (g : Gr H S H' S') : Fr σ env H S σ env H' S' :=
  ⟨fun b o h _ => g.keep b o h, g.mono, fun b o h s _ => g.priv b o h s, fun _ h => .inl h, fun _ m h => ⟨rfl, m, h⟩⟩

/-- an object that no slot holds is let stay -/
theorem SOk.shareNew {σ : L2.St} {env : Env'} {a : Addr} {m : MO} {o : HO} (s : SOk K cl σ H S env) (q : OwnAt K cl H S a m) (ho : H a = some o) (n : ¬ Owned σ env a) : SOk K cl σ H (upd S a o) env where
  sub := fun b u h => by
    by_cases hb : b = a
    · subst hb; rw [upd_same] at h; cases h; exact ho
    · rw [upd_ne hb] at h; exact s.sub b u h
  len := s.len
  val := fun i d h => let ⟨v, e, r⟩ := s.val i d h; ⟨v, e, r.mono (Sub.upd q.free)⟩
  own := fun i l m' h h2 => by
    obtain ⟨b, e, r⟩ := s.own i l m' h h2
    refine ⟨b, e, r.move (Sub.upd q.free) ?_ fun _ h => h⟩
    rw [upd_ne (fun z => n (by subst z; exact ⟨i, l, m', h, h2, e⟩))]
    exact r.free
  dis := s.dis
/-- sharing touches nothing else -/
theorem Fr.shareNew {σ : L2.St} {env : Env'} {a : Addr} {o : HO} (hs : S a = none) (hn : ∀ o, H a ≠ some o) : Fr σ env H S σ env H (upd S a o) := by
  refine ⟨fun _ _ h _ => h, Sub.upd hs, fun b u h hb _ => ?_, fun _ h => .inl h, fun _ m h => ⟨rfl, m, h⟩⟩
  rw [upd_ne (fun z => by subst z; exact hn _ h)]
  exact hb
end
end VL

set_option Elab.async false
set_option linter.all false
set_option maxRecDepth 100000
set_option maxHeartbeats 1000000
/-! VLc: what an expression makes of plain data; names, constants, operators, argument lists. -/
namespace VL
open PySem PySem.Spec PyProof.Rows L2
/-- what an expression comes to: a value that stays; the object of a slot; a new object that nothing else holds -/
inductive Bv where
  | val (d : D) | slot (i : Nat) | new (m : MO)
abbrev Ev := Env' → Option (Bv × Env')
def BvOk (K : PySem.W.Frag) (cl : Nat → Addr) (σ : L2.St) (env : Env') (H : Hp) (env' : Env') (H' S' : Hp) : Bv → V → Prop
  | .val d, v => Rep K cl S' d v
  | .slot i, v => σ[i]? = some (some v)
  | .new m, v => ∃ a, v = .ref a ∧ OwnAt K cl H' S' a m ∧ ¬ Owned σ env' a ∧ (Owned σ env a ∨ H a = none)
/-- the reading of an expression by its function on plain data -/
def tE (K : PySem.W.Frag) (cl : Nat → Addr) (f : Ev) : TE := fun σ H Q => ∃ S env bv env', SOk K cl σ H S env ∧ f env = some (bv, env') ∧
  ∀ v H' S', SOk K cl σ H' S' env' → Fr σ env H S σ env' H' S' → BvOk K cl σ env H env' H' S' bv v → Q v H'
abbrev EX (X : Cx) (cl : Nat → Addr) (e : Expr) (f : Ev) : Prop := PE X e (tE X.K cl f)
theorem pe_mono {X : Cx} {e : Expr} {t t' : TE} (h : PE X e t) (w : ∀ σ H Q, t' σ H Q → t σ H Q) : PE X e t' := ⟨fun pins s σ H Q I q => h.run pins s σ H Q I (w σ H Q q)⟩
theorem pt_mono {X : Cx} {e : Expr} {t t' : TT} (h : PT X e t) (w : ∀ σ H Q, t' σ H Q → t σ H Q) : PT X e t' := ⟨fun pins s σ H Q I q => h.run pins s σ H Q I (w σ H Q q)⟩
theorem pa_mono {X : Cx} {es : List Expr} {t t' : TA} (h : PA X es t) (w : ∀ σ H Q, t' σ H Q → t σ H Q) : PA X es t' := ⟨fun pos pins s σ H Q I q => h.run pos pins s σ H Q I (w σ H Q q)⟩
theorem ps_mono {X : Cx} {st : Stmt} {t t' : TS} (h : PS X st t) (w : ∀ D σ H, t' D σ H → t D σ H) : PS X st t' := ⟨fun pins s σ H D I q => h.run pins s σ H D I (w D σ H q)⟩
theorem pss_mono {X : Cx} {st : List Stmt} {t t' : TS} (h : PSs X st t) (w : ∀ D σ H, t' D σ H → t D σ H) : PSs X st t' := ⟨fun pins s σ H D I q => h.run pins s σ H D I (w D σ H q)⟩

section
variable {K : PySem.W.Frag} {cl : Nat → Addr} {σ σ1 : L2.St} {H S H1 S1 H' S' : Hp} {env env1 env' : Env'}
theorem Fr.fresh {a : Addr} (f : Fr σ env H S σ1 env1 H1 S1) (h : H1 a = none) : Owned σ env a ∨ H a = none := by
  by_cases n : Owned σ env a
  · exact .inl n
  · cases q : H a with
    | none => exact .inr rfl
    | some o => rw [f.keep a o q n] at h; cases h
theorem Fr.origin {a : Addr} (f : Fr σ env H S σ1 env1 H1 S1) (h : Owned σ1 env1 a ∨ H1 a = none) : Owned σ env a ∨ H a = none := h.elim (f.back a) f.fresh
/-- a value read where it stands: its outermost list or instance may still be somebody's own -/
def RepB (K : PySem.W.Frag) (cl : Nat → Addr) (H S : Hp) : D → V → Prop
  | .lst xs, v => ∃ a vs, v = .ref a ∧ H a = some (.lst vs) ∧ Reps K cl S xs vs
  | .fl xs, v => ∃ a vs, v = .ref a ∧ SqL K H a vs ∧ Reps K cl S xs vs
  | .ins c fs, v => ∃ a dx gs, v = .ref a ∧ H a = some (.ins (cl c) dx gs) ∧ RepF K cl S fs gs
  | d, v => Rep K cl S d v
theorem Rep.b (h : Sub S H) : ∀ {d : D} {v : V}, Rep K cl S d v → RepB K cl H S d v
  | .non, _, q => q
  | .bl _, _, q => q
  | .int _, _, q => q
  | .str _, _, q => q
  | .ty _, _, q => q
  | .cls _, _, q => q
  | .raw _, _, q => q
  | .tup _, _, q => q
  | .lst _, _, ⟨a, vs, e, q, r⟩ => ⟨a, vs, e, h _ _ q, r⟩
  | .fl _, _, ⟨a, vs, e, q, r⟩ => ⟨a, vs, e, h.l q, r⟩
  | .ins _ _, _, ⟨a, dx, gs, e, q, r⟩ => ⟨a, dx, gs, e, h _ _ q, r⟩
theorem OwnAt.b {a : Addr} : ∀ {m : MO}, OwnAt K cl H S a m → RepB K cl H S m.toD (.ref a)
  | .lst _, ⟨_, vs, h, r⟩ => ⟨a, vs, rfl, h, r⟩
  | .ins _ _, ⟨_, dx, gs, h, r⟩ => ⟨a, dx, gs, rfl, h, r⟩
def Bv.get (env : Env') : Bv → Option D
  | .val d => some d
  | .slot i => match env[i]? with
    | some (.val d) => some d
    | some (.own m) => some m.toD
    | some (.par m) => some m.toD
    | _ => none
  | .new _ => none
/-- what is known of an operand -/
def BvAt (K : PySem.W.Frag) (cl : Nat → Addr) (σ : L2.St) (S : Hp) : Bv → V → Prop
  | .val d, v => Rep K cl S d v
  | .slot i, v => σ[i]? = some (some v)
  | .new _, _ => False
theorem BvAt.mono {bv : Bv} {v : V} (h : BvAt K cl σ S bv v) (e : Sub S S') : BvAt K cl σ S' bv v := by
  cases bv with
  | val d => exact Rep.mono e h
  | slot i => exact h
  | new m => exact h
theorem BvAt.get {bv : Bv} {v : V} {d : D} (h : BvAt K cl σ S bv v) (s : SOk K cl σ H S env) (g : bv.get env = some d) : RepB K cl H S d v := by
  cases bv with
  | val d' =>
    have e : d' = d := Option.some.inj g
    subst e
    exact Rep.b s.sub h
  | new m => exact h.elim
  | slot i =>
    have g' : (match env[i]? with | some (.val d) => some d | some (.own m) => some m.toD | some (.par m) => some m.toD | _ => none) = some d := g
    have h' : σ[i]? = some (some v) := h
    cases e : env[i]? with
    | none => rw [e] at g'; cases g'
    | some l =>
      rw [e] at g'
      cases l with
      | no => cases g'
      | val d' =>
        cases g'
        obtain ⟨u, e1, r⟩ := s.val i _ e
        rw [h'] at e1; cases e1
        exact Rep.b s.sub r
      | own m =>
        cases g'
        obtain ⟨a, e1, r⟩ := s.own i _ m e rfl
        rw [h'] at e1; cases e1
        exact r.b
      | par m =>
        cases g'
        obtain ⟨a, e1, r⟩ := s.own i _ m e rfl
        rw [h'] at e1; cases e1
        exact r.b
/-- new objects are let stay -/
def fzn (f : Ev) : Ev := fun env => match f env with
  | some (.new m, env') => some (.val m.toD, env')
  | r => r
/-- what is let stay at the end of an expression -/
theorem fzn_some {f : Ev} {bv : Bv} (h : fzn f env = some (bv, env')) : (f env = some (bv, env') ∧ ∀ m, bv ≠ .new m) ∨ ∃ m, f env = some (.new m, env') ∧ bv = .val m.toD := by
  unfold fzn at h
  split at h
  · rename_i m e q
    cases h
    exact .inr ⟨m, q, rfl⟩
  · rename_i r n
    refine .inl ⟨h, fun m z => ?_⟩
    subst z
    exact n m env' h
theorem ex_fzn {X : Cx} {e : Expr} {f : Ev} (h : EX X cl e f) : EX X cl e (fzn f) := pe_mono h fun σ H Q ⟨S, env, bv, env', s, g, q⟩ => by
  rcases fzn_some g with ⟨g1, n⟩ | ⟨m, g1, rfl⟩
  · exact ⟨S, env, bv, env', s, g1, q⟩
  · refine ⟨S, env, _, env', s, g1, fun v H' S' s' f' ⟨a, e1, o, no, ori⟩ => ?_⟩
    subst e1
    obtain ⟨u, hu⟩ := o.there
    refine q (.ref a) H' (upd S' a u) (s'.shareNew o hu no) ?_ (o.share hu)
    refine ⟨f'.keep, f'.mono.comp (Sub.upd o.free), fun b w h h2 h3 => ?_, f'.back, f'.par⟩
    by_cases hb : b = a
    · subst hb
      rcases ori with z | z
      · exact absurd z h3
      · rw [z] at h; cases h
    · rw [upd_ne hb]; exact f'.priv b w h h2 h3
/-- operands: never new -/
theorem fzn_at {f : Ev} {bv : Bv} {v : V} (h : fzn f env = some (bv, env')) (b : BvOk K cl σ env H env' H' S' bv v) : BvAt K cl σ S' bv v := by
  rcases fzn_some h with ⟨_, n⟩ | ⟨m, _, rfl⟩
  · cases bv with
    | val d => exact b
    | slot i => exact b
    | new m => exact absurd rfl (n m)
  · exact b

/-! ### names, constants -/
def fVar (i : Nat) : Ev := fun env => match env[i]? with
  | some (.val d) => some (.val d, env)
  | some (.own _) => some (.slot i, env)
  | some (.par _) => some (.slot i, env)
  | _ => none
theorem ex_of_var {X : Cx} {e : Expr} {i : Nat} (h : PE X e (tVar i)) : EX X cl e (fVar i) := pe_mono h fun σ H Q ⟨S, env, bv, env', s, g, q⟩ => by
  unfold fVar at g
  split at g
  · rename_i d e
    cases g
    obtain ⟨v, e1, r⟩ := s.val i d e
    exact ⟨v, e1, q v H S s .same r⟩
  · rename_i m e
    cases g
    obtain ⟨a, e1, r⟩ := s.own i _ m e rfl
    exact ⟨.ref a, e1, q _ H S s .same e1⟩
  · rename_i m e
    cases g
    obtain ⟨a, e1, r⟩ := s.own i _ m e rfl
    exact ⟨.ref a, e1, q _ H S s .same e1⟩
  · cases g
def fC (d : D) : Ev := fun env => some (.val d, env)
theorem ex_of_c {X : Cx} {e : Expr} {d : D} {v : V} (h : PE X e (tC v)) (r : ∀ S, Rep X.K cl S d v) : EX X cl e (fC d) := pe_mono h fun σ H Q ⟨S, env, bv, env', s, g, q⟩ => by
  cases g
  exact q v H S s .same (r S)
/-- never comes to an end (code that is not reached) -/
def fNever : Ev := fun _ => none
theorem ex_never {X : Cx} {e : Expr} : EX X cl e fNever := ⟨fun _ _ _ _ _ _ ⟨_, _, _, _, _, g, _⟩ => by cases g⟩

/-! ### operations by values -/
def BvN (K : PySem.W.Frag) (cl : Nat → Addr) (H H' S' : Hp) : Bv → V → Prop
  | .val d, v => Rep K cl S' d v
  | .slot _, _ => False
  | .new m, v => ∃ a, v = .ref a ∧ OwnAt K cl H' S' a m ∧ H a = none
theorem BvN.ok {env0 : Env'} {H0 S0 : Hp} {bv : Bv} {v : V} (b : BvN K cl H H' S' bv v) (s : SOk K cl σ H S env) (f : Fr σ env0 H0 S0 σ env H S) : BvOk K cl σ env0 H0 env H' S' bv v := by
  cases bv with
  | val d => exact b
  | slot i => exact b.elim
  | new m =>
    obtain ⟨a, e, o, n⟩ := b
    refine ⟨a, e, o, fun z => ?_, f.fresh n⟩
    obtain ⟨u, hu⟩ := s.there z
    rw [n] at hu; cases hu
def LinkN (K : PySem.W.Frag) (cl : Nat → Addr) (r : List V → Hp → VK → Prop) (g : List D → Option Bv) : Prop :=
  ∀ (H S : Hp) (ds : List D) (vs : List V) (bv : Bv) (Q : VK), Sub S H → Paired (RepB K cl H S) ds vs → g ds = some bv →
    (∀ v H' S', Gr H S H' S' → BvN K cl H H' S' bv v → Q v H') → r vs H Q
def Link2 (K : PySem.W.Frag) (cl : Nat → Addr) (r : R2) (g : D → D → Option Bv) : Prop :=
  ∀ (H S : Hp) (d e : D) (v u : V) (bv : Bv) (Q : VK), Sub S H → RepB K cl H S d v → RepB K cl H S e u → g d e = some bv →
    (∀ v H' S', Gr H S H' S' → BvN K cl H H' S' bv v → Q v H') → r v u H Q
def Link1 (K : PySem.W.Frag) (cl : Nat → Addr) (r : V → Hp → VK → Prop) (g : D → Option Bv) : Prop :=
  ∀ (H S : Hp) (d : D) (v : V) (bv : Bv) (Q : VK), Sub S H → RepB K cl H S d v → g d = some bv →
    (∀ v H' S', Gr H S H' S' → BvN K cl H H' S' bv v → Q v H') → r v H Q
theorem Link2.or {r r' : R2} {g g' : D → D → Option Bv} (a : Link2 K cl r g) (b : Link2 K cl r' g') : Link2 K cl (fun x y H Q => r x y H Q ∨ r' x y H Q) (fun d e => (g d e).or (g' d e)) :=
  fun H S d e v u bv Q h1 h2 h3 h4 h5 => by
    have h4 : (g d e).or (g' d e) = some bv := h4
    cases q : g d e with
    | some z =>
      rw [q] at h4
      have h4' : z = bv := Option.some.inj h4
      subst h4'
      exact .inl (a H S d e v u z Q h1 h2 h3 q h5)
    | none =>
      rw [q] at h4
      exact .inr (b H S d e v u bv Q h1 h2 h3 h4 h5)
def e1 (g : D → Option Bv) (fa : Ev) : Ev := fun env => match fzn fa env with
  | some (b, env1) => match b.get env1 with
    | some d => (g d).map fun r => (r, env1)
    | none => none
  | none => none
theorem e1_some {g : D → Option Bv} {fa : Ev} {bv : Bv} (h : e1 g fa env = some (bv, env')) : ∃ b d, fzn fa env = some (b, env') ∧ b.get env' = some d ∧ g d = some bv := by
  unfold e1 at h
  split at h
  · rename_i b env1 q
    split at h
    · rename_i d q2
      obtain ⟨r, q3, q4⟩ := Option.map_eq_some_iff.mp h
      cases q4
      exact ⟨b, d, q, q2, q3⟩
    · cases h
  · cases h
def e2 (g : D → D → Option Bv) (fa fb : Ev) : Ev := fun env => match fzn fa env with
  | some (b, env1) => match fzn fb env1 with
    | some (c, env2) => match b.get env2, c.get env2 with
      | some d, some e => (g d e).map fun r => (r, env2)
      | _, _ => none
    | none => none
  | none => none
theorem e2_some {g : D → D → Option Bv} {fa fb : Ev} {bv : Bv} (h : e2 g fa fb env = some (bv, env')) :
    ∃ b c d e env1, fzn fa env = some (b, env1) ∧ fzn fb env1 = some (c, env') ∧ b.get env' = some d ∧ c.get env' = some e ∧ g d e = some bv := by
  unfold e2 at h
  split at h
  · rename_i b env1 q
    split at h
    · rename_i c env2 q2
      split at h
      · rename_i d e q3 q4
        obtain ⟨r, q5, q6⟩ := Option.map_eq_some_iff.mp h
        cases q6
        exact ⟨b, c, d, e, env1, q, q2, q3, q4, q5⟩
      · cases h
    · cases h
  · cases h
/-- an operand in its reading: what it comes to, and the rest -/
theorem tE_fzn {f : Ev} {bv : Bv} {Q : VK} (s : SOk K cl σ H S env) (g : fzn f env = some (bv, env'))
    (q : ∀ v H' S', SOk K cl σ H' S' env' → Fr σ env H S σ env' H' S' → BvAt K cl σ S' bv v → Q v H') : tE K cl (fzn f) σ H Q :=
  ⟨S, env, bv, env', s, g, fun v H' S' s' f' b => q v H' S' s' f' (fzn_at g b)⟩
section
variable {X : Cx} {a b : Expr} {fa fb : Ev} {pos : Pos}
theorem ex_un {op : UnaryOp} {r : V → Hp → VK → Prop} {g : D → Option Bv} (ho : UnR X (unaryOp op) r) (hl : Link1 X.K cl r g) (ha : EX X cl a fa) : EX X cl (.UnaryOp op a pos) (e1 g fa) :=
  pe_mono (pe_un ho (ex_fzn ha)) fun σ H Q ⟨S, env, bv, env', s, w, q⟩ => by
    obtain ⟨b, d, w1, w2, w3⟩ := e1_some w
    refine tE_fzn s w1 fun v H1 S1 s1 f1 b1 => ?_
    exact hl H1 S1 d v bv Q s1.sub (b1.get s1 w2) w3 fun v2 H2 S2 g2 b2 => q v2 H2 S2 (s1.gr g2) (f1.trans (s1.fr g2)) (b2.ok s1 f1)
theorem t_e2 {r : R2} {g : D → D → Option Bv} (hl : Link2 K cl r g) {Q : VK} {σ : L2.St} {H : Hp} (h : tE K cl (e2 g fa fb) σ H Q) : tOp r (tE K cl (fzn fa)) (tE K cl (fzn fb)) σ H Q := by
  obtain ⟨S, env, bv, env', s, w, q⟩ := h
  obtain ⟨b, c, d, e, env1, w1, w2, w3, w4, w5⟩ := e2_some w
  refine tE_fzn s w1 fun v H1 S1 s1 f1 b1 => ?_
  refine tE_fzn s1 w2 fun u H2 S2 s2 f2 b2 => ?_
  exact hl H2 S2 d e v u bv Q s2.sub ((b1.mono f2.mono).get s2 w3) (b2.get s2 w4) w5 fun v3 H3 S3 g3 b3 => q v3 H3 S3 (s2.gr g3) ((f1.trans f2).trans (s2.fr g3)) (b3.ok s2 (f1.trans f2))
theorem ex_op {op : Operator} {r : R2} {g : D → D → Option Bv} (ho : OpR X (binaryOp op) r) (hl : Link2 X.K cl r g) (ha : EX X cl a fa) (hb : EX X cl b fb) : EX X cl (.BinOp a op b pos) (e2 g fa fb) :=
  pe_mono (pe_op ho (ex_fzn ha) (ex_fzn hb)) fun _ _ _ h => t_e2 hl h
theorem ex_cmp {op : CmpOp} {r : R2} {g : D → D → Option Bv} (ho : OpR X (compareOp op) r) (hl : Link2 X.K cl r g) (ha : EX X cl a fa) (hb : EX X cl b fb) (hm : behindInMarks op b = false) : EX X cl (.Compare a [op] [b] pos) (e2 g fa fb) :=
  pe_mono (pe_cmpR ho (ex_fzn ha) (ex_fzn hb) hm) fun _ _ _ h => t_e2 hl h
theorem ex_ix {r : R2} {g : D → D → Option Bv} (hr : IxR X r) (hl : Link2 X.K cl r g) (ha : EX X cl a fa) (hb : EX X cl b fb) (hs : PlainIx b) : EX X cl (.Subscript a b pos) (e2 g fa fb) :=
  pe_mono (pe_ix hr (ex_fzn ha) (ex_fzn hb) hs) fun _ _ _ h => t_e2 hl h
end

/-! ### argument lists -/
abbrev Evs := Env' → Option (List Bv × Env')
def aNil : Evs := fun env => some ([], env)
def aCons (f : Ev) (r : Evs) : Evs := fun env => match fzn f env with
  | some (b, env1) => (r env1).map fun p => (b :: p.1, p.2)
  | none => none
theorem aCons_some {f : Ev} {r : Evs} {bs : List Bv} (h : aCons f r env = some (bs, env')) : ∃ b cs env1, fzn f env = some (b, env1) ∧ r env1 = some (cs, env') ∧ bs = b :: cs := by
  unfold aCons at h
  split at h
  · rename_i b env1 q
    obtain ⟨p, q1, q2⟩ := Option.map_eq_some_iff.mp h
    obtain ⟨cs, e2⟩ := p
    cases q2
    exact ⟨b, cs, env1, q, q1, rfl⟩
  · cases h
def tAs (K : PySem.W.Frag) (cl : Nat → Addr) (f : Evs) : TA := fun σ H Q => ∃ S env bs env', SOk K cl σ H S env ∧ f env = some (bs, env') ∧
  ∀ vs H' S', SOk K cl σ H' S' env' → Fr σ env H S σ env' H' S' → Paired (BvAt K cl σ S') bs vs → Q vs H'
abbrev AX (X : Cx) (cl : Nat → Addr) (es : List Expr) (f : Evs) : Prop := PA X es (tAs X.K cl f)
theorem fa_mono {bs : List Bv} {vs : List V} (h : Paired (BvAt K cl σ S) bs vs) (e : Sub S S') : Paired (BvAt K cl σ S') bs vs := by
  induction h with
  | nil => exact .nil
  | cons a _ ih => exact .cons (a.mono e) ih
theorem ax_nil {X : Cx} : AX X cl [] aNil := pa_mono pa_nil fun σ H Q ⟨S, env, bs, env', s, w, q⟩ => by
  cases w
  exact q [] H S s .same .nil
theorem ax_cons {X : Cx} {e : Expr} {es : List Expr} {f : Ev} {r : Evs} (h : EX X cl e f) (hr : AX X cl es r) (hs : starEach (e :: es) X.env = (false, eval e X.env) :: starEach es X.env := by rfl) : AX X cl (e :: es) (aCons f r) :=
  pa_mono (pa_cons (ex_fzn h) hr hs) fun σ H Q ⟨S, env, bs, env', s, w, q⟩ => by
    obtain ⟨b, cs, env1, w1, w2, rfl⟩ := aCons_some w
    refine tE_fzn s w1 fun v H1 S1 s1 f1 b1 => ?_
    exact ⟨S1, env1, cs, env', s1, w2, fun vs H2 S2 s2 f2 b2 => q (v :: vs) H2 S2 s2 (f1.trans f2) (.cons (b1.mono f2.mono) b2)⟩
/-- the data of the operands, at the end -/
def gets (env : Env') : List Bv → Option (List D)
  | [] => some []
  | b :: bs => match b.get env, gets env bs with
    | some d, some ds => some (d :: ds)
    | _, _ => none
theorem gets_ok (s : SOk K cl σ H S env) : ∀ {bs : List Bv} {vs : List V} {ds : List D}, Paired (BvAt K cl σ S) bs vs → gets env bs = some ds → Paired (RepB K cl H S) ds vs
  | _, _, _, .nil, h => by cases h; exact .nil
  | b :: bs, v :: vs, _, .cons h1 h2, h => by
    unfold gets at h
    split at h
    · rename_i d ds q1 q2
      cases h
      exact .cons (h1.get s q1) (gets_ok s h2 q2)
    · cases h
def eN (g : List D → Option Bv) (f : Evs) : Ev := fun env => match f env with
  | some (bs, env1) => match gets env1 bs with
    | some ds => (g ds).map fun r => (r, env1)
    | none => none
  | none => none
theorem eN_some {g : List D → Option Bv} {f : Evs} {bv : Bv} (h : eN g f env = some (bv, env')) : ∃ bs ds, f env = some (bs, env') ∧ gets env' bs = some ds ∧ g ds = some bv := by
  unfold eN at h
  split at h
  · rename_i bs env1 q
    split at h
    · rename_i ds q2
      obtain ⟨r, q3, q4⟩ := Option.map_eq_some_iff.mp h
      cases q4
      exact ⟨bs, ds, q, q2, q3⟩
    · cases h
  · cases h
theorem t_eN {r : List V → Hp → VK → Prop} {g : List D → Option Bv} {f : Evs} (hl : LinkN K cl r g) {Q : VK} {σ : L2.St} {H : Hp} (h : tE K cl (eN g f) σ H Q) : tAs K cl f σ H fun vs H1 => r vs H1 Q := by
  obtain ⟨S, env, bv, env', s, w, q⟩ := h
  obtain ⟨bs, ds, w1, w2, w3⟩ := eN_some w
  exact ⟨S, env, bs, env', s, w1, fun vs H1 S1 s1 f1 b1 => hl H1 S1 ds vs bv Q s1.sub (gets_ok s1 b1 w2) w3 fun v2 H2 S2 g2 b2 => q v2 H2 S2 (s1.gr g2) (f1.trans (s1.fr g2)) (b2.ok s1 f1)⟩
section
variable {X : Cx} {x : Str} {p pos : Pos} {e : Expr} {es : List Expr} {f : Evs} {id T : String} {r : List V → Hp → VK → Prop} {g : List D → Option Bv}
theorem ex_callB (hc : CallR X (.builtin id) r) (hl : LinkN X.K cl r g) (hg : Gl X x) (hm : X.mg x = none) (hv : bootBuiltins x = some (.builtin id)) (ha : AX X cl (e :: es) f) (hn : x ≠ "__name__" := by decide) (hdb : (x == ("__debug__" : Str)) = false := by decide)
    (he : starEach (e :: es) X.env = (false, eval e X.env) :: starEach es X.env := by rfl) (hpl : (backTo pos (starEach es X.env)).any (·.1) = false := by rfl) : EX X cl (.Call (.Name x p) (e :: es) [] pos) (eN g f) :=
  pe_mono (pe_callB hc hg hm hv ha hn hdb he hpl) fun _ _ _ h => t_eN hl h
theorem ex_callTy (hc : CallR X (.type T) r) (hl : LinkN X.K cl r g) (hg : Gl X x) (hm : X.mg x = none) (hv : bootBuiltins x = some (.type T)) (ha : AX X cl (e :: es) f) (hn : x ≠ "__name__" := by decide) (hdb : (x == ("__debug__" : Str)) = false := by decide)
    (he : starEach (e :: es) X.env = (false, eval e X.env) :: starEach es X.env := by rfl) (hpl : (backTo pos (starEach es X.env)).any (·.1) = false := by rfl) : EX X cl (.Call (.Name x p) (e :: es) [] pos) (eN g f) :=
  pe_mono (pe_callTy hc hg hm hv ha hn hdb he hpl) fun _ _ _ h => t_eN hl h
end
end
end VL

set_option Elab.async false
set_option linter.all false
set_option maxRecDepth 100000
set_option maxHeartbeats 1000000
/-! VLd: tests, and, or, not, conditional expressions, chains; displays. -/
namespace VL
open PySem PySem.Spec PyProof.Rows L2
abbrev Tv := Env' → Option (Bool × Env')
def tT (K : PySem.W.Frag) (cl : Nat → Addr) (f : Tv) : TT := fun σ H Q => ∃ S env b env', SOk K cl σ H S env ∧ f env = some (b, env') ∧
  ∀ H' S', SOk K cl σ H' S' env' → Fr σ env H S σ env' H' S' → Q b H'
abbrev TX (X : Cx) (cl : Nat → Addr) (e : Expr) (f : Tv) : Prop := PT X e (tT X.K cl f)
abbrev WX (X : Cx) (cl : Nat → Addr) (e : Expr) (f : Tv) : Prop := PW X e (tT X.K cl f)
theorem pw_mono {X : Cx} {e : Expr} {t t' : TT} (h : PW X e t) (w : ∀ σ H Q, t' σ H Q → t σ H Q) : PW X e t' := ⟨fun wh pins s σ H Q I q => h.run wh pins s σ H Q I (w σ H Q q)⟩
/-- the truth of a True or False -/
def tb (f : Ev) : Tv := fun env => match f env with
  | some (.val (.bl k), env') => some (k, env')
  | _ => none
theorem tb_some {f : Ev} {env env' : Env'} {k : Bool} (h : tb f env = some (k, env')) : f env = some (.val (.bl k), env') := by
  unfold tb at h
  split at h
  · rename_i k' e q
    cases h
    exact q
  · cases h
section
variable {K : PySem.W.Frag} {cl : Nat → Addr} {X : Cx} {a b c : Expr} {fa fb fc : Ev} {ta tb' : Tv} {pos : Pos} {rest : List Expr}
theorem t_tb {f : Ev} {σ : L2.St} {H : Hp} {Q : Bool → Hp → Prop} (h : tT K cl (tb f) σ H Q) : tE K cl f σ H fun x H' => ∃ k, x = .bl k ∧ Q k H' := by
  obtain ⟨S, env, k, env', s, w, q⟩ := h
  refine ⟨S, env, _, env', s, tb_some w, fun v H' S' s' f' b' => ⟨k, b', q H' S' s' f'⟩⟩
theorem tx_val (h : EX X cl a fa) (he : ∀ whole, isTrue a X.env whole = (do let v ← whole; standAt a.pos; holding [v] (truthy v)) := by intro _; rfl) : TX X cl a (tb fa) :=
  pt_mono (pt_val h he) fun _ _ _ q => t_tb q
theorem tx_cmp {op : CmpOp} {r : R2} {g : D → D → Option Bv} (ho : OpR X (compareOp op) r) (hl : Link2 X.K cl r g) (ha : EX X cl a fa) (hb : EX X cl b fb) (hm : behindInMarks op b = false) : TX X cl (.Compare a [op] [b] pos) (tb (e2 g fa fb)) :=
  pt_mono (pt_cmpR ho (ex_fzn ha) (ex_fzn hb) hm) fun _ _ _ q => t_e2 hl (t_tb q)
def tN (f : Tv) : Tv := fun env => (f env).map fun p => (!p.1, p.2)
theorem tx_not (h : TX X cl a ta) : TX X cl (.UnaryOp .Not a pos) (tN ta) := pt_mono (pt_not h) fun σ H Q ⟨S, env, k, env', s, w, q⟩ => by
  obtain ⟨p, w1, w2⟩ := Option.map_eq_some_iff.mp w
  obtain ⟨k', e⟩ := p
  cases w2
  exact ⟨S, env, k', e, s, w1, q⟩
def tA (f g : Tv) : Tv := fun env => match f env with
  | some (true, env') => g env'
  | r => r
def tO (f g : Tv) : Tv := fun env => match f env with
  | some (false, env') => g env'
  | r => r
theorem wx_and1 (h : TX X cl a ta) : WX X cl (.BoolOp .And [a] pos) ta := pw_and1 h
theorem wx_or1 (h : TX X cl a ta) : WX X cl (.BoolOp .Or [a] pos) ta := pw_or1 h
theorem wx_and (h : TX X cl a ta) (hb : WX X cl (.BoolOp .And (b :: rest) pos) tb') : WX X cl (.BoolOp .And (a :: b :: rest) pos) (tA ta tb') := pw_mono (pw_and h hb) fun σ H Q ⟨S, env, k, env', s, w, q⟩ => by
  unfold tA at w
  split at w
  · rename_i e1 w1
    refine ⟨S, env, true, e1, s, w1, fun H1 S1 s1 f1 => ?_⟩
    refine iteT ?_
    exact ⟨S1, e1, k, env', s1, w, fun H2 S2 s2 f2 => q H2 S2 s2 (f1.trans f2)⟩
  · rename_i r n
    refine ⟨S, env, k, env', s, w, fun H1 S1 s1 f1 => ?_⟩
    cases k with
    | true => exact absurd w (n env')
    | false => exact iteF (q H1 S1 s1 f1)
theorem wx_or (h : TX X cl a ta) (hb : WX X cl (.BoolOp .Or (b :: rest) pos) tb') : WX X cl (.BoolOp .Or (a :: b :: rest) pos) (tO ta tb') := pw_mono (pw_or h hb) fun σ H Q ⟨S, env, k, env', s, w, q⟩ => by
  unfold tO at w
  split at w
  · rename_i e1 w1
    refine ⟨S, env, false, e1, s, w1, fun H1 S1 s1 f1 => ?_⟩
    refine iteF ?_
    exact ⟨S1, e1, k, env', s1, w, fun H2 S2 s2 f2 => q H2 S2 s2 (f1.trans f2)⟩
  · rename_i r n
    refine ⟨S, env, k, env', s, w, fun H1 S1 s1 f1 => ?_⟩
    cases k with
    | false => exact absurd w (n env')
    | true => exact iteT (q H1 S1 s1 f1)
theorem tx_w {e : Expr} {f : Tv} (h : WX X cl e f) : TX X cl e f := h.pt
/-! the same as values (all but the last one True or False) -/
def eA (f g : Ev) : Ev := fun env => match f env with
  | some (.val (.bl true), env') => g env'
  | some (.val (.bl false), env') => some (.val (.bl false), env')
  | _ => none
def eO (f g : Ev) : Ev := fun env => match f env with
  | some (.val (.bl false), env') => g env'
  | some (.val (.bl true), env') => some (.val (.bl true), env')
  | _ => none
theorem BvOk.from {σ : L2.St} {H H1 S1 H2 S2 S : Hp} {env env1 env2 : Env'} {bv : Bv} {v : V} (f : Fr σ env H S σ env1 H1 S1) (b : BvOk K cl σ env1 H1 env2 H2 S2 bv v) : BvOk K cl σ env H env2 H2 S2 bv v := by
  cases bv with
  | val d => exact b
  | slot i => exact b
  | new m =>
    obtain ⟨a, e, o, n, w⟩ := b
    exact ⟨a, e, o, n, f.origin w⟩
theorem tE_go {f : Ev} {σ : L2.St} {H S H1 S1 : Hp} {env env1 env' : Env'} {bv : Bv} {Q : VK} (f1 : Fr σ env H S σ env1 H1 S1) (s1 : SOk K cl σ H1 S1 env1) (w : f env1 = some (bv, env'))
    (q : ∀ v H' S', SOk K cl σ H' S' env' → Fr σ env H S σ env' H' S' → BvOk K cl σ env H env' H' S' bv v → Q v H') : tE K cl f σ H1 Q :=
  ⟨S1, env1, bv, env', s1, w, fun v H' S' s' f' b => q v H' S' s' (f1.trans f') (b.from f1)⟩
theorem ex_one {op} {e : Ev} (h : EX X cl a e) : EX X cl (.BoolOp op [a] pos) e := pe_one h
theorem ex_and (ha : EX X cl a fa) (hb : EX X cl (.BoolOp .And (b :: rest) pos) fb) : EX X cl (.BoolOp .And (a :: b :: rest) pos) (eA fa fb) := pe_mono (pe_and ha hb) fun σ H Q ⟨S, env, bv, env', s, w, q⟩ => by
  unfold eA at w
  split at w
  · rename_i e1 w1
    refine ⟨S, env, _, e1, s, w1, fun v H1 S1 s1 f1 b1 => ⟨true, b1, ?_⟩⟩
    refine iteT ?_
    exact tE_go f1 s1 w q
  · rename_i e1 w1
    cases w
    refine ⟨S, env, _, env', s, w1, fun v H1 S1 s1 f1 b1 => ⟨false, b1, ?_⟩⟩
    refine iteF ?_
    exact q (.bl false) H1 S1 s1 f1 rfl
  · cases w
theorem ex_or (ha : EX X cl a fa) (hb : EX X cl (.BoolOp .Or (b :: rest) pos) fb) : EX X cl (.BoolOp .Or (a :: b :: rest) pos) (eO fa fb) := pe_mono (pe_or ha hb) fun σ H Q ⟨S, env, bv, env', s, w, q⟩ => by
  unfold eO at w
  split at w
  · rename_i e1 w1
    refine ⟨S, env, _, e1, s, w1, fun v H1 S1 s1 f1 b1 => ⟨false, b1, ?_⟩⟩
    refine iteF ?_
    exact tE_go f1 s1 w q
  · rename_i e1 w1
    cases w
    refine ⟨S, env, _, env', s, w1, fun v H1 S1 s1 f1 b1 => ⟨true, b1, ?_⟩⟩
    refine iteT ?_
    exact q (.bl true) H1 S1 s1 f1 rfl
  · cases w
def eNot (f : Ev) : Ev := fun env => match f env with
  | some (.val (.bl k), env') => some (.val (.bl (!k)), env')
  | _ => none
theorem ex_not (ha : EX X cl a fa) : EX X cl (.UnaryOp .Not a pos) (eNot fa) := pe_mono (pe_not ha) fun σ H Q ⟨S, env, bv, env', s, w, q⟩ => by
  unfold eNot at w
  split at w
  · rename_i k e1 w1
    cases w
    exact ⟨S, env, _, env', s, w1, fun v H1 S1 s1 f1 b1 => ⟨k, b1, q (.bl (!k)) H1 S1 s1 f1 rfl⟩⟩
  · cases w
def eIf (t : Tv) (f g : Ev) : Ev := fun env => match t env with
  | some (true, env') => f env'
  | some (false, env') => g env'
  | none => none
theorem ex_if (hc : TX X cl c ta) (ha : EX X cl a fa) (hb : EX X cl b fb) : EX X cl (.IfExp c a b pos) (eIf ta fa fb) := pe_mono (pe_ifExp hc ha hb) fun σ H Q ⟨S, env, bv, env', s, w, q⟩ => by
  unfold eIf at w
  split at w
  · rename_i e1 w1
    refine ⟨S, env, _, e1, s, w1, fun H1 S1 s1 f1 => ?_⟩
    refine iteT ?_
    exact tE_go f1 s1 w q
  · rename_i e1 w1
    refine ⟨S, env, _, e1, s, w1, fun H1 S1 s1 f1 => ?_⟩
    refine iteF ?_
    exact tE_go f1 s1 w q
  · cases w
/-! ### a op b op c, of comparisons that give True or False -/
def isB : Option Bv → Option Bool
  | some (.val (.bl k)) => some k
  | _ => none
def eCh (g g' : D → D → Option Bv) (fa fb fc : Ev) : Ev := fun env => match fzn fa env with
  | some (b1, e1) => match fzn fb e1 with
    | some (b2, e2) => match b1.get e2, b2.get e2 with
      | some d1, some d2 => match isB (g d1 d2) with
        | some true => match fzn fc e2 with
          | some (b3, e3) => match b2.get e3, b3.get e3 with
            | some d2', some d3 => (isB (g' d2' d3)).map fun k => (.val (.bl k), e3)
            | _, _ => none
          | none => none
        | some false => some (.val (.bl false), e2)
        | none => none
      | _, _ => none
    | none => none
  | none => none
theorem isB_some {o : Option Bv} {k : Bool} (h : isB o = some k) : o = some (.val (.bl k)) := by
  unfold isB at h
  split at h
  · cases h; rfl
  · cases h
theorem t_chain {r r' : R2} {g g' : D → D → Option Bv} (hl : Link2 K cl r g) (hl' : Link2 K cl r' g') {Q : VK} {σ : L2.St} {H : Hp} (h : tE K cl (eCh g g' fa fb fc) σ H Q) :
    tChain r r' (tE K cl (fzn fa)) (tE K cl (fzn fb)) (tE K cl (fzn fc)) σ H Q := by
  obtain ⟨S, env, bv, env', s, w, q⟩ := h
  unfold eCh at w
  split at w
  · rename_i b1 e1 w1
    split at w
    · rename_i b2 e2 w2
      split at w
      · rename_i d1 d2 w3 w4
        refine tE_fzn s w1 fun v H1 S1 s1 f1 a1 => tE_fzn s1 w2 fun u H2 S2 s2 f2 a2 => ?_
        split at w
        · rename_i w5
          refine hl H2 S2 d1 d2 v u _ _ s2.sub ((a1.mono f2.mono).get s2 w3) (a2.get s2 w4) (isB_some w5) fun z H3 S3 g3 z3 => ⟨true, z3, ?_⟩
          refine iteT ?_
          have s3 := s2.gr g3
          have f3 := (f1.trans f2).trans (s2.fr g3)
          split at w
          · rename_i b3 e3 w6
            split at w
            · rename_i d2' d3 w7 w8
              obtain ⟨k, w9, w10⟩ := Option.map_eq_some_iff.mp w
              cases w10
              refine tE_fzn s3 w6 fun u2 H4 S4 s4 f4 a4 => ?_
              refine hl' H4 S4 d2' d3 u u2 _ Q s4.sub (((a2.mono g3.mono).mono f4.mono).get s4 w7) (a4.get s4 w8) (isB_some w9) fun z' H5 S5 g5 z5 => ?_
              exact q z' H5 S5 (s4.gr g5) ((f3.trans f4).trans (s4.fr g5)) z5
            · cases w
          · cases w
        · rename_i w5
          cases w
          refine hl H2 S2 d1 d2 v u _ _ s2.sub ((a1.mono f2.mono).get s2 w3) (a2.get s2 w4) (isB_some w5) fun z H3 S3 g3 z3 => ⟨false, z3, ?_⟩
          refine iteF ?_
          exact q (.bl false) H3 S3 (s2.gr g3) ((f1.trans f2).trans (s2.fr g3)) rfl
        · cases w
      · cases w
    · cases w
  · cases w
theorem ex_chain {op op' : CmpOp} {r r' : R2} {g g' : D → D → Option Bv} (ho : OpR X (compareOp op) r) (ho' : OpR X (compareOp op') r') (hl : Link2 X.K cl r g) (hl' : Link2 X.K cl r' g') (ha : EX X cl a fa) (hb : EX X cl b fb) (hc : EX X cl c fc)
    (hm : lastMarks [op, op'] [b, c] = false := by with_unfolding_all rfl) : EX X cl (.Compare a [op, op'] [b, c] pos) (eCh g g' fa fb fc) :=
  pe_mono (pe_chain ho ho' (ex_fzn ha) (ex_fzn hb) (ex_fzn hc) hm) fun _ _ _ h => t_chain hl hl' h
theorem tx_chain {op op' : CmpOp} {r r' : R2} {g g' : D → D → Option Bv} (ho : OpR X (compareOp op) r) (ho' : OpR X (compareOp op') r') (hl : Link2 X.K cl r g) (hl' : Link2 X.K cl r' g') (ha : EX X cl a fa) (hb : EX X cl b fb) (hc : EX X cl c fc)
    (hm : lastMarks [op, op'] [b, c] = false := by with_unfolding_all rfl) : TX X cl (.Compare a [op, op'] [b, c] pos) (tb (eCh g g' fa fb fc)) :=
  pt_mono (pt_chain ho ho' (ex_fzn ha) (ex_fzn hb) (ex_fzn hc) hm) fun _ _ _ h => t_chain hl hl' (t_tb h)
/-! ### displays -/
/-- operands that stay: an object of one's own is let stay too -/
def fz (f : Ev) : Ev := fun env => match fzn f env with
  | some (.slot i, env1) => match env1[i]? with
    | some (.own m) => some (.val m.toD, env1.set i (.val m.toD))
    | some (.val d) => some (.val d, env1)
    | _ => none
  | r => r
theorem SOk.shareSlot {σ : L2.St} {H S : Hp} {env : Env'} {i : Nat} {a : Addr} {m : MO} {o : HO} (s : SOk K cl σ H S env) (e : env[i]? = some (.own m)) (ea : σ[i]? = some (some (.ref a))) (ho : H a = some o) : SOk K cl σ H (upd S a o) (env.set i (.val m.toD)) ∧ Rep K cl (upd S a o) m.toD (.ref a) ∧ Fr σ env H S σ (env.set i (.val m.toD)) H (upd S a o) := by
  obtain ⟨a', e', q⟩ := s.own i _ m e rfl
  rw [ea] at e'; cases e'
  have hr := q.share ho
  have hi : i < env.length := (List.getElem?_eq_some_iff.mp e).1
  have oth : ∀ (j : Nat) (l : Sl) (m' : MO), (env.set i (.val m.toD))[j]? = some l → l.mo = some m' → j ≠ i ∧ env[j]? = some l := fun j l m' h h2 => by
    by_cases hj : j = i
    · subst hj
      rw [List.getElem?_set_self hi] at h
      cases h; cases h2
    · rw [List.getElem?_set_ne (Ne.symm hj)] at h
      exact ⟨hj, h⟩
  refine ⟨⟨fun b u h => ?_, by rw [List.length_set]; exact s.len, fun j d h => ?_, fun j l m' h h2 => ?_, fun j j' l l' m1 m2 b h1 h2 h3 h4 h5 h6 => ?_⟩, hr, ⟨fun _ _ h _ => h, Sub.upd q.free, fun b u h hb n => ?_, fun b ⟨j, l, m', h1, h2, h3⟩ => .inl ⟨j, l, m', (oth j l m' h1 h2).2, h2, h3⟩, fun j m' h => ?_⟩⟩
  · by_cases hb : b = a
    · subst hb; rw [upd_same] at h; cases h; exact ho
    · rw [upd_ne hb] at h; exact s.sub b u h
  · by_cases hj : j = i
    · subst hj
      rw [List.getElem?_set_self hi] at h
      cases h
      exact ⟨_, ea, hr⟩
    · rw [List.getElem?_set_ne (Ne.symm hj)] at h
      obtain ⟨v, e1, r⟩ := s.val j d h
      exact ⟨v, e1, r.mono (Sub.upd q.free)⟩
  · obtain ⟨hj, h⟩ := oth j l m' h h2
    obtain ⟨b, e1, r⟩ := s.own j l m' h h2
    refine ⟨b, e1, r.move (Sub.upd q.free) ?_ fun _ h => h⟩
    rw [upd_ne fun z => hj (by subst z; exact s.dis j i l _ m' m b h h2 e rfl e1 ea)]
    exact r.free
  · exact s.dis j j' l l' m1 m2 b (oth j l m1 h1 h2).2 h2 (oth j' l' m2 h3 h4).2 h4 h5 h6
  · rw [upd_ne fun z => n (by subst z; exact ⟨i, _, m, e, rfl, ea⟩)]
    exact hb
  · refine ⟨rfl, m', ?_⟩
    have hj : i ≠ j := fun z => by subst z; rw [e] at h; cases h
    rw [List.getElem?_set_ne hj]
    exact h
theorem ex_fz {e : Expr} {f : Ev} (h : EX X cl e f) : EX X cl e (fz f) := pe_mono (ex_fzn h) fun σ H Q ⟨S, env, bv, env', s, w, q⟩ => by
  unfold fz at w
  split at w
  · rename_i i e1 w1
    split at w
    · rename_i m w2
      cases w
      refine tE_fzn s w1 fun v H1 S1 s1 f1 b1 => ?_
      have ev : σ[i]? = some (some v) := b1
      obtain ⟨a, ea, r⟩ := s1.own i _ m w2 rfl
      rw [ev] at ea; cases ea
      obtain ⟨o, ho⟩ := r.there
      obtain ⟨z1, z2, z3⟩ := s1.shareSlot w2 ev ho
      exact q _ H1 _ z1 (f1.trans z3) z2
    · rename_i d w2
      cases w
      refine tE_fzn s w1 fun v H1 S1 s1 f1 b1 => ?_
      have ev : σ[i]? = some (some v) := b1
      obtain ⟨u, eu, r⟩ := s1.val i d w2
      rw [ev] at eu; cases eu
      exact q _ H1 S1 s1 f1 r
    · cases w
  · exact ⟨S, env, bv, env', s, w, q⟩
theorem fz_val {f : Ev} {env env' : Env'} {bv : Bv} (h : fz f env = some (bv, env')) : ∃ d, bv = .val d := by
  unfold fz at h
  split at h
  · split at h
    · cases h; exact ⟨_, rfl⟩
    · cases h; exact ⟨_, rfl⟩
    · cases h
  · rename_i r n
    rcases fzn_some h with ⟨_, n2⟩ | ⟨m, _, rfl⟩
    · cases bv with
      | val d => exact ⟨d, rfl⟩
      | slot i => exact absurd h (n i env')
      | new m => exact absurd rfl (n2 m)
    · exact ⟨_, rfl⟩
end
end VL

set_option Elab.async false
set_option linter.all false
set_option maxRecDepth 100000
set_option maxHeartbeats 1000000
/-! VLe: statements. -/
namespace VL
open PySem PySem.Spec PyProof.Rows L2
inductive Out where
  | nx | bk | ct | rt (b : Bv)
abbrev Sm := Env' → Option (Out × Env')
def BvR (K : PySem.W.Frag) (cl : Nat → Addr) (σ : L2.St) (env : Env') (H : Hp) (σ' : L2.St) (env' : Env') (H' S' : Hp) : Bv → V → Prop
  | .val d, v => Rep K cl S' d v
  | .slot _, _ => False
  | .new m, v => ∃ a, v = .ref a ∧ OwnAt K cl H' S' a m ∧ ¬ Owned σ' env' a ∧ (Owned σ env a ∨ H a = none)
def Post (K : PySem.W.Frag) (cl : Nat → Addr) (σ : L2.St) (env : Env') (H S : Hp) (env' : Env') (D : Ends) : Out → Prop
  | .nx => ∀ σ' H' S', SOk K cl σ' H' S' env' → Fr σ env H S σ' env' H' S' → D.nx σ' H'
  | .bk => ∀ σ' H' S', SOk K cl σ' H' S' env' → Fr σ env H S σ' env' H' S' → D.bk σ' H'
  | .ct => ∀ σ' H' S', SOk K cl σ' H' S' env' → Fr σ env H S σ' env' H' S' → D.ct σ' H'
  | .rt b => ∀ v σ' H' S', SOk K cl σ' H' S' env' → Fr σ env H S σ' env' H' S' → BvR K cl σ env H σ' env' H' S' b v → D.rt v H'
def tSm (K : PySem.W.Frag) (cl : Nat → Addr) (f : Sm) : TS := fun D σ H => ∃ S env o env', SOk K cl σ H S env ∧ f env = some (o, env') ∧ Post K cl σ env H S env' D o
abbrev SX (X : Cx) (cl : Nat → Addr) (st : Stmt) (f : Sm) : Prop := PS X st (tSm X.K cl f)
abbrev BX (X : Cx) (cl : Nat → Addr) (st : List Stmt) (f : Sm) : Prop := PSs X st (tSm X.K cl f)
section
variable {K : PySem.W.Frag} {cl : Nat → Addr} {X : Cx} {σ σ1 : L2.St} {H S H1 S1 H' S' : Hp} {env env1 env' : Env'}
theorem Post.from {o : Out} {D : Ends} (f : Fr σ env H S σ1 env1 H1 S1) (p : Post K cl σ env H S env' D o) : Post K cl σ1 env1 H1 S1 env' D o := by
  cases o with
  | nx => exact fun σ' H' S' s' f' => p σ' H' S' s' (f.trans f')
  | bk => exact fun σ' H' S' s' f' => p σ' H' S' s' (f.trans f')
  | ct => exact fun σ' H' S' s' f' => p σ' H' S' s' (f.trans f')
  | rt b =>
    refine fun v σ' H' S' s' f' b' => p v σ' H' S' s' (f.trans f') ?_
    cases b with
    | val d => exact b'
    | slot i => exact b'.elim
    | new m =>
      obtain ⟨a, e, o, n, w⟩ := b'
      exact ⟨a, e, o, n, f.origin w⟩
theorem tSm_go {f : Sm} {o : Out} {D : Ends} (f1 : Fr σ env H S σ1 env1 H1 S1) (s1 : SOk K cl σ1 H1 S1 env1) (w : f env1 = some (o, env')) (p : Post K cl σ env H S env' D o) : tSm K cl f D σ1 H1 :=
  ⟨S1, env1, o, env', s1, w, p.from f1⟩
/-! ### slots stored -/
def Sl.free : Sl → Bool
  | .par _ => false
  | _ => true
/-- the slot may be stored to -/
def canSet (env : Env') (i : Nat) : Bool := match env[i]? with
  | some l => l.free
  | none => false
theorem canSet_some {i : Nat} (h : canSet env i = true) : i < env.length ∧ ∀ m, env[i]? ≠ some (.par m) := by
  unfold canSet at h
  split at h
  · rename_i l e
    refine ⟨(List.getElem?_eq_some_iff.mp e).1, fun m z => ?_⟩
    rw [e] at z; cases z; cases h
  · cases h
theorem set_of {α : Type} {xs : List α} {i j : Nat} {x y : α} (h : (xs.set i x)[j]? = some y) : (j = i ∧ y = x) ∨ (j ≠ i ∧ xs[j]? = some y) := by
  by_cases hj : j = i
  · subst hj
    by_cases hl : j < xs.length
    · rw [List.getElem?_set_self hl] at h
      cases h; exact .inl ⟨rfl, rfl⟩
    · rw [List.getElem?_eq_none (by rw [List.length_set]; omega)] at h; cases h
  · rw [List.getElem?_set_ne (Ne.symm hj)] at h
    exact .inr ⟨hj, h⟩
theorem Owned.of_set {i : Nat} {x : Option V} {l : Sl} {b : Addr} (h : Owned (σ.set i x) (env.set i l) b) : (x = some (.ref b) ∧ l.mo.isSome = true) ∨ Owned σ env b := by
  obtain ⟨j, l', m, h1, h2, h3⟩ := h
  rcases set_of h1 with ⟨e1, e2⟩ | ⟨e1, e2⟩
  · subst e1 e2
    rcases set_of h3 with ⟨_, e3⟩ | ⟨e3, _⟩
    · exact .inl ⟨e3.symm, by rw [h2]; rfl⟩
    · exact absurd rfl e3
  · rcases set_of h3 with ⟨e3, _⟩ | ⟨_, e4⟩
    · exact absurd e3 e1
    · exact .inr ⟨j, l', m, e2, h2, e4⟩
theorem SOk.setVal {i : Nat} {d : D} {v : V} (s : SOk K cl σ H S env) (h : canSet env i = true) (r : Rep K cl S d v) :
    SOk K cl (σ.set i (some v)) H S (env.set i (.val d)) ∧ Fr σ env H S (σ.set i (some v)) (env.set i (.val d)) H S := by
  obtain ⟨hl, hp⟩ := canSet_some h
  have hσ : i < σ.length := by rw [← s.len]; exact hl
  refine ⟨⟨s.sub, by rw [List.length_set, List.length_set]; exact s.len, fun j d' e => ?_, fun j l m e e2 => ?_, fun j j' l l' m m' a e1 e2 e3 e4 e5 e6 => ?_⟩, ⟨fun _ _ h _ => h, Sub.rfl', fun _ _ _ h _ => h, fun b q => ?_, fun j m e => ?_⟩⟩
  · rcases set_of e with ⟨rfl, e2⟩ | ⟨ne, e2⟩
    · cases e2
      exact ⟨v, List.getElem?_set_self hσ, r⟩
    · obtain ⟨u, e3, r3⟩ := s.val j d' e2
      exact ⟨u, by rw [List.getElem?_set_ne (Ne.symm ne)]; exact e3, r3⟩
  · rcases set_of e with ⟨rfl, e3⟩ | ⟨ne, e3⟩
    · subst e3; cases e2
    · obtain ⟨a, e4, r4⟩ := s.own j l m e3 e2
      exact ⟨a, by rw [List.getElem?_set_ne (Ne.symm ne)]; exact e4, r4⟩
  · rcases set_of e1 with ⟨rfl, e7⟩ | ⟨n1, e7⟩
    · subst e7; cases e2
    · rcases set_of e3 with ⟨rfl, e8⟩ | ⟨n2, e8⟩
      · subst e8; cases e4
      · rw [List.getElem?_set_ne (Ne.symm n1)] at e5
        rw [List.getElem?_set_ne (Ne.symm n2)] at e6
        exact s.dis j j' l l' m m' a e7 e2 e8 e4 e5 e6
  · rcases q.of_set with ⟨_, z⟩ | q
    · cases z
    · exact .inl q
  · have ne : i ≠ j := fun z => by subst z; exact hp m e
    exact ⟨List.getElem?_set_ne ne, m, by rw [List.getElem?_set_ne ne]; exact e⟩
theorem SOk.setOwn {i : Nat} {m : MO} {a : Addr} {σ0 : L2.St} {env0 : Env'} {H0 S0 : Hp} (s : SOk K cl σ H S env) (f : Fr σ0 env0 H0 S0 σ env H S) (h : canSet env i = true) (o : OwnAt K cl H S a m) (n : ¬ Owned σ env a) (w : Owned σ0 env0 a ∨ H0 a = none) :
    SOk K cl (σ.set i (some (.ref a))) H S (env.set i (.own m)) ∧ Fr σ0 env0 H0 S0 (σ.set i (some (.ref a))) (env.set i (.own m)) H S := by
  obtain ⟨hl, hp⟩ := canSet_some h
  have hσ : i < σ.length := by rw [← s.len]; exact hl
  refine ⟨⟨s.sub, by rw [List.length_set, List.length_set]; exact s.len, fun j d' e => ?_, fun j l m' e e2 => ?_, fun j j' l l' m1 m2 b e1 e2 e3 e4 e5 e6 => ?_⟩, ⟨f.keep, f.mono, f.priv, fun b q => ?_, fun j m' e => ?_⟩⟩
  · rcases set_of e with ⟨rfl, e2⟩ | ⟨ne, e2⟩
    · cases e2
    · obtain ⟨u, e3, r3⟩ := s.val j d' e2
      exact ⟨u, by rw [List.getElem?_set_ne (Ne.symm ne)]; exact e3, r3⟩
  · rcases set_of e with ⟨rfl, e3⟩ | ⟨ne, e3⟩
    · subst e3; cases e2
      exact ⟨a, List.getElem?_set_self hσ, o⟩
    · obtain ⟨b, e4, r4⟩ := s.own j l m' e3 e2
      exact ⟨b, by rw [List.getElem?_set_ne (Ne.symm ne)]; exact e4, r4⟩
  · rcases set_of e1 with ⟨rfl, e7⟩ | ⟨n1, e7⟩
    · rcases set_of e3 with ⟨rfl, e8⟩ | ⟨n2, e8⟩
      · rfl
      · rw [List.getElem?_set_self hσ] at e5
        rw [List.getElem?_set_ne (Ne.symm n2)] at e6
        cases e5
        exact absurd ⟨j', l', m2, e8, e4, e6⟩ n
    · rcases set_of e3 with ⟨rfl, e8⟩ | ⟨n2, e8⟩
      · rw [List.getElem?_set_self hσ] at e6
        rw [List.getElem?_set_ne (Ne.symm n1)] at e5
        cases e6
        exact absurd ⟨j, l, m1, e7, e2, e5⟩ n
      · rw [List.getElem?_set_ne (Ne.symm n1)] at e5
        rw [List.getElem?_set_ne (Ne.symm n2)] at e6
        exact s.dis j j' l l' m1 m2 b e7 e2 e8 e4 e5 e6
  · rcases q.of_set with ⟨z, _⟩ | q
    · cases z; exact w
    · exact f.back b q
  · obtain ⟨e1, m1, h1⟩ := f.par j m' e
    have ne : i ≠ j := fun z => by subst z; exact hp m1 h1
    exact ⟨by rw [List.getElem?_set_ne ne]; exact e1, m1, by rw [List.getElem?_set_ne ne]; exact h1⟩
/-- what is known of an object apart stays so through a step -/
theorem OwnAt.through {a : Addr} {m : MO} (o : OwnAt K cl H S a m) (n : ¬ Owned σ env a) (f : Fr σ env H S σ1 env1 H1 S1) : OwnAt K cl H1 S1 a m ∧ ¬ Owned σ1 env1 a := by
  obtain ⟨u, hu⟩ := o.there
  refine ⟨o.move f.mono (f.priv a u hu o.free n) fun w hw => f.keep a w hw n, fun z => ?_⟩
  rcases f.back a z with z | z
  · exact n z
  · rw [hu] at z; cases z
/-- an object of one's own is taken out of its slot -/
theorem SOk.drop {i : Nat} {a : Addr} {m : MO} (s : SOk K cl σ H S env) (e : env[i]? = some (.own m)) (ea : σ[i]? = some (some (.ref a))) :
    SOk K cl σ H S (env.set i .no) ∧ Fr σ env H S σ (env.set i .no) H S ∧ ¬ Owned σ (env.set i .no) a ∧ OwnAt K cl H S a m := by
  have hi : i < env.length := (List.getElem?_eq_some_iff.mp e).1
  have o : OwnAt K cl H S a m := by
    obtain ⟨b, e1, r⟩ := s.own i _ m e rfl
    rw [ea] at e1; cases e1; exact r
  have oth : ∀ (j : Nat) (l : Sl) (m' : MO), (env.set i .no)[j]? = some l → l.mo = some m' → j ≠ i ∧ env[j]? = some l := fun j l m' h h2 => by
    rcases set_of h with ⟨_, z⟩ | z
    · subst z; cases h2
    · exact z
  refine ⟨⟨s.sub, by rw [List.length_set]; exact s.len, fun j d h => ?_, fun j l m' h h2 => s.own j l m' (oth j l m' h h2).2 h2, fun j j' l l' m1 m2 b h1 h2 h3 h4 => s.dis j j' l l' m1 m2 b (oth j l m1 h1 h2).2 h2 (oth j' l' m2 h3 h4).2 h4⟩,
    ⟨fun _ _ h _ => h, Sub.rfl', fun _ _ _ h _ => h, fun b ⟨j, l, m', h1, h2, h3⟩ => .inl ⟨j, l, m', (oth j l m' h1 h2).2, h2, h3⟩, fun j m' h => ?_⟩, fun ⟨j, l, m', h1, h2, h3⟩ => ?_, o⟩
  · rcases set_of h with ⟨_, z⟩ | ⟨_, z⟩
    · cases z
    · exact s.val j d z
  · have ne : i ≠ j := fun z => by subst z; rw [e] at h; cases h
    exact ⟨rfl, m', by rw [List.getElem?_set_ne ne]; exact h⟩
  · obtain ⟨ne, h⟩ := oth j l m' h1 h2
    exact ne (s.dis j i l _ m' m a h h2 e rfl h3 ea)
/-! ### small statements -/
section
variable {st : Stmt} {rest : List Stmt} {e : Expr} {f g : Sm} {fe fa fb : Ev} {t : Tv} {pos : Pos}
def sNx : Sm := fun env => some (.nx, env)
theorem bx_nil : BX X cl [] sNx := pss_mono pss_nil fun D σ H ⟨S, env, o, env', s, w, p⟩ => by
  cases w
  exact p σ H S s .same
def sSeq (f g : Sm) : Sm := fun env => match f env with
  | some (.nx, env') => g env'
  | r => r
theorem Post.weak {o : Out} {D D' : Ends} (p : Post K cl σ env H S env' D o) (hn : o ≠ .nx) (hb : D.bk = D'.bk) (hc : D.ct = D'.ct) (hr : D.rt = D'.rt) : Post K cl σ env H S env' D' o := by
  cases o with
  | nx => exact absurd rfl hn
  | bk => exact fun σ' H' S' s' f' => hb ▸ p σ' H' S' s' f'
  | ct => exact fun σ' H' S' s' f' => hc ▸ p σ' H' S' s' f'
  | rt b => exact fun v σ' H' S' s' f' b' => hr ▸ p v σ' H' S' s' f' b'
theorem bx_cons (h1 : SX X cl st f) (h2 : BX X cl rest g) : BX X cl (st :: rest) (sSeq f g) := pss_mono (pss_cons h1 h2) fun D σ H ⟨S, env, o, env', s, w, p⟩ => by
  unfold sSeq at w
  split at w
  · rename_i e1 w1
    exact ⟨S, env, .nx, e1, s, w1, fun σ' H' S' s' f' => tSm_go f' s' w p⟩
  · rename_i r n
    refine ⟨S, env, o, env', s, w, p.weak (fun z => ?_) rfl rfl rfl⟩
    subst z
    exact n env' w
theorem bx_one (h1 : SX X cl st f) : BX X cl [st] f := pss_one h1
def sEx (f : Ev) : Sm := fun env => match f env with
  | some (_, env') => some (.nx, env')
  | none => none
theorem sx_expr (h : EX X cl e fe) (hs : swapsWith e none pos.line X.env = pure false := by rfl) : SX X cl (.Expr e pos) (sEx fe) := ps_mono (ps_expr h hs) fun D σ H ⟨S, env, o, env', s, w, p⟩ => by
  unfold sEx at w
  split at w
  · rename_i b e1 w1
    cases w
    exact ⟨S, env, b, _, s, w1, fun v H' S' s' f' _ => p σ H' S' s' f'⟩
  · cases w
theorem sx_doc {x j pos pos'} : SX X cl (.Expr (.Constant (.str x) j pos) pos') sNx := ps_mono ps_doc fun D σ H ⟨S, env, o, env', s, w, p⟩ => by
  cases w
  exact p σ H S s .same
def sBk : Sm := fun env => some (.bk, env)
def sCt : Sm := fun env => some (.ct, env)
theorem sx_pass : SX X cl (.Pass pos) sNx := ps_mono ps_pass fun D σ H ⟨S, env, o, env', s, w, p⟩ => by
  cases w; exact p σ H S s .same
theorem sx_break : SX X cl (.Break pos) sBk := ps_mono ps_break fun D σ H ⟨S, env, o, env', s, w, p⟩ => by
  cases w; exact p σ H S s .same
theorem sx_continue : SX X cl (.Continue pos) sCt := ps_mono ps_continue fun D σ H ⟨S, env, o, env', s, w, p⟩ => by
  cases w; exact p σ H S s .same
def sNever : Sm := fun _ => none
theorem sx_never : SX X cl st sNever := ⟨fun _ _ _ _ _ _ ⟨_, _, _, _, _, w, _⟩ => by cases w⟩
theorem bx_never {sts : List Stmt} : BX X cl sts sNever := ⟨fun _ _ _ _ _ _ ⟨_, _, _, _, _, w, _⟩ => by cases w⟩
def sRet (f : Ev) : Sm := fun env => match f env with
  | some (.val d, env') => some (.rt (.val d), env')
  | some (.new m, env') => some (.rt (.new m), env')
  | some (.slot i, env') => match env'[i]? with
    | some (.own m) => some (.rt (.new m), env'.set i .no)
    | some (.val d) => some (.rt (.val d), env')
    | _ => none
  | none => none
theorem sx_ret (h : EX X cl e fe) : SX X cl (.Return (some e) pos) (sRet fe) := ps_mono (ps_ret h) fun D σ H ⟨S, env, o, env', s, w, p⟩ => by
  unfold sRet at w
  split at w
  · rename_i d e1 w1
    cases w
    exact ⟨S, env, _, _, s, w1, fun v H' S' s' f' b' => p v σ H' S' s' f' b'⟩
  · rename_i m e1 w1
    cases w
    exact ⟨S, env, _, _, s, w1, fun v H' S' s' f' b' => p v σ H' S' s' f' b'⟩
  · rename_i i e1 w1
    split at w
    · rename_i m w2
      cases w
      refine ⟨S, env, _, e1, s, w1, fun v H' S' s' f' b' => ?_⟩
      have b' : σ[i]? = some (some v) := b'
      obtain ⟨a, ea, _⟩ := s'.own i _ m w2 rfl
      rw [b'] at ea; cases ea
      obtain ⟨z1, z2, z3, z4⟩ := s'.drop w2 b'
      refine p _ σ H' S' z1 (f'.trans z2) ⟨a, rfl, z4, z3, f'.back a ⟨i, _, m, w2, rfl, b'⟩⟩
    · rename_i d w2
      cases w
      refine ⟨S, env, _, _, s, w1, fun v H' S' s' f' b' => ?_⟩
      have b' : σ[i]? = some (some v) := b'
      obtain ⟨u, eu, r⟩ := s'.val i d w2
      rw [b'] at eu; cases eu
      exact p v σ H' S' s' f' r
    · cases w
  · cases w
theorem sx_retN : SX X cl (.Return none pos) (sRet (fC .non)) := ps_mono ps_retN fun D σ H ⟨S, env, o, env', s, w, p⟩ => by
  have w' : some (Out.rt (.val .non), env) = some (o, env') := w
  cases w'
  exact p .non σ H S s .same rfl
def sIf (t : Tv) (f g : Sm) : Sm := fun env => match t env with
  | some (true, env') => f env'
  | some (false, env') => g env'
  | none => none
theorem sx_if {c : Expr} {a b : List Stmt} (hc : TX X cl c t) (ha : BX X cl a f) (hb : BX X cl b g) : SX X cl (.If c a b pos) (sIf t f g) := ps_mono (ps_if hc ha hb) fun D σ H ⟨S, env, o, env', s, w, p⟩ => by
  unfold sIf at w
  split at w
  · rename_i e1 w1
    exact ⟨S, env, true, e1, s, w1, fun H' S' s' f' => iteT (tSm_go f' s' w p)⟩
  · rename_i e1 w1
    exact ⟨S, env, false, e1, s, w1, fun H' S' s' f' => iteF (tSm_go f' s' w p)⟩
  · cases w
/-! ### stores to names -/
/-- an operand to be stored: an object of another slot is let stay -/
def fzs (f : Ev) : Ev := fun env => match f env with
  | some (.new m, env') => some (.new m, env')
  | _ => fz f env
theorem ex_fzs (h : EX X cl e fe) : EX X cl e (fzs fe) := ⟨fun pins s σ H Q I ⟨S, env, bv, env', so, w, q⟩ => by
  unfold fzs at w
  split at w
  · rename_i m e1 w1
    cases w
    exact h.run pins s σ H Q I ⟨S, env, _, _, so, w1, q⟩
  · exact (ex_fz h).run pins s σ H Q I ⟨S, env, bv, env', so, w, q⟩⟩
theorem fzs_noslot {i : Nat} (h : fzs fe env = some (.slot i, env')) : False := by
  unfold fzs at h
  split at h
  · cases h
  · obtain ⟨d, e⟩ := fz_val h
    cases e
def put (i : Nat) (b : Bv) (env : Env') : Option Env' := match canSet env i with
  | true => match b with
    | .val d => some (env.set i (.val d))
    | .new m => some (env.set i (.own m))
    | .slot _ => none
  | false => none
def sSet (i : Nat) (f : Ev) : Sm := fun env => match fzs f env with
  | some (b, env1) => (put i b env1).map fun e => (.nx, e)
  | none => none
theorem put_ok {i : Nat} {b : Bv} {v : V} {σ0 : L2.St} {env0 : Env'} {H0 S0 : Hp} (s : SOk K cl σ H S env) (f : Fr σ0 env0 H0 S0 σ env H S) (w : put i b env = some env') (r : BvR K cl σ0 env0 H0 σ env H S b v) :
    SOk K cl (σ.set i (some v)) H S env' ∧ Fr σ0 env0 H0 S0 (σ.set i (some v)) env' H S := by
  unfold put at w
  split at w
  · rename_i hc
    cases b with
    | val d =>
      cases w
      obtain ⟨z1, z2⟩ := s.setVal hc r
      exact ⟨z1, f.trans z2⟩
    | new m =>
      cases w
      obtain ⟨a, e, o, n, q⟩ := r
      subst e
      exact s.setOwn f hc o n q
    | slot j => cases w
  · cases w
theorem BvOk.r {bv : Bv} {v : V} (b : BvOk K cl σ env H env' H' S' bv v) (n : ∀ i, bv ≠ .slot i) : BvR K cl σ env H σ env' H' S' bv v := by
  cases bv with
  | val d => exact b
  | slot i => exact absurd rfl (n i)
  | new m => exact b
theorem sx_set {i : Nat} {x : Str} {pos' : Pos} (hN : X.N.Nodup) (hi : X.N[i]? = some x) (hx : Loc X.env.scope x) (he : EX X cl e fe) (hs : swapsWith e (some (.Name x pos')) pos.line X.env = pure false := by rfl)
    (hf : X.fn x = true ∨ X.env.scope.names.lookup x = some .local := by first | exact .inl rfl | exact .inr rfl | assumption) : SX X cl (.Assign [.Name x pos'] e pos) (sSet i fe) :=
  ps_mono (ps_set hN hi hx (ex_fzs he) hs hf) fun D σ H ⟨S, env, o, env', s, w, p⟩ => by
    unfold sSet at w
    split at w
    · rename_i b e1 w1
      obtain ⟨e2, w2, w3⟩ := Option.map_eq_some_iff.mp w
      cases w3
      refine ⟨S, env, b, e1, s, w1, fun v H' S' s' f' b' => ?_⟩
      obtain ⟨z1, z2⟩ := put_ok s' f' w2 (b'.r fun j z => by subst z; exact fzs_noslot w1)
      exact p _ H' S' z1 z2
    · cases w
end
end
end VL

set_option Elab.async false
set_option linter.all false
set_option maxRecDepth 100000
set_option maxHeartbeats 1000000
/-! VLf: targets, what is walked, for, while. -/
namespace VL
open PySem PySem.Spec PyProof.Rows L2
inductive Tg where
  | nm (i : Nat) | tp (ts : List Tg) | ix (i : Nat) (k : Int)
def Sl.with : Sl → MO → Sl
  | .own _, m => .own m
  | .par _, m => .par m
  | l, _ => l
/-- xs[k] = d at a slot that holds a list of one's own, or one that may be changed -/
def setIx (i : Nat) (k : Int) (d : D) (env : Env') : Option Env' := match env[i]? with
  | some (.own (.lst xs)) => (ixN xs.length k).map fun j => env.set i (.own (.lst (xs.set j d)))
  | some (.par (.lst xs)) => (ixN xs.length k).map fun j => env.set i (.par (.lst (xs.set j d)))
  | _ => none
mutual
def asg : Tg → D → Env' → Option Env'
  | .nm i, d, env => put i (.val d) env
  | .ix i k, d, env => setIx i k d env
  | .tp ts, .tup xs, env => if xs.length = ts.length then asgs ts xs env else none
  | .tp _, _, _ => none
def asgs : List Tg → List D → Env' → Option Env'
  | [], [], env => some env
  | t :: ts, d :: ds, env => match asg t d env with
    | some e => asgs ts ds e
    | none => none
  | _, _, _ => none
end
mutual
def Tg.slots : Tg → List Nat
  | .nm i => [i]
  | .ix _ _ => []
  | .tp ts => Tg.slotss ts
def Tg.slotss : List Tg → List Nat
  | [] => []
  | t :: ts => t.slots ++ Tg.slotss ts
end
def Only' (l : List Nat) (σ σ' : L2.St) : Prop := ∀ j, j ∉ l → σ'[j]? = σ[j]?
def tG (K : PySem.W.Frag) (cl : Nat → Addr) (t : Tg) : TG := fun v σ H Q => ∃ S env d env', SOk K cl σ H S env ∧ Rep K cl S d v ∧ asg t d env = some env' ∧
  ∀ σ' H' S', SOk K cl σ' H' S' env' → Fr σ env H S σ' env' H' S' → Only' t.slots σ σ' → Q σ' H'
def tGs (K : PySem.W.Frag) (cl : Nat → Addr) (ts : List Tg) : TGs := fun vs σ H Q => ∃ S env ds env', SOk K cl σ H S env ∧ Reps K cl S ds vs ∧ asgs ts ds env = some env' ∧
  ∀ σ' H' S', SOk K cl σ' H' S' env' → Fr σ env H S σ' env' H' S' → Only' (Tg.slotss ts) σ σ' → Q σ' H'
abbrev GX (X : Cx) (cl : Nat → Addr) (e : Expr) (t : Tg) : Prop := PG X e (tG X.K cl t)
abbrev GXs (X : Cx) (cl : Nat → Addr) (es : List Expr) (ts : List Tg) : Prop := PGs X es (tGs X.K cl ts)
theorem pg_mono {X : Cx} {e : Expr} {t t' : TG} (h : PG X e t) (w : ∀ v σ H Q, t' v σ H Q → t v σ H Q) : PG X e t' := ⟨fun pins s σ H v u Q I r q => h.run pins s σ H v u Q I r (w v σ H Q q)⟩
theorem pgs_mono {X : Cx} {es : List Expr} {t t' : TGs} (h : PGs X es t) (w : ∀ v σ H Q, t' v σ H Q → t v σ H Q) : PGs X es t' := ⟨fun pins s σ H v u Q I r q => h.run pins s σ H v u Q I r (w v σ H Q q)⟩
section
variable {K : PySem.W.Frag} {cl : Nat → Addr} {X : Cx} {σ σ1 : L2.St} {H S H1 S1 H' S' : Hp} {env env1 env' : Env'} {pos : Pos}
theorem gx_name {i : Nat} {x : Str} (hN : X.N.Nodup) (hi : X.N[i]? = some x) (hx : Loc X.env.scope x) (hf : X.fn x = true ∨ X.env.scope.names.lookup x = some .local := by first | exact .inl rfl | exact .inr rfl | assumption) : GX X cl (.Name x pos) (.nm i) :=
  pg_mono (pg_name hN hi hx hf) fun v σ H Q ⟨S, env, d, env', s, r, w, q⟩ => by
    obtain ⟨z1, z2⟩ := put_ok s .same (show put i (.val d) env = some env' from w) r
    exact q _ H S z1 z2 fun j hj => List.getElem?_set_ne (fun z => hj (by subst z; exact List.mem_singleton.mpr rfl))
theorem gxs_nil : GXs X cl [] [] := pgs_mono pgs_nil fun v σ H Q ⟨S, env, ds, env', s, r, w, q⟩ => by
  cases ds with
  | nil =>
    cases w
    exact ⟨r, q σ H S s .same fun _ _ => rfl⟩
  | cons d ds => cases w
theorem gxs_cons {e : Expr} {es : List Expr} {t : Tg} {ts : List Tg} (h1 : GX X cl e t) (h2 : GXs X cl es ts)
    (hs : (assignEach (e :: es) X.env).map (·.2) = assign e X.env :: (assignEach es X.env).map (·.2) := by rfl) : GXs X cl (e :: es) (t :: ts) := pgs_mono (pgs_cons h1 h2 hs) fun v σ H Q ⟨S, env, ds, env', s, r, w, q⟩ => by
  cases ds with
  | nil => cases w
  | cons d ds =>
    obtain ⟨u, us, e1, r1, r2⟩ := r
    have w' : (match asg t d env with | some e => asgs ts ds e | none => none) = some env' := w
    split at w'
    · rename_i e2 w2
      refine ⟨u, us, e1, S, env, d, e2, s, r1, w2, fun σ1 H1 S1 s1 f1 o1 => ⟨S1, e2, ds, env', s1, r2.mono f1.mono, w', fun σ2 H2 S2 s2 f2 o2 => ?_⟩⟩
      refine q σ2 H2 S2 s2 (f1.trans f2) fun j hj => ?_
      have hj' : j ∉ t.slots ++ Tg.slotss ts := hj
      rw [o2 j fun z => hj' (List.mem_append_right _ z), o1 j fun z => hj' (List.mem_append_left _ z)]
    · cases w'
theorem gx_tup {es : List Expr} {k : Nat} {ts : List Tg} (hc : X.calm = true) (h : GXs X cl es ts)
    (hn : (assignEach es X.env).length = ts.length := by rfl) (hst : (assignEach es X.env).findIdx? (·.1) = none := by rfl) : GX X cl (.Tuple es k pos) (.tp ts) :=
  pg_mono (pg_tup (n := ts.length) hc h hn hst) fun v σ H Q ⟨S, env, d, env', s, r, w, q⟩ => by
    cases d with
    | tup xs =>
      obtain ⟨a, vs, e, hq, rr⟩ := r
      have w' : (if xs.length = ts.length then asgs ts xs env else none) = some env' := w
      split at w'
      · rename_i hl
        exact ⟨a, vs, e, s.sub.t hq, rr.len.symm.trans hl, S, env, xs, env', s, rr, w', q⟩
      · cases w'
    | _ => cases w
/-- the object of a slot changes -/
theorem SOk.mutate {i : Nat} {a : Addr} {l : Sl} {m m' : MO} {o : HO} (s : SOk K cl σ H S env) (e : env[i]? = some l) (em : l.mo = some m) (ea : σ[i]? = some (some (.ref a))) (q : OwnAt K cl (upd H a o) S a m') :
    SOk K cl σ (upd H a o) S (env.set i (l.with m')) ∧ Fr σ env H S σ (env.set i (l.with m')) (upd H a o) S := by
  have hi : i < env.length := (List.getElem?_eq_some_iff.mp e).1
  have hS : S a = none := q.free
  have lw : (l.with m').mo = some m' := by
    cases l with
    | no => cases em
    | val d => cases em
    | own m => rfl
    | par m => rfl
  have oth : ∀ {j : Nat} {l' : Sl}, (env.set i (l.with m'))[j]? = some l' → j ≠ i → env[j]? = some l' := fun h n => by
    rw [List.getElem?_set_ne (Ne.symm n)] at h; exact h
  have own' : ∀ {j : Nat} {l' : Sl} {m1 : MO}, (env.set i (l.with m'))[j]? = some l' → l'.mo = some m1 → ∃ l2 m2, env[j]? = some l2 ∧ l2.mo = some m2 := fun {j l' m1} h h2 => by
    by_cases hj : j = i
    · subst hj; exact ⟨l, m, e, em⟩
    · exact ⟨l', m1, oth h hj, h2⟩
  have nb : ∀ {b : Addr} {u : HO}, S b = some u → b ≠ a := fun h z => by subst z; rw [hS] at h; cases h
  refine ⟨⟨fun b u h => ?_, by rw [List.length_set]; exact s.len, fun j d h => ?_, fun j l' m1 h h2 => ?_, fun j j' l1 l2 m1 m2 b h1 h2 h3 h4 h5 h6 => ?_⟩, ⟨fun b u h n => ?_, Sub.rfl', fun _ _ _ h _ => h, fun b ⟨j, l', m1, h1, h2, h3⟩ => ?_, fun j m1 h => ?_⟩⟩
  · rw [upd_ne (nb h)]; exact s.sub b u h
  · by_cases hj : j = i
    · subst hj
      rw [List.getElem?_set_self hi] at h
      rw [Option.some.inj h] at lw
      cases lw
    · exact s.val j d (oth h hj)
  · by_cases hj : j = i
    · subst hj
      rw [List.getElem?_set_self hi] at h
      rw [← Option.some.inj h, lw] at h2
      cases h2
      exact ⟨a, ea, q⟩
    · obtain ⟨b, e1, r⟩ := s.own j l' m1 (oth h hj) h2
      refine ⟨b, e1, r.move Sub.rfl' r.free fun u hu => ?_⟩
      rw [upd_ne fun z => hj (by subst z; exact s.dis j i l' l m1 m b (oth h hj) h2 e em e1 ea)]
      exact hu
  · obtain ⟨l3, m3, a1, a2⟩ := own' h1 h2
    obtain ⟨l4, m4, b1, b2⟩ := own' h3 h4
    exact s.dis j j' l3 l4 m3 m4 b a1 a2 b1 b2 h5 h6
  · rw [upd_ne fun z => n (by subst z; exact ⟨i, l, m, e, em, ea⟩)]
    exact h
  · obtain ⟨l3, m3, a1, a2⟩ := own' h1 h2
    exact .inl ⟨j, l3, m3, a1, a2, h3⟩
  · refine ⟨rfl, ?_⟩
    by_cases hj : j = i
    · subst hj
      rw [e] at h; cases h
      exact ⟨m', by rw [List.getElem?_set_self hi]; rfl⟩
    · exact ⟨m1, by rw [List.getElem?_set_ne (Ne.symm hj)]; exact h⟩
theorem setIx_ok {i : Nat} {k : Int} {d : D} {v : V} {a : Addr} (s : SOk K cl σ H S env) (r : Rep K cl S d v) (w : setIx i k d env = some env') (ea : σ[i]? = some (some (.ref a))) :
    ∃ vs j, H a = some (.lst vs) ∧ ixN vs.length k = some j ∧ SOk K cl σ (upd H a (.lst (vs.set j v))) S env' ∧ Fr σ env H S σ env' (upd H a (.lst (vs.set j v))) S := by
  unfold setIx at w
  split at w
  · rename_i xs e
    obtain ⟨j, w1, w2⟩ := Option.map_eq_some_iff.mp w
    cases w2
    obtain ⟨b, e1, hS, vs, hv, rr⟩ := s.own i _ _ e rfl
    rw [ea] at e1; cases e1
    refine ⟨vs, j, hv, by rw [← rr.len]; exact w1, s.mutate (m' := .lst (xs.set j d)) e rfl ea ⟨hS, _, upd_same, rr.set r j⟩⟩
  · rename_i xs e
    obtain ⟨j, w1, w2⟩ := Option.map_eq_some_iff.mp w
    cases w2
    obtain ⟨b, e1, hS, vs, hv, rr⟩ := s.own i _ _ e rfl
    rw [ea] at e1; cases e1
    refine ⟨vs, j, hv, by rw [← rr.len]; exact w1, s.mutate (m' := .lst (xs.set j d)) e rfl ea ⟨hS, _, upd_same, rr.set r j⟩⟩
  · cases w
theorem setIx_at {i : Nat} {k : Int} {d : D} (s : SOk K cl σ H S env) (w : setIx i k d env = some env') : ∃ a, σ[i]? = some (some (.ref a)) := by
  unfold setIx at w
  split at w
  · rename_i xs e
    obtain ⟨a, e1, _⟩ := s.own i _ _ e rfl
    exact ⟨a, e1⟩
  · rename_i xs e
    obtain ⟨a, e1, _⟩ := s.own i _ _ e rfl
    exact ⟨a, e1⟩
  · cases w
theorem gx_ix {i : Nat} {k : Int} {o ie : Expr} (ho : PE X o (tVar i)) (hi : PE X ie (tC (.int k)))
    (ha : ∀ v, assign (.Subscript o ie pos) X.env v = (do
      let ov ← holding [v] (eval o X.env)
      let iv ← holding [v, ov] (eval ie X.env)
      standAt pos
      holding [v, ov, iv] (setItem ov iv v)
      release [v, ov, iv] []) := by intro _; rfl) : GX X cl (.Subscript o ie pos) (.ix i k) :=
  pg_mono (pg_sub ho hi set_list ha) fun v σ H Q ⟨S, env, d, env', s, r, w, q⟩ => by
    obtain ⟨a, ea⟩ := setIx_at s w
    obtain ⟨vs, j, h1, h2, h3, h4⟩ := setIx_ok s r w ea
    exact ⟨.ref a, ea, a, vs, k, j, rfl, rfl, h1, h2, q σ _ S h3 h4 fun _ _ => rfl⟩
/-- target = value, the value let stay -/
def sAsg (t : Tg) (f : Ev) : Sm := fun env => match fz f env with
  | some (.val d, env1) => (asg t d env1).map fun e => (.nx, e)
  | _ => none
theorem sx_asg {tg e : Expr} {t : Tg} {fe : Ev} (he : EX X cl e fe) (hg : GX X cl tg t) (hs : swapsWithSole [tg] e pos.line X.env = pure false := by rfl) (hw : swappedStores [tg] e X.env = pure none := by rfl)
    (h1 : (assignEach [tg] X.env).map (·.2) = [assign tg X.env] := by rfl) : SX X cl (.Assign [tg] e pos) (sAsg t fe) := ps_mono (ps_asg (ex_fz he) hg hs hw h1) fun D σ H ⟨S, env, o, env', s, w, p⟩ => by
  unfold sAsg at w
  split at w
  · rename_i d e1 w1
    obtain ⟨e2, w2, w3⟩ := Option.map_eq_some_iff.mp w
    cases w3
    exact ⟨S, env, _, e1, s, w1, fun v H1 S1 s1 f1 b1 => ⟨S1, e1, d, _, s1, b1, w2, fun σ2 H2 S2 s2 f2 _ => p σ2 H2 S2 s2 (f1.trans f2)⟩⟩
  · cases w
/-- xs[e] = value -/
def isMut (env : Env') (i : Nat) : Bool := match env[i]? with
  | some l => l.mo.isSome
  | none => false
theorem isMut_at {i : Nat} (s : SOk K cl σ H S env) (h : isMut env i = true) : ∃ a, σ[i]? = some (some (.ref a)) := by
  unfold isMut at h
  split at h
  · rename_i l e
    obtain ⟨m, em⟩ := Option.isSome_iff_exists.mp h
    obtain ⟨a, e1, _⟩ := s.own i l m e em
    exact ⟨a, e1⟩
  · cases h
def sIx (i : Nat) (fi fv : Ev) : Sm := fun env => match fz fv env with
  | some (.val d, e1) => match isMut e1 i, fzn fi e1 with
    | true, some (.val (.int k), e2) => (setIx i k d e2).map fun e => (.nx, e)
    | _, _ => none
  | _ => none
theorem sx_ix {i : Nat} {o ie e : Expr} {fi fv : Ev} {p' : Pos} (ho : PE X o (tVar i)) (hi : EX X cl ie fi) (he : EX X cl e fv)
    (ha : ∀ v, assign (.Subscript o ie p') X.env v = (do
      let ov ← holding [v] (eval o X.env)
      let iv ← holding [v, ov] (eval ie X.env)
      standAt p'
      holding [v, ov, iv] (setItem ov iv v)
      release [v, ov, iv] []) := by intro _; rfl)
    (hs : swapsWithSole [.Subscript o ie p'] e pos.line X.env = pure false := by rfl) (hw : swappedStores [.Subscript o ie p'] e X.env = pure none := by rfl)
    (h1 : (assignEach [.Subscript o ie p'] X.env).map (·.2) = [assign (.Subscript o ie p') X.env] := by rfl) : SX X cl (.Assign [.Subscript o ie p'] e pos) (sIx i fi fv) :=
  ps_mono (ps_asg (ex_fz he) (pg_sub ho (ex_fzn hi) set_list ha) hs hw h1) fun D σ H ⟨S, env, o, env', s, w, p⟩ => by
    unfold sIx at w
    split at w
    · rename_i d e1 w1
      split at w
      · rename_i k e2 w0 w2
        obtain ⟨e3, w3, w4⟩ := Option.map_eq_some_iff.mp w
        cases w4
        refine ⟨S, env, _, e1, s, w1, fun v H1 S1 s1 f1 b1 => ?_⟩
        obtain ⟨a, ea⟩ := isMut_at s1 w0
        refine ⟨.ref a, ea, ?_⟩
        refine tE_fzn s1 w2 fun u H2 S2 s2 f2 b2 => ?_
        have eu : u = .int k := b2
        subst eu
        obtain ⟨vs, j, h1, h2, h3, h4⟩ := setIx_ok s2 (Rep.mono f2.mono b1) w3 ea
        exact ⟨a, vs, k, j, rfl, rfl, h1, h2, p σ _ S2 h3 ((f1.trans f2).trans h4)⟩
      · cases w
    · cases w
end
end VL

set_option Elab.async false
set_option linter.all false
set_option maxRecDepth 100000
set_option maxHeartbeats 1000000
/-! VLg: what is walked; for, while; comprehensions. -/
namespace VL
open PySem PySem.Spec PyProof.Rows L2
/-- an iterator that yields these data, as long as what stays stays -/
def Iter (K : PySem.W.Frag) (cl : Nat → Addr) (S : Hp) (ds : List D) (J : It) : Prop := ∀ (i : Nat) (Hc Sc : Hp), Sub S Sc → Sub Sc Hc →
  (∀ d, ds[i]? = some d → J.go i Hc ∧ ∀ x H', J.yld i Hc x H' → ∃ S', Gr Hc Sc H' S' ∧ Rep K cl S' d x) ∧ (i = ds.length → J.stop i Hc)
theorem endL {ds : List D} {i : Nat} (h : ds[i]? = none) (hi : i ≤ ds.length) : i = ds.length := by
  have := List.getElem?_eq_none_iff.mp h
  omega
abbrev Iv := Env' → Option (List D × Env')
def tI (K : PySem.W.Frag) (cl : Nat → Addr) (f : Iv) : TI := fun σ H R => ∃ S env ds env', SOk K cl σ H S env ∧ f env = some (ds, env') ∧
  ∀ J H' S', SOk K cl σ H' S' env' → Fr σ env H S σ env' H' S' → Iter K cl S' ds J → R J H'
abbrev IX (X : Cx) (cl : Nat → Addr) (tg iter : Expr) (f : Iv) : Prop := PI X tg iter (tI X.K cl f)
theorem pi_mono {X : Cx} {tg e : Expr} {t t' : TI} (h : PI X tg e t) (w : ∀ σ H R, t' σ H R → t σ H R) : PI X tg e t' := ⟨fun pins s σ H R I q => h.run pins s σ H R I (w σ H R q)⟩
section
variable {K : PySem.W.Frag} {cl : Nat → Addr} {X : Cx} {σ σ1 : L2.St} {H S H1 S1 H' S' : Hp} {env env1 env' : Env'} {pos : Pos} {tg : Expr}
/-! ### lists, tuples -/
theorem iter_list {a : Addr} {vs : List V} {ds : List D} (h : SqL K S a vs) (r : Reps K cl S ds vs) : Iter K cl S ds (Itl K a) := fun i Hc Sc e1 e2 => by
  have hq : SqL K Hc a vs := (e1.comp e2).l h
  refine ⟨fun d hd => ?_, fun hn => ⟨vs, hq, by rw [← r.len, hn]; exact Nat.le_refl _⟩⟩
  obtain ⟨v, hv, rv⟩ := r.get hd
  refine ⟨⟨vs, v, hq, hv⟩, fun x H' ⟨eH, y⟩ => ?_⟩
  subst eH
  have ex := Option.some.inj ((y vs hq).symm.trans hv)
  subst ex
  exact ⟨Sc, Gr.same e2, rv.mono e1⟩
theorem iter_tup {a : Addr} {vs : List V} {ds : List D} (h : SqT K S a vs) (r : Reps K cl S ds vs) : Iter K cl S ds (Itt K a) := fun i Hc Sc e1 e2 => by
  have hq : SqT K Hc a vs := (e1.comp e2).t h
  refine ⟨fun d hd => ?_, fun hn => ⟨vs, hq, by rw [← r.len, hn]; exact Nat.le_refl _⟩⟩
  obtain ⟨v, hv, rv⟩ := r.get hd
  refine ⟨⟨vs, v, hq, hv⟩, fun x H' ⟨eH, y⟩ => ?_⟩
  subst eH
  have ex := Option.some.inj ((y vs hq).symm.trans hv)
  subst ex
  exact ⟨Sc, Gr.same e2, rv.mono e1⟩
/-- a list or a tuple, whichever it is -/
def iSeq (K : PySem.W.Frag) (tl : TE) : TI := fun σ H R => tl σ H fun x H1 => ∃ a, x = .ref a ∧ (((∃ xs, SqL K H1 a xs) ∧ R (Itl K a) H1) ∨ ((∃ xs, SqT K H1 a xs) ∧ R (Itt K a) H1))
theorem pi_either {l : Expr} {tl : TE} (hl : PE X l tl) : PI X tg l (iSeq X.K tl) := by
  constructor
  intro pins s σ H R I h
  refine thn (hl.run pins s σ H _ I h) ?_
  rintro v s1 ⟨x, H1, I1, r1, a, rfl, (⟨⟨xs, hq⟩, q⟩ | ⟨⟨xs, hq⟩, q⟩)⟩
  · obtain ⟨us, rv, pl, _⟩ := I1.list hq
    cases (show v = Value.ref a from r1)
    apply wpAny_pyIter_list pl.isList
    refine ⟨_, [s1.heap.objs.size], _, _, H1, rfl, I1.kept (t' := s1.toks) (fun b o e => Heap.get?_push_of_some _ e), turn_list a _, ⟨_, Heap.get?_push_size _ rfl, rfl, rfl⟩, ?_, q⟩
    intro b hb
    rw [List.mem_singleton.mp hb]
    exact I1.fpOk (Nat.le_refl _) (I1.hok.fresh (Nat.le_refl _))
  · obtain ⟨us, rv, pl, _⟩ := I1.tuple hq
    cases (show v = Value.ref a from r1)
    apply wpAny_pyIter_tuple (show s1.heap.IsTuple a us.toArray from pl)
    refine ⟨_, [s1.heap.objs.size], _, _, H1, rfl, I1.kept (t' := s1.toks) (fun b o e => Heap.get?_push_of_some _ e), turn_tuple a _, ⟨_, Heap.get?_push_size _ rfl, rfl, rfl⟩, ?_, q⟩
    intro b hb
    rw [List.mem_singleton.mp hb]
    exact I1.fpOk (Nat.le_refl _) (I1.hok.fresh (Nat.le_refl _))
def iSq (f : Ev) : Iv := fun env => match fz f env with
  | some (.val (.lst xs), e) => some (xs, e)
  | some (.val (.tup xs), e) => some (xs, e)
  | some (.val (.fl xs), e) => some (xs, e)
  | _ => none
theorem ix_seq' {l : Expr} {f : Ev} (h : EX X cl l f) : IX X cl tg l (iSq f) := pi_mono (pi_either (ex_fz h)) fun σ H R ⟨S, env, ds, env', s, w, q⟩ => by
  unfold iSq at w
  split at w
  · rename_i xs e w1
    cases w
    refine ⟨S, env, _, _, s, w1, fun v H1 S1 s1 f1 b1 => ?_⟩
    obtain ⟨a, vs, e, h, r⟩ := b1
    exact ⟨a, e, .inl ⟨⟨vs, .of (s1.sub _ _ h)⟩, q _ H1 S1 s1 f1 (iter_list (.of h) r)⟩⟩
  · rename_i xs e w1
    cases w
    refine ⟨S, env, _, _, s, w1, fun v H1 S1 s1 f1 b1 => ?_⟩
    obtain ⟨a, vs, e, h, r⟩ := b1
    exact ⟨a, e, .inr ⟨⟨vs, s1.sub.t h⟩, q _ H1 S1 s1 f1 (iter_tup h r)⟩⟩
  · rename_i xs e w1
    cases w
    refine ⟨S, env, _, _, s, w1, fun v H1 S1 s1 f1 b1 => ?_⟩
    obtain ⟨a, vs, e, h, r⟩ := b1
    exact ⟨a, e, .inl ⟨⟨vs, s1.sub.l h⟩, q _ H1 S1 s1 f1 (iter_list h r)⟩⟩
  · cases w
/-! ### ranges -/
def fromN (lo c : Int) : Nat → List D
  | 0 => []
  | n + 1 => .int lo :: fromN (lo + c) c n
theorem fromN_len (c : Int) : ∀ (lo : Int) (n : Nat), (fromN lo c n).length = n
  | _, 0 => rfl
  | lo, n + 1 => by show (fromN (lo + c) c n).length + 1 = n + 1; rw [fromN_len]
theorem fromN_get (c : Int) : ∀ (lo : Int) (n i : Nat), i < n → (fromN lo c n)[i]? = some (.int (lo + (i : Nat) * c))
  | _, 0, _, h => by omega
  | lo, n + 1, 0, _ => by
    show some (D.int lo) = _
    simp
  | lo, n + 1, i + 1, h => by
    show (fromN (lo + c) c n)[i]? = _
    rw [fromN_get c (lo + c) n i (by omega)]
    congr 2
    rw [Int.natCast_succ, Int.add_mul]
    omega
theorem iter_range {lo : Int} {n : Nat} : Iter K cl S (fromN lo 1 n) (Itr lo n) := fun i Hc Sc e1 e2 => by
  refine ⟨fun d hd => ?_, fun hn => ?_⟩
  · have hi : i < n := by have := (List.getElem?_eq_some_iff.mp hd).1; rw [fromN_len] at this; exact this
    rw [fromN_get 1 lo n i hi] at hd
    cases hd
    refine ⟨hi, fun x H' ⟨eH, ex⟩ => ?_⟩
    subst eH ex
    exact ⟨Sc, Gr.same e2, by show V.int _ = V.int _; rw [Int.mul_one]⟩
  · rw [fromN_len] at hn
    exact Nat.le_of_eq hn.symm
theorem iter_rangeC {lo c : Int} {n : Nat} : Iter K cl S (fromN lo c n) (Itc lo c n) := fun i Hc Sc e1 e2 => by
  refine ⟨fun d hd => ?_, fun hn => ?_⟩
  · have hi : i < n := by have := (List.getElem?_eq_some_iff.mp hd).1; rw [fromN_len] at this; exact this
    rw [fromN_get c lo n i hi] at hd
    cases hd
    refine ⟨hi, fun x H' ⟨eH, ex⟩ => ?_⟩
    subst eH ex
    exact ⟨Sc, Gr.same e2, rfl⟩
  · rw [fromN_len] at hn
    exact Nat.le_of_eq hn.symm
def okR (i : Int) : Bool := Nat.ble i.natAbs 2305843009213693952
theorem okR_mk {i : Int} (h : i.natAbs ≤ 2305843009213693952) : okR i = true := Nat.ble_eq_true_of_le h
theorem okR_of {i : Int} (h : okR i = true) : -(2 ^ 62) ≤ i ∧ i < 2 ^ 62 := by
  have := Nat.le_of_ble_eq_true h
  omega
def iRan1 (f : Evs) : Iv := fun env => match f env with
  | some ([.val (.int j)], e) => if okR j = true then some (fromN 0 1 j.toNat, e) else none
  | _ => none
def iRan2 (f : Evs) : Iv := fun env => match f env with
  | some ([.val (.int i), .val (.int j)], e) => if okR i = true ∧ okR j = true then some (fromN i 1 (j - i).toNat, e) else none
  | _ => none
theorem ix_range1 {a : Expr} {f : Evs} {p : Pos} (hg : Gl X "range") (hm : X.mg "range" = none) (ha : AX X cl [a] f) (hs : starEach [a] X.env = [(false, eval a X.env)] := by rfl) : IX X cl tg (.Call (.Name "range" p) [a] [] pos) (iRan1 f) :=
  pi_mono (pi_range1 hg hm ha hs) fun σ H R ⟨S, env, ds, env', s, w, q⟩ => by
    unfold iRan1 at w
    split at w
    · rename_i j e w1
      split at w
      · rename_i hj
        cases w
        refine ⟨S, env, _, _, s, w1, fun vs H1 S1 s1 f1 b1 => ?_⟩
        cases b1 with
        | cons c1 c2 =>
          cases c2
          cases (show _ = V.int j from c1)
          obtain ⟨h1, h2⟩ := okR_of hj
          exact ⟨j, rfl, h1, h2, q _ H1 S1 s1 f1 iter_range⟩
      · cases w
    · cases w
theorem ix_range2 {a b : Expr} {f : Evs} {p : Pos} (hg : Gl X "range") (hm : X.mg "range" = none) (ha : AX X cl [a, b] f) (hs : starEach [a, b] X.env = [(false, eval a X.env), (false, eval b X.env)] := by rfl) (hs2 : starEach [b] X.env = [(false, eval b X.env)] := by rfl) :
    IX X cl tg (.Call (.Name "range" p) [a, b] [] pos) (iRan2 f) :=
  pi_mono (pi_range2 hg hm ha hs hs2) fun σ H R ⟨S, env, ds, env', s, w, q⟩ => by
    unfold iRan2 at w
    split at w
    · rename_i i j e w1
      split at w
      · rename_i hj
        cases w
        refine ⟨S, env, _, _, s, w1, fun vs H1 S1 s1 f1 b1 => ?_⟩
        cases b1 with
        | cons c1 c2 =>
          cases c2 with
          | cons c3 c4 =>
            cases c4
            cases (show _ = V.int i from c1)
            cases (show _ = V.int j from c3)
            obtain ⟨h1, h2⟩ := okR_of hj.1
            obtain ⟨h3, h4⟩ := okR_of hj.2
            exact ⟨i, j, rfl, ⟨h1, h2, h3, h4⟩, q _ H1 S1 s1 f1 iter_range⟩
      · cases w
    · cases w
/-! ### for -/
def forL (t : Tg) (body : Sm) : List D → Env' → Option (Out × Env')
  | [], env => some (.nx, env)
  | d :: ds, env => match asg t d env with
    | some e1 => match body e1 with
      | some (.nx, e2) => forL t body ds e2
      | some (.ct, e2) => forL t body ds e2
      | some (.bk, e2) => some (.nx, e2)
      | some (.rt b, e2) => some (.rt b, e2)
      | none => none
    | none => none
def sFor (t : Tg) (fi : Iv) (body : Sm) : Sm := fun env => match fi env with
  | some (ds, e1) => forL t body ds e1
  | none => none
theorem drop_none {ds : List D} {i : Nat} (h : ds[i]? = none) : ds.drop i = [] := List.drop_eq_nil_of_le (List.getElem?_eq_none_iff.mp h)
theorem drop_some {ds : List D} {i : Nat} {d : D} (h : ds[i]? = some d) : ds.drop i = d :: ds.drop (i + 1) := by
  obtain ⟨hi, e⟩ := List.getElem?_eq_some_iff.mp h
  rw [List.drop_eq_getElem_cons hi, e]
theorem sx_for {iter : Expr} {body : List Stmt} {t : Tg} {fi : Iv} {fb : Sm} (hp : PassesOwn (model X.prog X.w) X.A X.env X.xe) (hc : X.calm = true) (hi : IX X cl tg iter fi) (hg : GX X cl tg t) (hb : BX X cl body fb)
    (hs : ∀ x, foldedSetIterable iter X.env x = pure x := by intro _; rfl) : SX X cl (.For tg iter body [] pos) (sFor t fi fb) := ps_mono (ps_for hp hc hi hg hb hs) fun D σ H ⟨S, env, o, env', s, w, p⟩ => by
  unfold sFor at w
  split at w
  · rename_i ds e1 w1
    refine ⟨S, env, ds, e1, s, w1, fun J H1 S1 s1 f1 it => ?_⟩
    refine ⟨fun i m σc Hc => ∃ Sc ec, m = ds.length - i ∧ i ≤ ds.length ∧ SOk X.K cl σc Hc Sc ec ∧ Fr σ env H S σc ec Hc Sc ∧ Sub S1 Sc ∧ forL t fb (ds.drop i) ec = some (o, env'), ⟨_, S1, e1, rfl, Nat.zero_le _, s1, f1, Sub.rfl', w⟩, ?_⟩
    rintro i m σc Hc ⟨Sc, ec, rfl, hi, sc, fc, gc, wc⟩
    obtain ⟨ia, ib⟩ := it i Hc Sc gc sc.sub
    cases hd : ds[i]? with
    | none =>
      rw [drop_none hd] at wc
      cases wc
      exact .inl ⟨ib (endL hd hi), p σc Hc Sc sc fc⟩
    | some d =>
      rw [drop_some hd] at wc
      have hlt : i < ds.length := (List.getElem?_eq_some_iff.mp hd).1
      obtain ⟨go, yl⟩ := ia d hd
      refine .inr ⟨go, fun σ' H' => ∃ S' e', SOk X.K cl σ' H' S' e' ∧ Fr σ env H S σ' e' H' S' ∧ Sub S1 S' ∧ forL t fb (ds.drop (i + 1)) e' = some (o, env'), ?_, ?_⟩
      · rintro σ' H' ⟨S', e', s', f', g', w'⟩
        exact ⟨_, by omega, S', e', rfl, hlt, s', f', g', w'⟩
      · intro x H' hy
        obtain ⟨S', gr, rx⟩ := yl x H' hy
        have s2 := sc.gr gr
        have f2 := fc.trans (sc.fr gr)
        have wc' : (match asg t d ec with
          | some e1 => match fb e1 with
            | some (.nx, e2) => forL t fb (ds.drop (i + 1)) e2
            | some (.ct, e2) => forL t fb (ds.drop (i + 1)) e2
            | some (.bk, e2) => some (.nx, e2)
            | some (.rt b, e2) => some (.rt b, e2)
            | none => none
          | none => none) = some (o, env') := wc
        split at wc'
        · rename_i e3 w3
          refine ⟨S', ec, d, e3, s2, rx, w3, fun σ3 H3 S3 s3 f3 _ => ?_⟩
          have f4 := f2.trans f3
          have g4 : Sub S1 S3 := (gc.comp gr.mono).comp f3.mono
          split at wc'
          · rename_i e4 w4
            exact ⟨S3, e3, .nx, e4, s3, w4, fun σ5 H5 S5 s5 f5 => ⟨S5, e4, s5, f4.trans f5, g4.comp f5.mono, wc'⟩⟩
          · rename_i e4 w4
            exact ⟨S3, e3, .ct, e4, s3, w4, fun σ5 H5 S5 s5 f5 => ⟨S5, e4, s5, f4.trans f5, g4.comp f5.mono, wc'⟩⟩
          · rename_i e4 w4
            cases wc'
            exact ⟨S3, e3, .bk, _, s3, w4, fun σ5 H5 S5 s5 f5 => p σ5 H5 S5 s5 (f4.trans f5)⟩
          · rename_i b e4 w4
            cases wc'
            exact ⟨S3, e3, .rt b, _, s3, w4, fun v σ' H' S' s' f' b' => (Post.from (o := .rt b) f4 p) v σ' H' S' s' f' b'⟩
          · cases wc'
        · cases wc'
  · cases w
/-! ### while -/
def whileN (t : Tv) (body : Sm) : Nat → Env' → Option (Out × Env')
  | 0, _ => none
  | n + 1, env => match t env with
    | some (true, e1) => match body e1 with
      | some (.nx, e2) => whileN t body n e2
      | some (.ct, e2) => whileN t body n e2
      | some (.bk, e2) => some (.nx, e2)
      | some (.rt b, e2) => some (.rt b, e2)
      | none => none
    | some (false, e1) => some (.nx, e1)
    | none => none
open Classical in
noncomputable def sWhile (t : Tv) (body : Sm) : Sm := fun env => if h : ∃ n, (whileN t body n env).isSome = true then whileN t body (choose h) env else none
theorem whileN_mono {t : Tv} {body : Sm} : ∀ {n m : Nat} {env : Env'} {r : Out × Env'}, whileN t body n env = some r → n ≤ m → whileN t body m env = some r
  | 0, _, _, _, h, _ => by cases h
  | n + 1, 0, _, _, _, h => by omega
  | n + 1, m + 1, env, r, h, hm => by
    unfold whileN at h ⊢
    split at h
    · split at h
      · exact whileN_mono h (by omega)
      · exact whileN_mono h (by omega)
      · exact h
      · exact h
      · cases h
    · exact h
    · cases h
theorem sWhile_of {t : Tv} {body : Sm} {n : Nat} {env : Env'} {r : Out × Env'} (h : whileN t body n env = some r) : sWhile t body env = some r := by
  have hx : ∃ n, (whileN t body n env).isSome = true := ⟨n, by rw [h]; rfl⟩
  unfold sWhile
  rw [dif_pos hx]
  obtain ⟨r', hr⟩ := Option.isSome_iff_exists.mp (Classical.choose_spec hx)
  rw [hr]
  have a := whileN_mono hr (Nat.le_max_left (Classical.choose hx) n)
  have b := whileN_mono h (Nat.le_max_right (Classical.choose hx) n)
  rw [a] at b
  exact b
theorem sWhile_ex {t : Tv} {body : Sm} {env : Env'} {r : Out × Env'} (h : sWhile t body env = some r) : ∃ n, whileN t body n env = some r := by
  unfold sWhile at h
  split at h
  · exact ⟨_, h⟩
  · cases h
theorem sx_while {c : Expr} {body : List Stmt} {t : Tv} {fb : Sm} (hp : PassesOwn (model X.prog X.w) X.A X.env X.xe) (hc : TX X cl c t) (hb : BX X cl body fb) : SX X cl (.While c body [] pos) (sWhile t fb) := ps_mono (ps_while hp hc hb) fun D σ H ⟨S, env, o, env', s, w, p⟩ => by
  obtain ⟨n, wn⟩ := sWhile_ex w
  refine ⟨fun m σc Hc => ∃ Sc ec, SOk X.K cl σc Hc Sc ec ∧ Fr σ env H S σc ec Hc Sc ∧ whileN t fb m ec = some (o, env'), ⟨n, S, env, s, .same, wn⟩, ?_⟩
  rintro m σc Hc ⟨Sc, ec, sc, fc, wc⟩
  cases m with
  | zero => cases wc
  | succ m =>
    unfold whileN at wc
    split at wc
    · rename_i e1 w1
      refine ⟨Sc, ec, true, e1, sc, w1, fun H1 S1 s1 f1 => iteT ?_⟩
      have f2 := fc.trans f1
      refine ⟨fun σ' H' => ∃ S' e', SOk X.K cl σ' H' S' e' ∧ Fr σ env H S σ' e' H' S' ∧ whileN t fb m e' = some (o, env'), ?_, ?_⟩
      · rintro σ' H' ⟨S', e', s', f', w'⟩
        exact ⟨m, by omega, S', e', s', f', w'⟩
      · split at wc
        · rename_i e4 w4
          exact ⟨S1, e1, .nx, e4, s1, w4, fun σ5 H5 S5 s5 f5 => ⟨S5, e4, s5, f2.trans f5, wc⟩⟩
        · rename_i e4 w4
          exact ⟨S1, e1, .ct, e4, s1, w4, fun σ5 H5 S5 s5 f5 => ⟨S5, e4, s5, f2.trans f5, wc⟩⟩
        · rename_i e4 w4
          cases wc
          exact ⟨S1, e1, .bk, _, s1, w4, fun σ5 H5 S5 s5 f5 => p σ5 H5 S5 s5 (f2.trans f5)⟩
        · rename_i b e4 w4
          cases wc
          exact ⟨S1, e1, .rt b, _, s1, w4, fun v σ' H' S' s' f' b' => (Post.from (o := .rt b) f2 p) v σ' H' S' s' f' b'⟩
        · cases wc
    · rename_i e1 w1
      cases wc
      exact ⟨Sc, ec, false, _, sc, w1, fun H1 S1 s1 f1 => iteF (p σc H1 S1 s1 (fc.trans f1))⟩
    · cases wc
end
end VL

set_option Elab.async false
set_option linter.all false
set_option maxRecDepth 100000
set_option maxHeartbeats 1000000
/-! VLh: comprehensions. -/
namespace VL
open PySem PySem.Spec PyProof.Rows L2
def wipeE (env : Env') : List Nat → Env'
  | [] => env
  | v :: vs => (wipeE env vs).set v .no
def clean (vs : List Nat) (env : Env') : Bool := vs.all fun i => match env[i]? with
  | some (.own _) => false
  | some (.par _) => false
  | _ => true
def restoreE (e1 e2 : Env') : List Nat → Env'
  | [] => e2
  | v :: vs => match e1[v]? with
    | some l => (restoreE e1 e2 vs).set v l
    | none => restoreE e1 e2 vs
theorem wipeE_len (env : Env') : ∀ vs, (wipeE env vs).length = env.length
  | [] => rfl
  | v :: vs => by unfold wipeE; rw [List.length_set, wipeE_len env vs]
theorem wipeE_some {env : Env'} {i : Nat} {l : Sl} : ∀ {vs : List Nat}, (wipeE env vs)[i]? = some l → (l = .no ∧ i ∈ vs) ∨ (i ∉ vs ∧ env[i]? = some l)
  | [], h => .inr ⟨by simp, h⟩
  | v :: vs, h => by
    unfold wipeE at h
    rcases set_of h with ⟨e1, e2⟩ | ⟨e1, e2⟩
    · exact .inl ⟨e2, by simp [e1]⟩
    · rcases wipeE_some e2 with ⟨a, b⟩ | ⟨a, b⟩
      · exact .inl ⟨a, List.mem_cons_of_mem _ b⟩
      · exact .inr ⟨by simp only [List.mem_cons, not_or]; exact ⟨e1, a⟩, b⟩
theorem clean_of {vs : List Nat} {env : Env'} (h : clean vs env = true) {i : Nat} (hi : i ∈ vs) {l : Sl} (e : env[i]? = some l) : l.mo = none := by
  have q := List.all_eq_true.mp h i hi
  rw [e] at q
  cases l with
  | no => rfl
  | val d => rfl
  | own m => cases q
  | par m => cases q
theorem wipeE_out {env : Env'} {i : Nat} : ∀ {vs : List Nat}, i ∉ vs → (wipeE env vs)[i]? = env[i]?
  | [], _ => rfl
  | v :: vs, h => by
    unfold wipeE
    simp only [List.mem_cons, not_or] at h
    rw [List.getElem?_set_ne (fun z => h.1 z.symm), wipeE_out h.2]
theorem clean_wipe (vs : List Nat) (env : Env') : clean vs (wipeE env vs) = true := by
  refine List.all_eq_true.mpr fun i hi => ?_
  cases e : (wipeE env vs)[i]? with
  | none => rfl
  | some l =>
    rcases wipeE_some e with ⟨a, _⟩ | ⟨a, _⟩
    · subst a; rfl
    · exact absurd hi a
theorem restoreE_len {e1 e2 : Env'} : ∀ vs, (restoreE e1 e2 vs).length = e2.length
  | [] => rfl
  | v :: vs => by
    unfold restoreE
    split
    · rw [List.length_set, restoreE_len vs]
    · exact restoreE_len vs
theorem restoreE_some {e1 e2 : Env'} (hl : e1.length = e2.length) {i : Nat} {l : Sl} : ∀ {vs : List Nat}, (restoreE e1 e2 vs)[i]? = some l → (i ∈ vs ∧ e1[i]? = some l) ∨ (i ∉ vs ∧ e2[i]? = some l)
  | [], h => .inr ⟨by simp, h⟩
  | v :: vs, h => by
    unfold restoreE at h
    split at h
    · rename_i l' e
      rcases set_of h with ⟨a, b⟩ | ⟨a, b⟩
      · subst a b
        exact .inl ⟨List.mem_cons_self, e⟩
      · rcases restoreE_some hl b with ⟨c, d⟩ | ⟨c, d⟩
        · exact .inl ⟨List.mem_cons_of_mem _ c, d⟩
        · exact .inr ⟨by simp only [List.mem_cons, not_or]; exact ⟨a, c⟩, d⟩
    · rename_i e
      have hi : i < e1.length := by
        have := (List.getElem?_eq_some_iff.mp h).1
        rw [restoreE_len] at this
        omega
      have hv : ¬ v < e1.length := fun z => by rw [List.getElem?_eq_getElem z] at e; cases e
      rcases restoreE_some hl h with ⟨c, d⟩ | ⟨c, d⟩
      · exact .inl ⟨List.mem_cons_of_mem _ c, d⟩
      · exact .inr ⟨by simp only [List.mem_cons, not_or]; exact ⟨fun z => hv (by rw [← z]; exact hi), c⟩, d⟩
section
variable {K : PySem.W.Frag} {cl : Nat → Addr} {X : Cx} {σ σ1 σ2 : L2.St} {H S H1 S1 H2 S2 H' S' : Hp} {env env1 e1 e2 env' : Env'} {pos : Pos} {vs : List Nat}
theorem wipeE_own {i : Nat} {l : Sl} {m : MO} (h : (wipeE env vs)[i]? = some l) (h2 : l.mo = some m) : i ∉ vs ∧ env[i]? = some l := by
  rcases wipeE_some h with ⟨a, _⟩ | z
  · subst a; cases h2
  · exact z
theorem SOk.wipe (s : SOk K cl σ H S env) : SOk K cl (L2.wipe σ vs) H S (wipeE env vs) where
  sub := s.sub
  len := by rw [wipeE_len, L2.wipe_length]; exact s.len
  val := fun i d h => by
    rcases wipeE_some h with ⟨a, _⟩ | ⟨a, b⟩
    · cases a
    · rw [L2.wipe_out a]; exact s.val i d b
  own := fun i l m h h2 => by
    obtain ⟨a, b⟩ := wipeE_own h h2
    rw [L2.wipe_out a]; exact s.own i l m b h2
  dis := fun i j l l' m m' a h1 h2 h3 h4 h5 h6 => by
    obtain ⟨a1, b1⟩ := wipeE_own h1 h2
    obtain ⟨a2, b2⟩ := wipeE_own h3 h4
    rw [L2.wipe_out a1] at h5
    rw [L2.wipe_out a2] at h6
    exact s.dis i j l l' m m' a b1 h2 b2 h4 h5 h6
theorem Fr.wipe (hc : clean vs env = true) : Fr σ env H S (L2.wipe σ vs) (wipeE env vs) H S := by
  have nv : ∀ {i : Nat} {l : Sl} {m : MO}, env[i]? = some l → l.mo = some m → i ∉ vs := fun h h2 z => by
    rw [clean_of hc z h] at h2; cases h2
  refine ⟨fun _ _ h _ => h, Sub.rfl', fun _ _ _ h _ => h, fun b ⟨i, l, m, h1, h2, h3⟩ => ?_, fun i m h => ?_⟩
  · obtain ⟨a1, b1⟩ := wipeE_own h1 h2
    rw [L2.wipe_out a1] at h3
    exact .inl ⟨i, l, m, b1, h2, h3⟩
  · have hi := nv h (m := m) rfl
    exact ⟨L2.wipe_out hi, m, by rw [wipeE_out hi]; exact h⟩
/-- back from the block -/
theorem SOk.restore (s1 : SOk K cl σ H1 S1 e1) (hc : clean vs e1 = true) (s2 : SOk K cl (L2.wipe σ vs) H2 S2 e2) (hc2 : clean vs e2 = true) (e : Sub S1 S2) :
    SOk K cl σ H2 S2 (restoreE e1 e2 vs) ∧ Fr (L2.wipe σ vs) e2 H2 S2 σ (restoreE e1 e2 vs) H2 S2 := by
  have hl : e1.length = e2.length := by rw [s1.len, s2.len, L2.wipe_length]
  have o2 : ∀ {i : Nat} {l : Sl} {m : MO}, (restoreE e1 e2 vs)[i]? = some l → l.mo = some m → i ∉ vs ∧ e2[i]? = some l := fun {i l m} h h2 => by
    rcases restoreE_some hl h with ⟨a, b⟩ | z
    · rw [clean_of hc a b] at h2; cases h2
    · exact z
  refine ⟨⟨s2.sub, by rw [restoreE_len]; exact s2.len.trans (L2.wipe_length _ _), fun i d h => ?_, fun i l m h h2 => ?_, fun i j l l' m m' a h1 h2 h3 h4 h5 h6 => ?_⟩, ⟨fun _ _ h _ => h, Sub.rfl', fun _ _ _ h _ => h, fun b ⟨i, l, m, h1, h2, h3⟩ => ?_, fun i m h => ?_⟩⟩
  · rcases restoreE_some hl h with ⟨a, b⟩ | ⟨a, b⟩
    · obtain ⟨v, q, r⟩ := s1.val i d b
      exact ⟨v, q, r.mono e⟩
    · have q := s2.val i d b
      rw [L2.wipe_out a] at q
      exact q
  · obtain ⟨a, b⟩ := o2 h h2
    have q := s2.own i l m b h2
    rw [L2.wipe_out a] at q
    exact q
  · obtain ⟨a1, b1⟩ := o2 h1 h2
    obtain ⟨a2, b2⟩ := o2 h3 h4
    exact s2.dis i j l l' m m' a b1 h2 b2 h4 (by rw [L2.wipe_out a1]; exact h5) (by rw [L2.wipe_out a2]; exact h6)
  · obtain ⟨a1, b1⟩ := o2 h1 h2
    exact .inl ⟨i, l, m, b1, h2, by rw [L2.wipe_out a1]; exact h3⟩
  · have hi : i ∉ vs := fun z => by have := clean_of hc2 z h; cases this
    refine ⟨(L2.wipe_out hi).symm, m, ?_⟩
    have : ∀ {ws : List Nat}, i ∉ ws → (restoreE e1 e2 ws)[i]? = e2[i]? := fun {ws} => by
      induction ws with
      | nil => intro _; rfl
      | cons w ws ih =>
        intro hw
        simp only [List.mem_cons, not_or] at hw
        unfold restoreE
        split
        · rw [List.getElem?_set_ne (fun z => hw.1 z.symm)]; exact ih hw.2
        · exact ih hw.2
    rw [this hi]; exact h
/-- an object apart is changed -/
theorem SOk.poke {a : Addr} {o : HO} (s : SOk K cl σ H S env) (h0 : S a = none) (n : ¬ Owned σ env a) : SOk K cl σ (upd H a o) S env where
  sub := fun b u h => by rw [upd_ne (fun z => by subst z; rw [h0] at h; cases h)]; exact s.sub b u h
  len := s.len
  val := s.val
  own := fun i l m h h2 => by
    obtain ⟨b, e, r⟩ := s.own i l m h h2
    exact ⟨b, e, r.move Sub.rfl' r.free fun u hu => by rw [upd_ne (fun z => n (by subst z; exact ⟨i, l, m, h, h2, e⟩))]; exact hu⟩
  dis := s.dis
theorem Fr.poke {a : Addr} {o : HO} (f : Fr σ env H S σ1 env1 H1 S1) (h : Owned σ env a ∨ H a = none) : Fr σ env H S σ1 env1 (upd H1 a o) S1 where
  keep := fun b u hb n => by
    rw [upd_ne (fun z => by subst z; rcases h with h | h; exact n h; rw [h] at hb; cases hb)]
    exact f.keep b u hb n
  mono := f.mono
  priv := f.priv
  back := f.back
  par := f.par
theorem put_len {i : Nat} {b : Bv} (w : put i b env = some env') : env'.length = env.length := by
  unfold put at w
  split at w
  · split at w
    · cases w; exact List.length_set
    · cases w; exact List.length_set
    · cases w
  · cases w
theorem setIx_len {i : Nat} {k : Int} {d : D} (w : setIx i k d env = some env') : env'.length = env.length := by
  unfold setIx at w
  split at w
  · obtain ⟨j, _, w2⟩ := Option.map_eq_some_iff.mp w
    cases w2; exact List.length_set
  · obtain ⟨j, _, w2⟩ := Option.map_eq_some_iff.mp w
    cases w2; exact List.length_set
  · cases w
mutual
theorem asg_len : ∀ {t : Tg} {d : D} {env env' : Env'}, asg t d env = some env' → env'.length = env.length
  | .nm i, d, _, _, w => put_len (by simpa only [asg] using w)
  | .ix i k, d, _, _, w => setIx_len (by simpa only [asg] using w)
  | .tp ts, .tup xs, env, env', w => by
    have w' : (if xs.length = ts.length then asgs ts xs env else none) = some env' := w
    split at w'
    · exact asgs_len w'
    · cases w'
  | .tp _, .non, _, _, w => by cases w
  | .tp _, .bl _, _, _, w => by cases w
  | .tp _, .int _, _, _, w => by cases w
  | .tp _, .str _, _, _, w => by cases w
  | .tp _, .lst _, _, _, w => by cases w
  | .tp _, .ins _ _, _, _, w => by cases w
  | .tp _, .ty _, _, _, w => by cases w
  | .tp _, .cls _, _, _, w => by cases w
  | .tp _, .fl _, _, _, w => by cases w
  | .tp _, .raw _, _, _, w => by cases w
theorem asgs_len : ∀ {ts : List Tg} {ds : List D} {env env' : Env'}, asgs ts ds env = some env' → env'.length = env.length
  | [], [], _, _, w => by cases w; rfl
  | [], _ :: _, _, _, w => by cases w
  | _ :: _, [], _, _, w => by cases w
  | t :: ts, d :: ds, env, env', w => by
    have w' : (match asg t d env with | some e => asgs ts ds e | none => none) = some env' := w
    split at w'
    · rename_i e q
      rw [asgs_len w', asg_len q]
    · cases w'
end
def compL (vs : List Nat) (t : Tg) (ft : Tv) (fe : Ev) : List D → Env' → Option (List D × Env')
  | [], env => some ([], env)
  | d :: ds, env => match asg t d env with
    | some e1 => match ft e1 with
      | some (true, e2) => match fz fe e2 with
        | some (.val y, e3) => match clean vs e3 with
          | true => (compL vs t ft fe ds (wipeE e3 vs)).map fun p => (y :: p.1, p.2)
          | false => none
        | _ => none
      | some (false, e2) => match clean vs e2 with
        | true => compL vs t ft fe ds (wipeE e2 vs)
        | false => none
      | none => none
    | none => none
def eComp (vs : List Nat) (t : Tg) (fi : Iv) (ft : Tv) (fe : Ev) : Ev := fun env => match fi env with
  | some (ds, e1) => if clean vs e1 = true ∧ ds.length < sizeLine then (compL vs t ft fe ds (wipeE e1 vs)).map fun p => (.new (.lst p.1), restoreE e1 p.2 vs) else none
  | none => none
def tYs : Tv := fun env => some (true, env)
theorem pts_mono {X : Cx} {ifs : List Expr} {t t' : TT} (h : PTs X ifs t) (w : ∀ σ H Q, t' σ H Q → t σ H Q) : PTs X ifs t' := ⟨fun pins s σ H Q I q => h.run pins s σ H Q I (w σ H Q q)⟩
theorem ptx_nil : PTs X [] (tT X.K cl tYs) := pts_mono pts_nil fun σ H Q ⟨S, env, b, env', s, w, q⟩ => by
  cases w
  exact q H S s .same
theorem ptx_one {c : Expr} {f : Tv} (h : TX X cl c f) : PTs X [c] (tT X.K cl f) := pts_one h
/-- a turn's store leaves all but the block's own names -/
theorem wipe_only (h : Only' vs (L2.wipe σ vs) σ2) (hl : σ2.length = σ.length) : L2.wipe σ2 vs = L2.wipe σ vs := by
  have wi : ∀ {τ : L2.St} {ws : List Nat} {i : Nat}, i ∈ ws → i < τ.length → (L2.wipe τ ws)[i]? = some none := fun {τ ws i} => by
    induction ws with
    | nil => intro h; cases h
    | cons w ws ih =>
      intro h hi
      unfold L2.wipe
      by_cases hw : w = i
      · subst hw
        rw [List.getElem?_set_self (by rw [L2.wipe_length]; exact hi)]
      · rw [List.getElem?_set_ne hw]
        exact ih (by rcases List.mem_cons.mp h with z | z; exact absurd z.symm hw; exact z) hi
  refine List.ext_getElem? fun i => ?_
  by_cases hi : i < σ.length
  · by_cases hv : i ∈ vs
    · rw [wi hv (by omega), wi hv hi]
    · rw [L2.wipe_out hv, h i hv]
  · rw [List.getElem?_eq_none (by rw [L2.wipe_length]; omega), List.getElem?_eq_none (by rw [L2.wipe_length]; omega)]
theorem t_comp {t : Tg} {fi : Iv} {ft : Tv} {fe : Ev} {Q : VK} (ht : ∀ j ∈ t.slots, j ∈ vs) (h : tE K cl (eComp vs t fi ft fe) σ H Q) : tLc (tI K cl fi) (tG K cl t) (tT K cl ft) (tE K cl (fz fe)) vs σ H Q := by
  obtain ⟨S, env, bv, env', s, w, q⟩ := h
  unfold eComp at w
  split at w
  · rename_i ds e1 w1
    split at w
    · rename_i hcl
      obtain ⟨hc, hsz⟩ := hcl
      obtain ⟨p, w2, w3⟩ := Option.map_eq_some_iff.mp w
      obtain ⟨ys, e2⟩ := p
      cases w3
      refine ⟨S, env, ds, e1, s, w1, fun J H1 S1 s1 f1 it D hD => ?_⟩
      have hD0 := f1.fresh hD
      have fw : Fr σ env H S (L2.wipe σ vs) (wipeE e1 vs) H1 S1 := f1.trans (Fr.wipe hc)
      have hS1 : S1 D = none := by
        cases z : S1 D with
        | none => rfl
        | some o => rw [s1.sub D o z] at hD; cases hD
      have nD : ¬ Owned (L2.wipe σ vs) (wipeE e1 vs) D := fun z => by
        obtain ⟨o, ho⟩ := (s1.wipe (vs := vs)).there z
        rw [hD] at ho; cases ho
      refine ⟨fun i m Hc => ∃ Sc ec acc av, m = ds.length - i ∧ i ≤ ds.length ∧ SOk K cl (L2.wipe σ vs) Hc Sc ec ∧ Fr σ env H S (L2.wipe σ vs) ec Hc Sc ∧ Sub S1 Sc ∧ clean vs ec = true ∧ ¬ Owned (L2.wipe σ vs) ec D ∧ Sc D = none ∧ Hc D = some (.lst av) ∧ Reps K cl Sc acc av ∧ acc.length ≤ i ∧
          ∃ r, compL vs t ft fe (ds.drop i) ec = some (r, e2) ∧ ys = acc ++ r, ⟨_, S1, wipeE e1 vs, [], [], rfl, Nat.zero_le _, (s1.wipe).poke hS1 nD, fw.poke hD0, Sub.rfl', clean_wipe _ _, nD, hS1, upd_same, rfl, Nat.le_refl _, ys, w2, rfl⟩, ?_⟩
      rintro i m Hc ⟨Sc, ec, acc, av, rfl, hi, sc, fc, gc, cc, nc, hSc, hHc, rc, la, r, wr, er⟩
      obtain ⟨ia, ib⟩ := it i Hc Sc gc sc.sub
      cases hd : ds[i]? with
      | none =>
        rw [drop_none hd] at wr
        cases wr
        refine .inl ⟨ib (endL hd hi), ?_⟩
        obtain ⟨z1, z2⟩ := s1.restore hc sc cc gc
        refine q (.ref D) Hc Sc z1 (fc.trans z2) ⟨D, rfl, ⟨hSc, av, hHc, by rw [er, List.append_nil]; exact rc⟩, fun z => ?_, hD0⟩
        rcases z2.back D z with z | z
        · exact nc z
        · rw [hHc] at z; cases z
      | some d =>
        rw [drop_some hd] at wr
        have hlt : i < ds.length := (List.getElem?_eq_some_iff.mp hd).1
        obtain ⟨go, yl⟩ := ia d hd
        refine .inr ⟨go, fun H' => ∃ Sc ec acc av, SOk K cl (L2.wipe σ vs) H' Sc ec ∧ Fr σ env H S (L2.wipe σ vs) ec H' Sc ∧ Sub S1 Sc ∧ clean vs ec = true ∧ ¬ Owned (L2.wipe σ vs) ec D ∧ Sc D = none ∧ H' D = some (.lst av) ∧ Reps K cl Sc acc av ∧ acc.length ≤ i + 1 ∧
          ∃ r, compL vs t ft fe (ds.drop (i + 1)) ec = some (r, e2) ∧ ys = acc ++ r, ?_, ?_⟩
        · rintro H' ⟨Sn, en, acn, avn, a1, a2, a3, a4, a5, a6, a7, a8, a9, a10⟩
          exact ⟨_, by omega, Sn, en, acn, avn, rfl, hlt, a1, a2, a3, a4, a5, a6, a7, a8, a9, a10⟩
        · intro x H' hy
          obtain ⟨S', gr, rx⟩ := yl x H' hy
          have s2 := sc.gr gr
          have f2 := fc.trans (sc.fr gr)
          have D2 : H' D = some (.lst av) := gr.keep _ _ hHc
          have SD2 : S' D = none := gr.priv _ _ hHc hSc
          have wr' : (match asg t d ec with
            | some e1 => match ft e1 with
              | some (true, e2) => match fz fe e2 with
                | some (.val y, e3) => match clean vs e3 with
                  | true => (compL vs t ft fe (ds.drop (i + 1)) (wipeE e3 vs)).map fun p => (y :: p.1, p.2)
                  | false => none
                | _ => none
              | some (false, e2) => match clean vs e2 with
                | true => compL vs t ft fe (ds.drop (i + 1)) (wipeE e2 vs)
                | false => none
              | none => none
            | none => none) = some (r, e2) := wr
          split at wr'
          · rename_i e3 w3
            refine ⟨S', ec, d, e3, s2, rx, w3, fun σ3 H3 S3 s3 f3 o3 => ?_⟩
            have l3 : σ3.length = σ.length := by
              have z := s2.len.symm
              rw [L2.wipe_length] at z
              have z3 := s3.len
              have z4 : (e3.length = ec.length) := asg_len w3
              omega
            have we : L2.wipe σ3 vs = L2.wipe σ vs := wipe_only (fun j hj => o3 j fun z => hj (ht j z)) l3
            have nD3 : ¬ Owned σ3 e3 D := fun z => by
              rcases f3.back D z with z | z
              · exact nc z
              · rw [D2] at z; cases z
            have D3 : H3 D = some (.lst av) := f3.keep _ _ D2 nc
            have SD3 : S3 D = none := f3.priv _ _ D2 SD2 nc
            refine ⟨we, ?_⟩
            split at wr'
            · rename_i e4 w4
              refine ⟨S3, e3, true, e4, s3, w4, fun H4 S4 s4 f4 => iteT ?_⟩
              have nD4 : ¬ Owned σ3 e4 D := fun z => by
                rcases f4.back D z with z | z
                · exact nD3 z
                · rw [D3] at z; cases z
              split at wr'
              · rename_i y e5 w5
                refine ⟨S4, e4, _, e5, s4, w5, fun yv H5 S5 s5 f5 b5 => ?_⟩
                have f34 := f4.trans f5
                have D5 : H5 D = some (.lst av) := f34.keep _ _ D3 nD3
                have SD5 : S5 D = none := f34.priv _ _ D3 SD3 nD3
                have nD5 : ¬ Owned σ3 e5 D := fun z => by
                  rcases f34.back D z with z | z
                  · exact nD3 z
                  · rw [D3] at z; cases z
                split at wr'
                · rename_i hc5
                  obtain ⟨pr, w6, w7⟩ := Option.map_eq_some_iff.mp wr'
                  obtain ⟨r', e6⟩ := pr
                  cases w7
                  have sub5 : Sub Sc S5 := (gr.mono.comp f3.mono).comp f34.mono
                  have s6 := s5.wipe (vs := vs)
                  have f6 := ((f2.trans f3).trans f34).trans (Fr.wipe hc5)
                  rw [we] at s6 f6
                  have n6 : ¬ Owned (L2.wipe σ vs) (wipeE e5 vs) D := fun z => by
                    rw [← we] at z
                    rcases (Fr.wipe (σ := σ3) (H := H5) (S := S5) hc5).back D z with z | z
                    · exact nD5 z
                    · rw [D5] at z; cases z
                  refine ⟨av, D5, ?_, S5, wipeE e5 vs, acc ++ [y], av ++ [yv], s6.poke SD5 n6, f6.poke hD0, gc.comp sub5, clean_wipe _ _, n6, SD5, upd_same, (rc.mono sub5).append (Reps.one b5), ?_, r', w6, ?_⟩
                  · rw [← rc.len]; omega
                  · rw [List.length_append]; simp only [List.length_cons, List.length_nil]; omega
                  · rw [er, List.append_assoc]; rfl
                · cases wr'
              · cases wr'
            · rename_i e4 w4
              refine ⟨S3, e3, false, e4, s3, w4, fun H4 S4 s4 f4 => iteF ?_⟩
              have D4 : H4 D = some (.lst av) := f4.keep _ _ D3 nD3
              have SD4 : S4 D = none := f4.priv _ _ D3 SD3 nD3
              have nD4 : ¬ Owned σ3 e4 D := fun z => by
                rcases f4.back D z with z | z
                · exact nD3 z
                · rw [D3] at z; cases z
              split at wr'
              · rename_i hc4
                have sub4 : Sub Sc S4 := (gr.mono.comp f3.mono).comp f4.mono
                have s6 := s4.wipe (vs := vs)
                have f6 := ((f2.trans f3).trans f4).trans (Fr.wipe hc4)
                rw [we] at s6 f6
                have n6 : ¬ Owned (L2.wipe σ vs) (wipeE e4 vs) D := fun z => by
                  rw [← we] at z
                  rcases (Fr.wipe (σ := σ3) (H := H4) (S := S4) hc4).back D z with z | z
                  · exact nD4 z
                  · rw [D4] at z; cases z
                exact ⟨S4, wipeE e4 vs, acc, av, s6, f6, gc.comp sub4, clean_wipe _ _, n6, SD4, D4, rc.mono sub4, by omega, r, wr', er⟩
              · cases wr'
            · cases wr'
          · cases wr'
    · cases w
  · cases w
end
end VL

set_option Elab.async false
set_option linter.all false
set_option maxRecDepth 100000
set_option maxHeartbeats 1000000
/-! VLi: comprehensions as values and stored; with two clauses. -/
namespace VL
open PySem PySem.Spec PyProof.Rows L2
section
variable {K : PySem.W.Frag} {cl : Nat → Addr} {X : Cx} {σ σ1 σ2 : L2.St} {H S H1 S1 H2 S2 H' S' : Hp} {env env1 e1 e2 env' : Env'} {pos : Pos} {vs vs1 : List Nat}
theorem wipe_wipe (h : ∀ i ∈ vs1, i ∈ vs) : L2.wipe (L2.wipe σ vs1) vs = L2.wipe σ vs :=
  wipe_only (σ := σ) (σ2 := L2.wipe σ vs1) (fun j hj => by rw [L2.wipe_out hj, L2.wipe_out fun z => hj (h j z)]) (L2.wipe_length _ _)
def compL2 (vs vs1 : List Nat) (t : Tg) (ft : Tv) (fi1 : Iv) (t1 : Tg) (ft1 : Tv) (fe : Ev) : List D → Env' → Option (List D × Env')
  | [], env => some ([], env)
  | d :: ds, env => match asg t d env with
    | some e1 => match ft e1 with
      | some (true, e2) => match fi1 e2 with
        | some (ds1, e3) => match clean vs1 e3 with
          | true => match compL vs1 t1 ft1 fe ds1 (wipeE e3 vs1) with
            | some (ys, e4) => match clean vs e4 with
              | true => (compL2 vs vs1 t ft fi1 t1 ft1 fe ds (wipeE e4 vs)).map fun p => (ys ++ p.1, p.2)
              | false => none
            | none => none
          | false => none
        | none => none
      | some (false, e2) => match clean vs e2 with
        | true => compL2 vs vs1 t ft fi1 t1 ft1 fe ds (wipeE e2 vs)
        | false => none
      | none => none
    | none => none
def eComp2 (vs vs1 : List Nat) (t : Tg) (fi : Iv) (ft : Tv) (fi1 : Iv) (t1 : Tg) (ft1 : Tv) (fe : Ev) : Ev := fun env => match fi env with
  | some (ds, e1) => match clean vs e1 with
    | true => match compL2 vs vs1 t ft fi1 t1 ft1 fe ds (wipeE e1 vs) with
      | some (ys, e2) => if ys.length ≤ sizeLine then some (.new (.lst ys), restoreE e1 e2 vs) else none
      | none => none
    | false => none
  | none => none
/-- what a block knows between two turns: of its new list at a -/
structure Mid (K : PySem.W.Frag) (cl : Nat → Addr) (σ : L2.St) (env : Env') (H S S1 : Hp) (a : Addr) (σc : L2.St) (ec : Env') (Hc Sc : Hp) (acc : List D) (av : List V) : Prop where
  ok : SOk K cl σc Hc Sc ec
  fr : Fr σ env H S σc ec Hc Sc
  sub : Sub S1 Sc
  nown : ¬ Owned σc ec a
  free : Sc a = none
  at_ : Hc a = some (.lst av)
  reps : Reps K cl Sc acc av
theorem Mid.go {a : Addr} {σc : L2.St} {ec : Env'} {Hc Sc : Hp} {acc : List D} {av : List V} (m : Mid K cl σ env H S S1 a σc ec Hc Sc acc av) (s : SOk K cl σ2 H2 S2 e2) (f : Fr σc ec Hc Sc σ2 e2 H2 S2) : Mid K cl σ env H S S1 a σ2 e2 H2 S2 acc av where
  ok := s
  fr := m.fr.trans f
  sub := m.sub.comp f.mono
  nown := fun z => by
    rcases f.back a z with z | z
    · exact m.nown z
    · rw [m.at_] at z; cases z
  free := f.priv _ _ m.at_ m.free m.nown
  at_ := f.keep _ _ m.at_ m.nown
  reps := m.reps.mono f.mono
theorem Mid.add {a : Addr} {σc : L2.St} {ec : Env'} {Hc Sc : Hp} {acc : List D} {av : List V} {y : D} {yv : V} (m : Mid K cl σ env H S S1 a σc ec Hc Sc acc av) (h0 : Owned σ env a ∨ H a = none) (r : Rep K cl Sc y yv) :
    Mid K cl σ env H S S1 a σc ec (upd Hc a (.lst (av ++ [yv]))) Sc (acc ++ [y]) (av ++ [yv]) where
  ok := m.ok.poke m.free m.nown
  fr := m.fr.poke h0
  sub := m.sub
  nown := m.nown
  free := m.free
  at_ := upd_same
  reps := m.reps.append (Reps.one r)
theorem t_comp2 {t t1 : Tg} {fi fi1 : Iv} {ft ft1 : Tv} {fe : Ev} {Q : VK} (hv : ∀ i ∈ vs1, i ∈ vs) (ht : ∀ j ∈ t.slots, j ∈ vs) (ht1 : ∀ j ∈ t1.slots, j ∈ vs1) (h : tE K cl (eComp2 vs vs1 t fi ft fi1 t1 ft1 fe) σ H Q) :
    tLc2 (tI K cl fi) (tG K cl t) (tT K cl ft) (tI K cl fi1) (tG K cl t1) (tT K cl ft1) (tE K cl (fz fe)) vs vs1 σ H Q := by
  obtain ⟨S, env, bv, env', s, w, q⟩ := h
  unfold eComp2 at w
  split at w
  · rename_i ds e1 w1
    split at w
    · rename_i hc
      split at w
      · rename_i ys e2 w2
        split at w
        · rename_i hsz
          cases w
          refine ⟨S, env, ds, e1, s, w1, fun J H1 S1 s1 f1 it D hD => ?_⟩
          have hD0 := f1.fresh hD
          have hS1 : S1 D = none := by
            cases z : S1 D with
            | none => rfl
            | some o => rw [s1.sub D o z] at hD; cases hD
          have nD : ¬ Owned (L2.wipe σ vs) (wipeE e1 vs) D := fun z => by
            obtain ⟨o, ho⟩ := (s1.wipe (vs := vs)).there z
            rw [hD] at ho; cases ho
          have m0 : Mid K cl σ env H S S1 D (L2.wipe σ vs) (wipeE e1 vs) (upd H1 D (.lst [])) S1 [] [] := ⟨(s1.wipe).poke hS1 nD, (f1.trans (Fr.wipe hc)).poke hD0, Sub.rfl', nD, hS1, upd_same, rfl⟩
          refine ⟨fun i m Hc => ∃ Sc ec acc av, m = ds.length - i ∧ i ≤ ds.length ∧ Mid K cl σ env H S S1 D (L2.wipe σ vs) ec Hc Sc acc av ∧ clean vs ec = true ∧ ∃ r, compL2 vs vs1 t ft fi1 t1 ft1 fe (ds.drop i) ec = some (r, e2) ∧ ys = acc ++ r,
            ⟨_, S1, wipeE e1 vs, [], [], rfl, Nat.zero_le _, m0, clean_wipe _ _, ys, w2, rfl⟩, ?_⟩
          rintro i m Hc ⟨Sc, ec, acc, av, rfl, hi, mc, cc, r, wr, er⟩
          obtain ⟨ia, ib⟩ := it i Hc Sc mc.sub mc.ok.sub
          cases hd : ds[i]? with
          | none =>
            rw [drop_none hd] at wr
            cases wr
            refine .inl ⟨ib (endL hd hi), ?_⟩
            obtain ⟨z1, z2⟩ := s1.restore hc mc.ok cc mc.sub
            refine q (.ref D) Hc Sc z1 (mc.fr.trans z2) ⟨D, rfl, ⟨mc.free, av, mc.at_, by rw [er, List.append_nil]; exact mc.reps⟩, fun z => ?_, hD0⟩
            rcases z2.back D z with z | z
            · exact mc.nown z
            · rw [mc.at_] at z; cases z
          | some d =>
            rw [drop_some hd] at wr
            have hlt : i < ds.length := (List.getElem?_eq_some_iff.mp hd).1
            obtain ⟨go, yl⟩ := ia d hd
            refine .inr ⟨go, fun H' => ∃ Sc ec acc av, Mid K cl σ env H S S1 D (L2.wipe σ vs) ec H' Sc acc av ∧ clean vs ec = true ∧ ∃ r, compL2 vs vs1 t ft fi1 t1 ft1 fe (ds.drop (i + 1)) ec = some (r, e2) ∧ ys = acc ++ r, ?_, ?_⟩
            · rintro H' ⟨Sn, en, acn, avn, a1, a2, a3⟩
              exact ⟨_, by omega, Sn, en, acn, avn, rfl, hlt, a1, a2, a3⟩
            · intro x H' hy
              obtain ⟨S', gr, rx⟩ := yl x H' hy
              have mg := mc.go (mc.ok.gr gr) (mc.ok.fr gr)
              have wr' : (match asg t d ec with
                | some e1 => match ft e1 with
                  | some (true, e2) => match fi1 e2 with
                    | some (ds1, e3) => match clean vs1 e3 with
                      | true => match compL vs1 t1 ft1 fe ds1 (wipeE e3 vs1) with
                        | some (ys, e4) => match clean vs e4 with
                          | true => (compL2 vs vs1 t ft fi1 t1 ft1 fe (ds.drop (i + 1)) (wipeE e4 vs)).map fun p => (ys ++ p.1, p.2)
                          | false => none
                        | none => none
                      | false => none
                    | none => none
                  | some (false, e2) => match clean vs e2 with
                    | true => compL2 vs vs1 t ft fi1 t1 ft1 fe (ds.drop (i + 1)) (wipeE e2 vs)
                    | false => none
                  | none => none
                | none => none) = some (r, e2) := wr
              split at wr'
              · rename_i e3 w3
                refine ⟨S', ec, d, e3, mg.ok, rx, w3, fun σ3 H3 S3 s3 f3 o3 => ?_⟩
                have m3 := mg.go s3 f3
                have l3 : σ3.length = σ.length := by
                  have z := mg.ok.len.symm
                  rw [L2.wipe_length] at z
                  have z3 := s3.len
                  have z4 : (e3.length = ec.length) := asg_len w3
                  omega
                have we : L2.wipe σ3 vs = L2.wipe σ vs := wipe_only (fun j hj => o3 j fun z => hj (ht j z)) l3
                refine ⟨we, ?_⟩
                split at wr'
                · rename_i e4 w4
                  refine ⟨S3, e3, true, e4, s3, w4, fun H4 S4 s4 f4 => iteT ?_⟩
                  have m4 := m3.go s4 f4
                  split at wr'
                  · rename_i ds1 e5 w5
                    split at wr'
                    · rename_i hc5
                      split at wr'
                      · rename_i zs e6 w6
                        split at wr'
                        · rename_i hc6
                          obtain ⟨pr, w7, w8⟩ := Option.map_eq_some_iff.mp wr'
                          obtain ⟨r', e7⟩ := pr
                          cases w8
                          refine ⟨S4, e4, ds1, e5, s4, w5, fun J1 H5 S5 s5 f5 it1 => ?_⟩
                          have m5 := (m4.go s5 f5).go (s5.wipe (vs := vs1)) (Fr.wipe hc5)
                          refine ⟨fun j k Hd => ∃ Sd ed acd avd, k = ds1.length - j ∧ j ≤ ds1.length ∧ Mid K cl σ env H S S1 D (L2.wipe σ3 vs1) ed Hd Sd acd avd ∧ Sub S5 Sd ∧ ∃ rr, compL vs1 t1 ft1 fe (ds1.drop j) ed = some (rr, e6) ∧ ys = acd ++ (rr ++ r'),
                            ⟨_, S5, wipeE e5 vs1, acc, av, rfl, Nat.zero_le _, m5, Sub.rfl', zs, w6, er⟩, ?_⟩
                          rintro j k Hd ⟨Sd, ed, acd, avd, rfl, hj, md, gd, rr, wd, ed'⟩
                          obtain ⟨ja, jb⟩ := it1 j Hd Sd gd md.ok.sub
                          cases hd1 : ds1[j]? with
                          | none =>
                            rw [drop_none hd1] at wd
                            cases wd
                            refine .inl ⟨jb (endL hd1 hj), ?_⟩
                            have m7 := md.go (md.ok.wipe (vs := vs)) (Fr.wipe hc6)
                            rw [wipe_wipe hv, we] at m7
                            exact ⟨Sd, wipeE _ vs, acd, avd, m7, clean_wipe _ _, r', w7, ed'⟩
                          | some d1 =>
                            rw [drop_some hd1] at wd
                            have hlt1 : j < ds1.length := (List.getElem?_eq_some_iff.mp hd1).1
                            obtain ⟨go1, yl1⟩ := ja d1 hd1
                            refine .inr ⟨go1, fun H' => ∃ Sd ed acd avd, Mid K cl σ env H S S1 D (L2.wipe σ3 vs1) ed H' Sd acd avd ∧ Sub S5 Sd ∧ ∃ rr, compL vs1 t1 ft1 fe (ds1.drop (j + 1)) ed = some (rr, e6) ∧ ys = acd ++ (rr ++ r'), ?_, ?_⟩
                            · rintro H' ⟨Sn, en, acn, avn, a1, a2, a3⟩
                              exact ⟨_, by omega, Sn, en, acn, avn, rfl, hlt1, a1, a2, a3⟩
                            · intro x1 H1' hy1
                              obtain ⟨S1', gr1, rx1⟩ := yl1 x1 H1' hy1
                              have mg1 := md.go (md.ok.gr gr1) (md.ok.fr gr1)
                              have wd' : (match asg t1 d1 ed with
                                | some e1 => match ft1 e1 with
                                  | some (true, e2) => match fz fe e2 with
                                    | some (.val y, e3) => match clean vs1 e3 with
                                      | true => (compL vs1 t1 ft1 fe (ds1.drop (j + 1)) (wipeE e3 vs1)).map fun p => (y :: p.1, p.2)
                                      | false => none
                                    | _ => none
                                  | some (false, e2) => match clean vs1 e2 with
                                    | true => compL vs1 t1 ft1 fe (ds1.drop (j + 1)) (wipeE e2 vs1)
                                    | false => none
                                  | none => none
                                | none => none) = some (rr, e6) := wd
                              split at wd'
                              · rename_i g3 u3
                                refine ⟨S1', ed, d1, g3, mg1.ok, rx1, u3, fun σ8 H8 S8 s8 f8 o8 => ?_⟩
                                have m8 := mg1.go s8 f8
                                have l8 : σ8.length = σ3.length := by
                                  have z := mg1.ok.len.symm
                                  rw [L2.wipe_length] at z
                                  have z3 := s8.len
                                  have z4 : (g3.length = ed.length) := asg_len u3
                                  omega
                                have we8 : L2.wipe σ8 vs1 = L2.wipe σ3 vs1 := wipe_only (fun j hj => o8 j fun z => hj (ht1 j z)) l8
                                refine ⟨we8, ?_⟩
                                split at wd'
                                · rename_i g4 u4
                                  refine ⟨S8, g3, true, g4, s8, u4, fun H9 S9 s9 f9 => iteT ?_⟩
                                  have m9 := m8.go s9 f9
                                  split at wd'
                                  · rename_i y g5 u5
                                    refine ⟨S9, g4, _, g5, s9, u5, fun yv Ha Sa sa fa' ba => ?_⟩
                                    have ma := m9.go sa fa'
                                    split at wd'
                                    · rename_i hca
                                      obtain ⟨pr2, u6, u7⟩ := Option.map_eq_some_iff.mp wd'
                                      obtain ⟨rr', g6⟩ := pr2
                                      cases u7
                                      have mb := ma.go (sa.wipe (vs := vs1)) (Fr.wipe hca)
                                      rw [we8] at mb
                                      refine ⟨avd, ma.at_, ?_, Sa, wipeE g5 vs1, acd ++ [y], avd ++ [yv], mb.add hD0 ba, ((gd.comp gr1.mono).comp f8.mono).comp ((f9.mono).comp fa'.mono), rr', u6, ?_⟩
                                      · rw [← md.reps.len]
                                        have : ys.length = acd.length + ((y :: rr').length + r'.length) := by rw [ed', List.length_append, List.length_append]
                                        simp only [List.length_cons] at this
                                        omega
                                      · rw [ed', List.append_assoc]; rfl
                                    · cases wd'
                                  · cases wd'
                                · rename_i g4 u4
                                  refine ⟨S8, g3, false, g4, s8, u4, fun H9 S9 s9 f9 => iteF ?_⟩
                                  have m9 := m8.go s9 f9
                                  split at wd'
                                  · rename_i hca
                                    have mb := m9.go (s9.wipe (vs := vs1)) (Fr.wipe hca)
                                    rw [we8] at mb
                                    exact ⟨S9, wipeE g4 vs1, acd, avd, mb, ((gd.comp gr1.mono).comp f8.mono).comp f9.mono, rr, wd', ed'⟩
                                  · cases wd'
                                · cases wd'
                              · cases wd'
                        · cases wr'
                      · cases wr'
                    · cases wr'
                  · cases wr'
                · rename_i e4 w4
                  refine ⟨S3, e3, false, e4, s3, w4, fun H4 S4 s4 f4 => iteF ?_⟩
                  have m4 := m3.go s4 f4
                  split at wr'
                  · rename_i hc4
                    have m6 := m4.go (s4.wipe (vs := vs)) (Fr.wipe hc4)
                    rw [we] at m6
                    exact ⟨S4, wipeE e4 vs, acc, av, m6, clean_wipe _ _, r, wr', er⟩
                  · cases wr'
                · cases wr'
              · cases wr'
        · cases w
      · cases w
    · cases w
  · cases w
theorem eComp_new {t : Tg} {fi : Iv} {ft : Tv} {fe : Ev} {bv : Bv} (w : fzs (eComp vs t fi ft fe) env = some (bv, env')) : eComp vs t fi ft fe env = some (bv, env') := by
  unfold fzs at w
  split at w
  · rename_i m e q
    cases w; exact q
  · rename_i n
    exfalso
    cases q : eComp vs t fi ft fe env with
    | none =>
      unfold fz fzn at w
      rw [q] at w
      cases w
    | some p =>
      obtain ⟨b, e⟩ := p
      have q' := q
      unfold eComp at q'
      split at q'
      · split at q'
        · obtain ⟨p, _, z⟩ := Option.map_eq_some_iff.mp q'
          cases z
          exact n _ _ q
        · cases q'
      · cases q'
theorem eComp2_new {t t1 : Tg} {fi fi1 : Iv} {ft ft1 : Tv} {fe : Ev} {bv : Bv} (w : fzs (eComp2 vs vs1 t fi ft fi1 t1 ft1 fe) env = some (bv, env')) : eComp2 vs vs1 t fi ft fi1 t1 ft1 fe env = some (bv, env') := by
  unfold fzs at w
  split at w
  · rename_i m e q
    cases w; exact q
  · rename_i n
    exfalso
    cases q : eComp2 vs vs1 t fi ft fi1 t1 ft1 fe env with
    | none =>
      unfold fz fzn at w
      rw [q] at w
      cases w
    | some p =>
      obtain ⟨b, e⟩ := p
      have q' := q
      unfold eComp2 at q'
      split at q'
      · split at q'
        · split at q'
          · split at q'
            · cases q'
              exact n _ _ q
            · cases q'
          · cases q'
        · cases q'
      · cases q'
theorem t_setOf {i : Nat} {f : Ev} {te : TE} {D : Ends} (hn : ∀ {env env' : Env'} {bv : Bv}, fzs f env = some (bv, env') → f env = some (bv, env')) (ht : ∀ {Q : VK}, tE K cl f σ H Q → te σ H Q) (h : tSm K cl (sSet i f) D σ H) : tAsg te (gName i) D σ H := by
  obtain ⟨S, env, o, env', s, w, p⟩ := h
  unfold sSet at w
  split at w
  · rename_i b e1 w1
    obtain ⟨e2, w2, w3⟩ := Option.map_eq_some_iff.mp w
    cases w3
    refine ht ⟨S, env, b, e1, s, hn w1, fun v H' S' s' f' b' => ?_⟩
    obtain ⟨z1, z2⟩ := put_ok s' f' w2 (b'.r fun j z => by subst z; exact fzs_noslot w1)
    exact p _ H' S' z1 z2
  · cases w
section
variable {elt tg iter tg1 iter1 : Expr} {ifs ifs1 : List Expr} {scope : Scope} {own : List (Str × Nat)} {t t1 : Tg} {fi fi1 : Iv} {ft ft1 : Tv} {fe : Ev}
abbrev Blk (X : Cx) (scope : Scope) (P : Cx → Prop) : Prop := ∀ (s : Shared) (H : Hp) (C : Addr) (cl : List (Str × Addr)) (fp : List Addr), P (X.blk s H scope (compEnvC scope cl C X.env) fp)
theorem ex_comp (hc : X.calm = true) (hN : X.N.Nodup) (hi : IX X cl tg iter fi) (ok : BlkOk X.N X.env.scope scope own) (hg : Blk X scope fun Y => GX Y cl tg t) (ht : Blk X scope fun Y => PTs Y ifs (tT Y.K cl ft)) (he : Blk X scope fun Y => EX Y cl elt fe)
    (hsl : ∀ j ∈ t.slots, j ∈ own.map (·.2)) (hs : ∀ x, foldedSetIterable iter X.env x = pure x := by intro _; rfl) : EX X cl (.ListComp elt [⟨tg, iter, ifs, 0⟩] scope pos) (eComp (own.map (·.2)) t fi ft fe) :=
  pe_mono (pe_lc hc hN hi ok hg ht (fun s H C c2 fp => ex_fz (he s H C c2 fp)) hs) fun _ _ _ h => t_comp hsl h
theorem sx_comp {i : Nat} {y : Str} {py spos : Pos} (hc : X.calm = true) (hN : X.N.Nodup) (hy : X.N[i]? = some y) (hyl : X.env.scope.names.lookup y = some .local)
    (hsw : swapsWith (.ListComp elt [⟨tg, iter, ifs, 0⟩] scope pos) (some (.Name y py)) spos.line X.env = pure true) (hi : IX X cl tg iter fi) (ok : BlkOk X.N X.env.scope scope own) (hg : Blk X scope fun Y => GX Y cl tg t) (ht : Blk X scope fun Y => PTs Y ifs (tT Y.K cl ft)) (he : Blk X scope fun Y => EX Y cl elt fe)
    (hsl : ∀ j ∈ t.slots, j ∈ own.map (·.2)) (hs : ∀ x, foldedSetIterable iter X.env x = pure x := by intro _; rfl) : SX X cl (.Assign [.Name y py] (.ListComp elt [⟨tg, iter, ifs, 0⟩] scope pos) spos) (sSet i (eComp (own.map (·.2)) t fi ft fe)) :=
  ps_mono (ps_setLc hc hN hy hyl hsw hi ok hg ht (fun s H C c2 fp => ex_fz (he s H C c2 fp)) hs) fun _ _ _ h => t_setOf eComp_new (t_comp hsl) h
theorem ex_comp2 (hc : X.calm = true) (hN : X.N.Nodup) (hi : IX X cl tg iter fi) (ok : BlkOk X.N X.env.scope scope own) (hv : ∀ i ∈ vs1, i ∈ own.map (·.2)) (hg : Blk X scope fun Y => GX Y cl tg t) (ht : Blk X scope fun Y => PTs Y ifs (tT Y.K cl ft))
    (hi1 : Blk X scope fun Y => IX Y cl tg1 iter1 fi1) (hg1 : Blk X scope fun Y => GX Y cl tg1 t1) (ht1 : Blk X scope fun Y => PTs Y ifs1 (tT Y.K cl ft1)) (he : Blk X scope fun Y => EX Y cl elt fe)
    (hsl : ∀ j ∈ t.slots, j ∈ own.map (·.2)) (hsl1 : ∀ j ∈ t1.slots, j ∈ vs1) (hs : ∀ x, foldedSetIterable iter X.env x = pure x := by intro _; rfl) (hs1 : ∀ env x, foldedSetIterable iter1 env x = pure x := by intro _ _; rfl) :
    EX X cl (.ListComp elt [⟨tg, iter, ifs, 0⟩, ⟨tg1, iter1, ifs1, 0⟩] scope pos) (eComp2 (own.map (·.2)) vs1 t fi ft fi1 t1 ft1 fe) :=
  pe_mono (pe_lc2 hc hN hi ok hv hg ht hi1 hg1 ht1 (fun s H C c2 fp => ex_fz (he s H C c2 fp)) hs hs1) fun _ _ _ h => t_comp2 hv hsl hsl1 h
theorem sx_comp2 {i : Nat} {y : Str} {py spos : Pos} (hc : X.calm = true) (hN : X.N.Nodup) (hy : X.N[i]? = some y) (hyl : X.env.scope.names.lookup y = some .local)
    (hsw : swapsWith (.ListComp elt [⟨tg, iter, ifs, 0⟩, ⟨tg1, iter1, ifs1, 0⟩] scope pos) (some (.Name y py)) spos.line X.env = pure true) (hi : IX X cl tg iter fi) (ok : BlkOk X.N X.env.scope scope own) (hv : ∀ i ∈ vs1, i ∈ own.map (·.2)) (hg : Blk X scope fun Y => GX Y cl tg t) (ht : Blk X scope fun Y => PTs Y ifs (tT Y.K cl ft))
    (hi1 : Blk X scope fun Y => IX Y cl tg1 iter1 fi1) (hg1 : Blk X scope fun Y => GX Y cl tg1 t1) (ht1 : Blk X scope fun Y => PTs Y ifs1 (tT Y.K cl ft1)) (he : Blk X scope fun Y => EX Y cl elt fe)
    (hsl : ∀ j ∈ t.slots, j ∈ own.map (·.2)) (hsl1 : ∀ j ∈ t1.slots, j ∈ vs1) (hs : ∀ x, foldedSetIterable iter X.env x = pure x := by intro _; rfl) (hs1 : ∀ env x, foldedSetIterable iter1 env x = pure x := by intro _ _; rfl) :
    SX X cl (.Assign [.Name y py] (.ListComp elt [⟨tg, iter, ifs, 0⟩, ⟨tg1, iter1, ifs1, 0⟩] scope pos) spos) (sSet i (eComp2 (own.map (·.2)) vs1 t fi ft fi1 t1 ft1 fe)) :=
  ps_mono (ps_setLc2 hc hN hy hyl hsw hi ok hv hg ht hi1 hg1 ht1 (fun s H C c2 fp => ex_fz (he s H C c2 fp)) hs hs1) fun _ _ _ h => t_setOf eComp2_new (t_comp2 hv hsl hsl1) h
end
end
end VL

set_option Elab.async false
set_option linter.all false
set_option maxRecDepth 100000
set_option maxHeartbeats 1000000
/-! VLj: defs as functions on plain data; calls, methods, fields, new instances. -/
namespace VL
open PySem PySem.Spec PyProof.Rows L2
/-- a def that takes values and gives one (or a new object) -/
def spV (K : PySem.W.Frag) (cl : Nat → Addr) (n : Nat) (M : List D → Option Bv) : Sp := fun vs H Q _ => vs.length = n ∧ ∃ S ds bv, Sub S H ∧ Reps K cl S ds vs ∧ M ds = some bv ∧
  ∀ v H' S', Gr H S H' S' → BvN K cl H H' S' bv v → Q v H'
/-- all but the object at a stays -/
structure GrX (a : Addr) (H S H' S' : Hp) : Prop where
  keep : ∀ b o, H b = some o → b ≠ a → H' b = some o
  mono : Sub S S'
  sub : Sub S' H'
  priv : ∀ b o, H b = some o → S b = none → b ≠ a → S' b = none
/-- a def that changes the object that is its first argument -/
def spI (K : PySem.W.Frag) (cl : Nat → Addr) (n : Nat) (M : MO → List D → Option (Bv × MO)) : Sp := fun vs H Q _ => vs.length = n ∧ ∃ a us S m ds bv m', vs = .ref a :: us ∧ Sub S H ∧ OwnAt K cl H S a m ∧ Reps K cl S ds us ∧ M m ds = some (bv, m') ∧
  ∀ v H' S', GrX a H S H' S' → OwnAt K cl H' S' a m' → BvN K cl H H' S' bv v → Q v H'
/-- the same promise, asked for only where no repr runs around -/
structure GFn (P : Program) (w : World) (K : PySem.W.Frag) (mg : Str → Option Value) (base : Heap) (k : Nat) (f : Addr) (fd : FuncData) (ps : List Str) (sp : Sp) : Prop where
  len : ∀ vs H Q E, sp vs H Q E → vs.length = ps.length
  run : ∀ (A : Around) (outer : List Env) (s : Shared) (H : Hp) (args : Args) (us : List Value) (vs : List V) (Q : VK) (E : XK), A.guards = some [] → Room k A → Env0 P w K mg base A outer s H → BindsTo s fd args (ps.zip us) → Vals vs us → sp vs H Q E →
    codeAny (model P w) A (.call (.ref f) args) (CR CX0 outer P w H s Q E) s
theorem GFn.of {P : Program} {w : World} {K : PySem.W.Frag} {mg : Str → Option Value} {base : Heap} {k : Nat} {f : Addr} {fd : FuncData} {ps : List Str} {sp : Sp} (F : FnOk P w K mg base CX0 k f fd ps sp) : GFn P w K mg base k f fd ps sp :=
  ⟨F.len, fun A outer s H args us vs Q E _ => F.run A outer s H args us vs Q E⟩
theorem GFn.mono {P : Program} {w : World} {K : PySem.W.Frag} {mg : Str → Option Value} {base : Heap} {j k : Nat} {f : Addr} {fd : FuncData} {ps : List Str} {sp : Sp} (F : GFn P w K mg base j f fd ps sp) (h : j ≤ k) : GFn P w K mg base k f fd ps sp :=
  ⟨F.len, fun A outer s H args us vs Q E g r => F.run A outer s H args us vs Q E g (r.mono h)⟩
/-- the rule for a def, where no repr runs around -/
theorem gfn_of {P : Program} {w : World} {K : PySem.W.Frag} {mg : Str → Option Value} {base : Heap} {x qual : Str} {params : Arguments} {body : List Stmt} {scope : Scope} {f : Addr} {fd : FuncData} {N ps : List Str} {k : Nat} {sp : Sp}
    (F : FunD K x qual params body scope [] [] f fd) (Sc : FnScope N ps scope) (len : ∀ vs H Q E, sp vs H Q E → vs.length = ps.length)
    (hb : ∀ (cdv : Value) (A : Around) (outer : List Env) (s : Shared) (H : Hp) (vs : List V) (Q : VK) (E : XK), A.guards = some [] → Room k (A.deeper (envOfC qual scope s.heap.objs.size f cdv)) → sp vs H Q E →
      ∃ t, PSs (cxOf CX0 P w K mg base N qual scope f cdv A outer s H E) body t ∧ t { nx := fun _ H' => Q .non H', rt := Q } (start N vs) H) : GFn P w K mg base (k + 1) f fd ps sp := by
  obtain ⟨oc, od, dV, kV, doc, pm, an, cdv, ct, osl, rfl, lk, hcd, _, _⟩ := F.ex
  constructor
  · exact len
  · intro A outer s H args us vs Q E hG hr e0 hbd rv hsp
    have hln := len _ _ _ _ hsp
    have inK : K.In s.heap := e0.mod.kin.keeps fun b o q => (e0.bs b o q).1
    have noL : s.heap.NoLimit := e0.mod.nolimit.keeps fun b o q => (e0.bs b o q).1
    have kinds : ∀ y ∈ ps.zip us, scope.names.lookup y.1 = some .local ∨ (scope.names.lookup y.1 = some .cell ∧ ((cellsFrom (s.heap.objs.size + 1) scope.names []).lookup y.1).isSome = true) := by
      rintro ⟨n, v⟩ hy
      rcases Sc.par n (List.of_mem_zip hy).1 with q | q
      · exact Or.inl q
      · exact Or.inr ⟨q, PySem.W.cellsFrom_some _ _ _ (Or.inl q)⟩
    apply codeAny_call_function hr.depth (inK _ _ lk) rfl Sc.co Sc.gen rfl (PySem.W.codeRec_of inK hcd)
    apply hbd
    apply wpAny_newFunctionEnv_cells Sc.kind kinds
    rintro env rfl s1 xin
    refine ⟨noL.keeps xin.toInCall.keep, codeAny_func ?_⟩
    obtain ⟨t, ht, hq⟩ := hb cdv A outer s H vs Q E hG (hr.deeper _) hsp
    have J0 : Inv (cxOf CX0 P w K mg base N qual scope f cdv A outer s H E) [] (start N vs) H s1 := inv_start Sc hr.hd e0 hln rv xin
    refine wpAny_mono (ht.run [] s1 (start N vs) H _ J0 hq) ?_ (fun _ _ z => z)
    intro fl s' hs
    match fl, hs with
    | .ret u, ⟨v, σ', H', J, rv', q⟩ => exact ⟨v, H', J.os, J.bare, J.base, J.hok, rv', q⟩
    | .next, ⟨σ', H', J, q⟩ => exact ⟨V.non, H', J.os, J.bare, J.base, J.hok, rfl, q⟩
    | .brk, ⟨_, _, _, q⟩ => exact q.elim
    | .cont, ⟨_, _, _, q⟩ => exact q.elim
/-- a call of f in a context -/
def RunOk (X : Cx) (f : Addr) (sp : Sp) : Prop := ∀ (pins : List (Addr × Obj)) (σ : L2.St) (H : Hp) (s : Shared) (Q : VK) (us : List Value) (vs : List V), Inv X pins σ H s → Vals vs us → sp vs H Q E0 →
  wpAny (model X.prog X.w) X.A (call (.ref f) us) (EP X pins σ Q) X.xe s
section
variable {X : Cx} {k : Nat} {f : Addr} {fd : FuncData} {ps : List Str} {sp : Sp} {x m : Str} {p pos apos : Pos} {e o : Expr} {es : List Expr} {cl : Nat → Addr}
theorem RunOk.of (F : FnOk X.prog X.w X.K X.mg X.base CX0 k f fd ps sp) (hr : Room k X.A) (hb : Binds X.K fd ps []) : RunOk X f sp := fun pins σ H s Q us vs I r h =>
  run_fn F hr hb .nil pass0 I r (by rw [List.append_nil]; exact h)
theorem RunOk.ofG (F : GFn X.prog X.w X.K X.mg X.base k f fd ps sp) (hG : X.A.guards = some []) (hr : Room k X.A) (hb : Binds X.K fd ps []) : RunOk X f sp := fun pins σ H s Q us vs I r h => by
  have hl : (us ++ ([] : List Value)).length = ps.length := by rw [List.append_nil, ← r.length]; exact F.len _ _ _ _ h
  have bd := hb s us I.kIn hl
  rw [List.append_nil] at bd
  apply wpAny_call
  refine codeAny_mono (F.run X.A X.stack s H ⟨us, []⟩ us vs Q E0 hG hr I.env0 bd r h) ?_
  intro rr s' hq
  match rr, hq with
  | .error e, hq => exact False.elim hq
  | .ok (.ret u), hq => exact I.after hq
  | .ok .next, hq => exact False.elim hq
  | .ok .brk, hq => exact False.elim hq
  | .ok .cont, hq => exact False.elim hq
/-- f(e, ..) by name -/
def tRun (sp : Sp) (t : TA) : TE := fun σ H Q => t σ H fun vs H1 => sp vs H1 Q E0
theorem pe_run {t : TA} (F : RunOk X f sp) (hg : Gl X x) (hm : X.mg x = some (.ref f)) (hk : PySem.W.keepIn X.K (.ref f) = true) (ha : PA X (e :: es) t) (hdb : (x == ("__debug__" : Str)) = false := by decide)
    (h1 : starEach (e :: es) X.env = (false, eval e X.env) :: starEach es X.env := by rfl) (h2 : (backTo pos (starEach es X.env)).any (·.1) = false := by rfl) : PE X (.Call (.Name x p) (e :: es) [] pos) (tRun sp t) := by
  constructor
  intro pins s σ H Q I h
  apply wpAny_Call_Name_kw
  apply ld_glob I hg hm _ hdb
  apply PySem.W.callWith_K (h₀ := X.base) I.ok.mod.kin hk _ h1 h2
  refine thn (ha.run pos pins s σ H _ I h) ?_
  rintro us s1 ⟨vs, H1, I1, r, q⟩
  exact ⟨I1.kIn, F pins σ H1 s1 Q us vs I1 r q⟩
theorem pe_run0 (F : RunOk X f sp) (hg : Gl X x) (hm : X.mg x = some (.ref f)) (hk : PySem.W.keepIn X.K (.ref f) = true) (hdb : (x == ("__debug__" : Str)) = false := by decide) : PE X (.Call (.Name x p) [] [] pos) (tRun sp tNil) := by
  constructor
  intro pins s σ H Q I h
  apply wpAny_Call_Name_kw
  apply ld_glob I hg hm _ hdb
  exact PySem.W.callWith_K0 I.kIn hk (F pins σ H s Q [] [] I .nil h)
/-- the data of values -/
def vals : List Bv → Option (List D)
  | [] => some []
  | .val d :: bs => (vals bs).map (d :: ·)
  | _ :: _ => none
theorem vals_ok {K : PySem.W.Frag} {σ : L2.St} {S : Hp} : ∀ {bs : List Bv} {vs : List V} {ds : List D}, vals bs = some ds → Paired (BvAt K cl σ S) bs vs → Reps K cl S ds vs
  | [], _, _, h, .nil => by cases h; rfl
  | .val d :: bs, _, _, h, .cons h1 h2 => by
    obtain ⟨ds, e1, e2⟩ := Option.map_eq_some_iff.mp (show (vals bs).map (d :: ·) = some _ from h)
    subst e2
    exact ⟨_, _, rfl, h1, vals_ok e1 h2⟩
  | .slot _ :: _, _, _, h, _ => by cases h
  | .new _ :: _, _, _, h, _ => by cases h
def eCall (M : List D → Option Bv) (f : Evs) : Ev := fun env => match f env with
  | some (bs, e1) => match vals bs with
    | some ds => (M ds).map fun r => (r, e1)
    | none => none
  | none => none
theorem t_call {K : PySem.W.Frag} {M : List D → Option Bv} {g : Evs} {n : Nat} {σ : L2.St} {H : Hp} {Q : VK} (hn : ∀ ds bv, M ds = some bv → ds.length = n) (h : tE K cl (eCall M g) σ H Q) : tRun (spV K cl n M) (tAs K cl g) σ H Q := by
  obtain ⟨S, env, bv, env', s, w, q⟩ := h
  unfold eCall at w
  split at w
  · rename_i bs e1 w1
    split at w
    · rename_i ds w2
      obtain ⟨r, w3, w4⟩ := Option.map_eq_some_iff.mp w
      cases w4
      refine ⟨S, env, bs, _, s, w1, fun vs H1 S1 s1 f1 b1 => ?_⟩
      have rs := vals_ok w2 b1
      exact ⟨by rw [← rs.len]; exact hn ds _ w3, S1, ds, _, s1.sub, rs, w3, fun v H' S' gr bn => q v H' S' (s1.gr gr) (f1.trans (s1.fr gr)) (bn.ok s1 f1)⟩
    · cases w
  · cases w
theorem ex_call {M : List D → Option Bv} {g : Evs} {n : Nat} (F : RunOk X f (spV X.K cl n M)) (hn : ∀ ds bv, M ds = some bv → ds.length = n) (hg : Gl X x) (hm : X.mg x = some (.ref f)) (hk : PySem.W.keepIn X.K (.ref f) = true) (ha : AX X cl (e :: es) g)
    (hdb : (x == ("__debug__" : Str)) = false := by decide) (h1 : starEach (e :: es) X.env = (false, eval e X.env) :: starEach es X.env := by rfl) (h2 : (backTo pos (starEach es X.env)).any (·.1) = false := by rfl) : EX X cl (.Call (.Name x p) (e :: es) [] pos) (eCall M g) :=
  pe_mono (pe_run F hg hm hk ha hdb h1 h2) fun _ _ _ h => t_call hn h
theorem ex_call0 {M : List D → Option Bv} {n : Nat} (F : RunOk X f (spV X.K cl n M)) (hn : ∀ ds bv, M ds = some bv → ds.length = n) (hg : Gl X x) (hm : X.mg x = some (.ref f)) (hk : PySem.W.keepIn X.K (.ref f) = true) (hdb : (x == ("__debug__" : Str)) = false := by decide) :
    EX X cl (.Call (.Name x p) [] [] pos) (eCall M aNil) := pe_mono (pe_run0 F hg hm hk hdb) fun σ H Q h => by
  obtain ⟨S, env, bs, env', s, w, q⟩ := t_call hn h
  cases w
  exact q [] H S s .same .nil
/-- f(a, ..), which changes the object of a's slot -/
def eCallI (M : MO → List D → Option (Bv × MO)) (f : Evs) : Ev := fun env => match f env with
  | some (.slot i :: bs, e1) => match e1[i]?, vals bs with
    | some l, some ds => match l.mo with
      | some m => (M m ds).map fun r => (r.1, e1.set i (l.with r.2))
      | none => none
    | _, _ => none
  | _ => none
theorem SOk.changed {K : PySem.W.Frag} {σ : L2.St} {H S H' S' : Hp} {env : Env'} {i : Nat} {l : Sl} {mo m' : MO} {a : Addr} (s : SOk K cl σ H S env) (e : env[i]? = some l) (em : l.mo = some mo) (ea : σ[i]? = some (some (.ref a))) (g : GrX a H S H' S') (o : OwnAt K cl H' S' a m') :
    SOk K cl σ H' S' (env.set i (l.with m')) ∧ Fr σ env H S σ (env.set i (l.with m')) H' S' ∧ ∀ b, Owned σ (env.set i (l.with m')) b → Owned σ env b := by
  have hi : i < env.length := (List.getElem?_eq_some_iff.mp e).1
  have lw : (l.with m').mo = some m' := by
    cases l with
    | no => cases em
    | val d => cases em
    | own m => rfl
    | par m => rfl
  have ow : ∀ {j : Nat} {l' : Sl} {m1 : MO}, (env.set i (l.with m'))[j]? = some l' → l'.mo = some m1 → ∃ l2 m2, env[j]? = some l2 ∧ l2.mo = some m2 := fun {j l' m1} h h2 => by
    rcases set_of h with ⟨a1, _⟩ | ⟨_, a2⟩
    · subst a1; exact ⟨l, mo, e, em⟩
    · exact ⟨l', m1, a2, h2⟩
  refine ⟨⟨g.sub, by rw [List.length_set]; exact s.len, fun j d h => ?_, fun j l' m1 h h2 => ?_, fun j j' l1 l2 m1 m2 b h1 h2 h3 h4 h5 h6 => ?_⟩, ⟨fun b u h n => g.keep b u h fun z => n (by subst z; exact ⟨i, l, mo, e, em, ea⟩), g.mono, fun b u h h2 n => g.priv b u h h2 fun z => n (by subst z; exact ⟨i, l, mo, e, em, ea⟩), fun b ⟨j, l', m1, h1, h2, h3⟩ => ?_, fun j m1 h => ?_⟩, fun b ⟨j, l', m1, h1, h2, h3⟩ => ?_⟩
  · rcases set_of h with ⟨a1, a2⟩ | ⟨_, a2⟩
    · rw [← a2] at lw; cases lw
    · obtain ⟨v, q, r⟩ := s.val j d a2
      exact ⟨v, q, r.mono g.mono⟩
  · rcases set_of h with ⟨a1, a2⟩ | ⟨a1, a2⟩
    · subst a1
      rw [a2, lw] at h2
      cases h2
      exact ⟨a, ea, o⟩
    · obtain ⟨b, q, r⟩ := s.own j l' m1 a2 h2
      have nb : b ≠ a := fun z => a1 (by subst z; exact s.dis j i l' l m1 mo b a2 h2 e em q ea)
      obtain ⟨u, hu⟩ := r.there
      exact ⟨b, q, r.move g.mono (g.priv b u hu r.free nb) fun w hw => g.keep b w hw nb⟩
  · obtain ⟨l3, m3, a1, a2⟩ := ow h1 h2
    obtain ⟨l4, m4, b1, b2⟩ := ow h3 h4
    exact s.dis j j' l3 l4 m3 m4 b a1 a2 b1 b2 h5 h6
  · obtain ⟨l3, m3, a1, a2⟩ := ow h1 h2
    exact .inl ⟨j, l3, m3, a1, a2, h3⟩
  · refine ⟨rfl, ?_⟩
    by_cases hj : j = i
    · subst hj
      rw [e] at h
      rw [Option.some.inj h] at *
      exact ⟨m', by rw [List.getElem?_set_self hi]; rfl⟩
    · exact ⟨m1, by rw [List.getElem?_set_ne (Ne.symm hj)]; exact h⟩
  · obtain ⟨l3, m3, a1, a2⟩ := ow h1 h2
    exact ⟨j, l3, m3, a1, a2, h3⟩
theorem t_callI {K : PySem.W.Frag} {M : MO → List D → Option (Bv × MO)} {g : Evs} {n : Nat} {σ : L2.St} {H : Hp} {Q : VK} (hn : ∀ m ds r, M m ds = some r → ds.length + 1 = n) (h : tE K cl (eCallI M g) σ H Q) : tRun (spI K cl n M) (tAs K cl g) σ H Q := by
  obtain ⟨S, env, bv, env', s, w, q⟩ := h
  unfold eCallI at w
  split at w
  · rename_i i bs e1 w1
    split at w
    · rename_i l ds w2 w3
      split at w
      · rename_i mo w4
        obtain ⟨r, w5, w6⟩ := Option.map_eq_some_iff.mp w
        obtain ⟨r1, r2⟩ := r
        cases w6
        refine ⟨S, env, _, e1, s, w1, fun vs H1 S1 s1 f1 b1 => ?_⟩
        cases b1 with
        | cons c1 c2 =>
          have ev : σ[i]? = some (some _) := c1
          obtain ⟨a, ea, oa⟩ := s1.own i l mo w2 w4
          rw [ea] at ev
          cases ev
          have rs := vals_ok w3 c2
          refine ⟨by rw [List.length_cons, ← rs.len]; exact hn mo ds _ w5, a, _, S1, mo, ds, _, r2, rfl, s1.sub, oa, rs, w5, fun v H' S' gr o' bn => ?_⟩
          obtain ⟨z1, z2, z3⟩ := s1.changed w2 w4 ea gr o'
          refine q v H' S' z1 (f1.trans z2) ?_
          cases r1 with
          | val d => exact bn
          | slot j => exact bn.elim
          | new m2 =>
            obtain ⟨b, e2, o2, n2⟩ := bn
            refine ⟨b, e2, o2, fun z => ?_, f1.fresh n2⟩
            obtain ⟨u, hu⟩ := s1.there (z3 b z)
            rw [n2] at hu; cases hu
      · cases w
    · cases w
  · cases w
theorem ex_callI {M : MO → List D → Option (Bv × MO)} {g : Evs} {n : Nat} (F : RunOk X f (spI X.K cl n M)) (hn : ∀ m ds r, M m ds = some r → ds.length + 1 = n) (hg : Gl X x) (hm : X.mg x = some (.ref f)) (hk : PySem.W.keepIn X.K (.ref f) = true) (ha : AX X cl (e :: es) g)
    (hdb : (x == ("__debug__" : Str)) = false := by decide) (h1 : starEach (e :: es) X.env = (false, eval e X.env) :: starEach es X.env := by rfl) (h2 : (backTo pos (starEach es X.env)).any (·.1) = false := by rfl) : EX X cl (.Call (.Name x p) (e :: es) [] pos) (eCallI M g) :=
  pe_mono (pe_run F hg hm hk ha hdb h1 h2) fun _ _ _ h => t_callI hn h
end
/-! ### the defs -/
/-- what a body makes of its arguments -/
def outB : Option (Out × Env') → Option Bv
  | some (.rt (.val d), _) => some (.val d)
  | some (.rt (.new m), _) => some (.new m)
  | some (.nx, _) => some (.val .non)
  | _ => none
def runV (N n : Nat) (body : Sm) (ds : List D) : Option Bv := if ds.length = n then outB (body (ds.map .val ++ List.replicate (N - n) .no)) else none
def runI (N n : Nat) (body : Sm) (m : MO) (ds : List D) : Option (Bv × MO) := if ds.length + 1 = n then
    match body (Sl.par m :: (ds.map Sl.val ++ List.replicate (N - n) .no)) with
    | some (o, env) => match outB (some (o, env)), (env[0]? : Option Sl) with
      | some b, some (Sl.par m') => some (b, m')
      | _, _ => none
    | none => none
  else none
theorem runV_len {N n : Nat} {body : Sm} {ds : List D} {bv : Bv} (h : runV N n body ds = some bv) : ds.length = n := by
  unfold runV at h
  split at h
  · assumption
  · cases h
theorem runI_len {N n : Nat} {body : Sm} {m : MO} {ds : List D} {r : Bv × MO} (h : runI N n body m ds = some r) : ds.length + 1 = n := by
  unfold runI at h
  split at h
  · assumption
  · cases h
section
variable {K : PySem.W.Frag} {cl : Nat → Addr} {S H : Hp}
theorem startSl : ∀ {ds : List D} {vs : List V} (k : Nat), Reps K cl S ds vs → Sub S H → ∀ (i : Nat) (l : Sl), (ds.map Sl.val ++ List.replicate k .no)[i]? = some l →
    l.mo = none ∧ ∀ d, l = .val d → ∃ v, (vs.map some ++ List.replicate k none)[i]? = some (some v) ∧ Rep K cl S d v
  | [], _, k, h, _, i, l, e => by
    cases (show _ = [] from h)
    rw [List.map_nil, List.nil_append, List.getElem?_replicate] at e
    split at e
    · cases e; exact ⟨rfl, fun d z => by cases z⟩
    · cases e
  | d :: ds, _, k, ⟨v, r, h1, h2, h3⟩, hs, 0, l, e => by
    subst h1
    cases e
    exact ⟨rfl, fun d' z => by cases z; exact ⟨v, rfl, h2⟩⟩
  | d :: ds, _, k, ⟨v, r, h1, h2, h3⟩, hs, i + 1, l, e => by
    subst h1
    exact startSl k h3 hs i l (by simpa using e)
theorem sok_start {ds : List D} {vs : List V} {N : Nat} (r : Reps K cl S ds vs) (hs : Sub S H) (hl : vs.length ≤ N) : SOk K cl (vs.map some ++ List.replicate (N - vs.length) none) H S (ds.map Sl.val ++ List.replicate (N - ds.length) .no) := by
  rw [r.len]
  exact ⟨hs, by simp [r.len], fun i d h => (startSl _ r hs i _ h).2 d rfl, fun i l m h h2 => (by rw [(startSl _ r hs i l h).1] at h2; cases h2), fun i j l l' m m' a h h2 => (by rw [(startSl _ r hs i l h).1] at h2; cases h2)⟩
theorem nown_start {ds : List D} {vs : List V} {N : Nat} {b : Addr} (r : Reps K cl S ds vs) (hs : Sub S H) : ¬ Owned (vs.map some ++ List.replicate (N - vs.length) none) (ds.map Sl.val ++ List.replicate (N - ds.length) .no) b := fun ⟨i, l, m, h1, h2, h3⟩ => by
  rw [(startSl _ r hs i l h1).1] at h2; cases h2
/-- a body's reading, for a def that takes values -/
theorem runV_ok {N ps : List Str} {body : Sm} {vs : List V} {H : Hp} {Q : VK} {E : XK} (hp : ps.length ≤ N.length) (h : spV K cl ps.length (runV N.length ps.length body) vs H Q E) : tSm K cl body { nx := fun _ H' => Q .non H', rt := Q } (start N vs) H := by
  obtain ⟨hl, S, ds, bv, hs, r, w, q⟩ := h
  have hd : ds.length = ps.length := runV_len w
  unfold runV at w
  rw [if_pos hd] at w
  have s0 := sok_start (N := N.length) r hs (by omega)
  have n0 : ∀ b, ¬ Owned (vs.map some ++ List.replicate (N.length - vs.length) none) (ds.map Sl.val ++ List.replicate (N.length - ds.length) .no) b := fun b => nown_start (N := N.length) r hs
  have gr : ∀ {σ' : L2.St} {env' : Env'} {H' S' : Hp}, SOk K cl σ' H' S' env' → Fr (vs.map some ++ List.replicate (N.length - vs.length) none) (ds.map Sl.val ++ List.replicate (N.length - ds.length) .no) H S σ' env' H' S' → Gr H S H' S' := fun s' f' =>
    ⟨fun b o h => f'.keep b o h (n0 b), f'.mono, s'.sub, fun b o h h2 => f'.priv b o h h2 (n0 b)⟩
  rw [← hd] at w
  cases z : body (ds.map Sl.val ++ List.replicate (N.length - ds.length) .no) with
  | none => rw [z] at w; cases w
  | some r =>
    obtain ⟨o, env'⟩ := r
    rw [z] at w
    refine ⟨S, _, o, env', s0, z, ?_⟩
    cases o with
    | nx =>
      cases w
      exact fun σ' H' S' s' f' => q .non H' S' (gr s' f') rfl
    | bk => cases w
    | ct => cases w
    | rt b =>
      cases b with
      | val d =>
        cases w
        exact fun v σ' H' S' s' f' b' => q v H' S' (gr s' f') b'
      | slot i => cases w
      | new m =>
        cases w
        refine fun v σ' H' S' s' f' b' => q v H' S' (gr s' f') ?_
        obtain ⟨a, e, o, n, w⟩ := b'
        exact ⟨a, e, o, w.elim (fun z => absurd z (n0 a)) id⟩
theorem okV {P : Program} {w : World} {mg : Str → Option Value} {base : Heap} {x qual : Str} {params : Arguments} {body : List Stmt} {scope : Scope} {f : Addr} {fd : FuncData} {N ps : List Str} {k : Nat} {fb : Sm}
    (F : FunD K x qual params body scope [] [] f fd) (Sc : FnScope N ps scope) (hp : ps.length ≤ N.length)
    (hb : ∀ (cdv : Value) (A : Around) (outer : List Env) (s : Shared) (H : Hp) (E : XK), Room k (A.deeper (envOfC qual scope s.heap.objs.size f cdv)) → BX (cxOf CX0 P w K mg base N qual scope f cdv A outer s H E).nox cl body fb) :
    FnOk P w K mg base CX0 (k + 1) f fd ps (spV K cl ps.length (runV N.length ps.length fb)) :=
  F.ok Sc (fun vs H Q E h => h.1) fun cdv A outer s H vs Q E hr h => ⟨_, (hb cdv A outer s H E hr).nox, runV_ok hp h⟩
theorem okVG {P : Program} {w : World} {mg : Str → Option Value} {base : Heap} {x qual : Str} {params : Arguments} {body : List Stmt} {scope : Scope} {f : Addr} {fd : FuncData} {N ps : List Str} {k : Nat} {fb : Sm}
    (F : FunD K x qual params body scope [] [] f fd) (Sc : FnScope N ps scope) (hp : ps.length ≤ N.length)
    (hb : ∀ (cdv : Value) (A : Around) (outer : List Env) (s : Shared) (H : Hp) (E : XK), A.guards = some [] → Room k (A.deeper (envOfC qual scope s.heap.objs.size f cdv)) → BX (cxOf CX0 P w K mg base N qual scope f cdv A outer s H E).nox cl body fb) :
    GFn P w K mg base (k + 1) f fd ps (spV K cl ps.length (runV N.length ps.length fb)) :=
  gfn_of F Sc (fun vs H Q E h => h.1) fun cdv A outer s H vs Q E hG hr h => ⟨_, (hb cdv A outer s H E hG hr).nox, runV_ok hp h⟩
/-- the same for a def that changes its first argument -/
theorem runI_ok {N ps : List Str} {body : Sm} {vs : List V} {H : Hp} {Q : VK} {E : XK} (hp : ps.length ≤ N.length) (h : spI K cl ps.length (runI N.length ps.length body) vs H Q E) : tSm K cl body { nx := fun _ H' => Q .non H', rt := Q } (start N vs) H := by
  obtain ⟨hl, a, us, S, m, ds, bv, m', rfl, hs, oa, r, w, q⟩ := h
  have hd : ds.length + 1 = ps.length := runI_len w
  unfold runI at w
  rw [if_pos hd] at w
  have lu : us.length = ds.length := r.len.symm
  have est : start N (V.ref a :: us) = some (V.ref a) :: (us.map some ++ List.replicate (N.length - ps.length) none) := by
    unfold L2.start
    rw [List.length_cons, lu, hd]
    rfl
  have key : ∀ (i : Nat) (l : Sl), (Sl.par m :: (ds.map Sl.val ++ List.replicate (N.length - ps.length) .no))[i]? = some l → (i = 0 ∧ l = .par m) ∨ ∃ j, i = j + 1 ∧ l.mo = none ∧ ∀ d, l = .val d → ∃ v, (us.map some ++ List.replicate (N.length - ps.length) none)[j]? = some (some v) ∧ Rep K cl S d v := fun i l e => by
    cases i with
    | zero => cases e; exact .inl ⟨rfl, rfl⟩
    | succ j => exact .inr ⟨j, rfl, startSl _ r hs j l (by simpa using e)⟩
  have s0 : SOk K cl (some (V.ref a) :: (us.map some ++ List.replicate (N.length - ps.length) none)) H S (Sl.par m :: (ds.map Sl.val ++ List.replicate (N.length - ps.length) .no)) := by
    refine ⟨hs, by simp [lu], fun i d e => ?_, fun i l mo e e2 => ?_, fun i j l l' m1 m2 b e1 e2 e3 e4 _ _ => ?_⟩
    · rcases key i _ e with ⟨_, z⟩ | ⟨j, rfl, _, z⟩
      · cases z
      · obtain ⟨v, z1, z2⟩ := z d rfl
        exact ⟨v, by simpa using z1, z2⟩
    · rcases key i _ e with ⟨rfl, rfl⟩ | ⟨j, rfl, z, _⟩
      · cases e2; exact ⟨a, rfl, oa⟩
      · rw [z] at e2; cases e2
    · rcases key i _ e1 with ⟨rfl, rfl⟩ | ⟨j', rfl, z, _⟩
      · rcases key j _ e3 with ⟨rfl, rfl⟩ | ⟨j', rfl, z, _⟩
        · rfl
        · rw [z] at e4; cases e4
      · rw [z] at e2; cases e2
  have n0 : ∀ b, b ≠ a → ¬ Owned (some (V.ref a) :: (us.map some ++ List.replicate (N.length - ps.length) none)) (Sl.par m :: (ds.map Sl.val ++ List.replicate (N.length - ps.length) .no)) b := fun b hb ⟨i, l, mo, h1, h2, h3⟩ => by
    rcases key i _ h1 with ⟨rfl, rfl⟩ | ⟨j, rfl, z, _⟩
    · cases h3; exact hb rfl
    · rw [z] at h2; cases h2
  have gr : ∀ {σ' : L2.St} {env' : Env'} {H' S' : Hp}, SOk K cl σ' H' S' env' → Fr (some (V.ref a) :: (us.map some ++ List.replicate (N.length - ps.length) none)) (Sl.par m :: (ds.map Sl.val ++ List.replicate (N.length - ps.length) .no)) H S σ' env' H' S' → GrX a H S H' S' := fun s' f' =>
    ⟨fun b o h n => f'.keep b o h (n0 b n), f'.mono, s'.sub, fun b o h h2 n => f'.priv b o h h2 (n0 b n)⟩
  split at w
  · rename_i o env' z
    split at w
    · rename_i b m2 z1 z2
      cases w
      have fin : ∀ {σ' : L2.St} {H' S' : Hp}, SOk K cl σ' H' S' env' → Fr (some (V.ref a) :: (us.map some ++ List.replicate (N.length - ps.length) none)) (Sl.par m :: (ds.map Sl.val ++ List.replicate (N.length - ps.length) .no)) H S σ' env' H' S' → OwnAt K cl H' S' a m' ∧ Owned σ' env' a := fun {σ' H' S'} s' f' => by
        obtain ⟨p1, _⟩ := f'.par 0 m rfl
        obtain ⟨c, e1, o1⟩ := s'.own 0 _ m' z2 rfl
        rw [p1] at e1
        cases e1
        exact ⟨o1, 0, _, m', z2, rfl, p1⟩
      rw [est]
      refine ⟨S, _, o, env', s0, z, ?_⟩
      cases o with
      | nx =>
        cases z1
        exact fun σ' H' S' s' f' => q .non H' S' (gr s' f') (fin s' f').1 rfl
      | bk => cases z1
      | ct => cases z1
      | rt b2 =>
        cases b2 with
        | val d =>
          cases z1
          exact fun v σ' H' S' s' f' b' => q v H' S' (gr s' f') (fin s' f').1 b'
        | slot i => cases z1
        | new m3 =>
          cases z1
          refine fun v σ' H' S' s' f' b' => q v H' S' (gr s' f') (fin s' f').1 ?_
          obtain ⟨c, e, o, n, w⟩ := b'
          refine ⟨c, e, o, w.elim (fun z => ?_) id⟩
          by_cases hc : c = a
          · subst hc; exact absurd (fin s' f').2 n
          · exact absurd z (n0 c hc)
    · cases w
  · cases w
theorem okI {P : Program} {w : World} {mg : Str → Option Value} {base : Heap} {x qual : Str} {params : Arguments} {body : List Stmt} {scope : Scope} {f : Addr} {fd : FuncData} {N ps : List Str} {k : Nat} {fb : Sm}
    (F : FunD K x qual params body scope [] [] f fd) (Sc : FnScope N ps scope) (hp : ps.length ≤ N.length)
    (hb : ∀ (cdv : Value) (A : Around) (outer : List Env) (s : Shared) (H : Hp) (E : XK), Room k (A.deeper (envOfC qual scope s.heap.objs.size f cdv)) → BX (cxOf CX0 P w K mg base N qual scope f cdv A outer s H E).nox cl body fb) :
    FnOk P w K mg base CX0 (k + 1) f fd ps (spI K cl ps.length (runI N.length ps.length fb)) :=
  F.ok Sc (fun vs H Q E h => h.1) fun cdv A outer s H vs Q E hr h => ⟨_, (hb cdv A outer s H E hr).nox, runI_ok hp h⟩
theorem okIG {P : Program} {w : World} {mg : Str → Option Value} {base : Heap} {x qual : Str} {params : Arguments} {body : List Stmt} {scope : Scope} {f : Addr} {fd : FuncData} {N ps : List Str} {k : Nat} {fb : Sm}
    (F : FunD K x qual params body scope [] [] f fd) (Sc : FnScope N ps scope) (hp : ps.length ≤ N.length)
    (hb : ∀ (cdv : Value) (A : Around) (outer : List Env) (s : Shared) (H : Hp) (E : XK), A.guards = some [] → Room k (A.deeper (envOfC qual scope s.heap.objs.size f cdv)) → BX (cxOf CX0 P w K mg base N qual scope f cdv A outer s H E).nox cl body fb) :
    GFn P w K mg base (k + 1) f fd ps (spI K cl ps.length (runI N.length ps.length fb)) :=
  gfn_of F Sc (fun vs H Q E h => h.1) fun cdv A outer s H vs Q E hG hr h => ⟨_, (hb cdv A outer s H E hG hr).nox, runI_ok hp h⟩
end
end VL

set_option Elab.async false
set_option linter.all false
set_option maxRecDepth 100000
set_option maxHeartbeats 1000000
/-! VLk: operators and built-ins on plain data. -/
namespace VL
open PySem PySem.Spec PyProof.Rows L2
abbrev vI (i : Int) : Bv := .val (.int i)
abbrev vB (b : Bool) : Bv := .val (.bl b)
section
variable {K : PySem.W.Frag} {cl : Nat → Addr} {H S : Hp}
/-- a new list, a new tuple -/
theorem new_lst {a : Addr} {vs : List V} {ds : List D} (hs : Sub S H) (hp : H a = none) (r : Reps K cl S ds vs) : Gr H S (upd H a (.lst vs)) S ∧ BvN K cl H (upd H a (.lst vs)) S (.new (.lst ds)) (.ref a) := by
  have h0 : S a = none := by
    cases q : S a with
    | none => rfl
    | some o => rw [hs a o q] at hp; cases hp
  exact ⟨⟨Sub.upd hp, Sub.rfl', hs.comp (Sub.upd hp), fun _ _ _ h => h⟩, a, rfl, ⟨h0, vs, upd_same, r⟩, hp⟩
theorem new_tup {a : Addr} {vs : List V} {ds : List D} (hs : Sub S H) (hp : H a = none) (r : Reps K cl S ds vs) : Gr H S (upd H a (.tup vs)) (upd S a (.tup vs)) ∧ BvN K cl H (upd H a (.tup vs)) (upd S a (.tup vs)) (.val (.tup ds)) (.ref a) := by
  have h0 : S a = none := by
    cases q : S a with
    | none => rfl
    | some o => rw [hs a o q] at hp; cases hp
  refine ⟨⟨Sub.upd hp, Sub.upd h0, fun b o h => ?_, fun b o h h2 => ?_⟩, a, vs, rfl, .of upd_same, r.mono (Sub.upd h0)⟩
  · by_cases hb : b = a
    · subst hb; rw [upd_same] at h ⊢; exact h
    · rw [upd_ne hb] at h ⊢; exact hs b o h
  · rw [upd_ne (fun z => by subst z; rw [hp] at h; cases h)]; exact h2
theorem scal_ok {d : D} {v : V} {Q : VK} (hs : Sub S H) (r : Rep K cl S d v) (q : ∀ v H' S', Gr H S H' S' → BvN K cl H H' S' (.val d) v → Q v H') : Q v H := q v H S (Gr.same hs) r
/-! ### arithmetic -/
def dAdd : D → D → Option Bv
  | .int i, .int j => some (vI (i + j))
  | .lst xs, .lst ys => if xs.length + ys.length ≤ sizeLine then some (.new (.lst (xs ++ ys))) else none
  | .tup xs, .tup ys => if xs.length + ys.length ≤ sizeLine then some (.val (.tup (xs ++ ys))) else none
  | _, _ => none
abbrev rAdd3 (K : PySem.W.Frag) : R2 := fun x y H Q => rI0 (fun i j => .int (i + j)) x y H Q ∨ (rCat x y H Q ∨ rCatA K x y H Q)
theorem op_add3 {X : Cx} : OpR X (binaryOp .Add) (rAdd3 X.K) := op_add.or (op_cat.or op_catA)
theorem ln_add : Link2 K cl (rAdd3 K) dAdd := fun H S d e v u bv Q hs hd he w q => by
  unfold dAdd at w
  split at w
  · rename_i i j
    cases w
    exact .inl ⟨i, j, hd, he, q _ H S (Gr.same hs) rfl⟩
  · rename_i xs ys
    split at w
    · rename_i hl
      cases w
      obtain ⟨a, vs, e1, h1, r1⟩ := hd
      obtain ⟨b, us, e2, h2, r2⟩ := he
      refine .inr (.inl ⟨a, b, vs, us, e1, e2, h1, h2, by rw [← r1.len, ← r2.len]; exact hl, fun p hp => ?_⟩)
      obtain ⟨g, n⟩ := new_lst hs hp (r1.append r2)
      exact q _ _ _ g n
    · cases w
  · rename_i xs ys
    split at w
    · rename_i hl
      cases w
      obtain ⟨a, vs, e1, h1, r1⟩ := hd
      obtain ⟨b, us, e2, h2, r2⟩ := he
      refine .inr (.inr ⟨a, b, vs, us, e1, e2, hs.t h1, hs.t h2, by rw [← r1.len, ← r2.len]; exact hl, fun z => ?_, fun _ z => ?_, fun _ _ p hp => ?_⟩)
      · subst z
        have l0 : xs = [] := List.eq_nil_of_length_eq_zero (by rw [r1.len]; rfl)
        subst l0
        exact scal_ok (d := .tup ys) hs ⟨b, us, rfl, h2, r2⟩ q
      · subst z
        have l0 : ys = [] := List.eq_nil_of_length_eq_zero (by rw [r2.len]; rfl)
        subst l0
        rw [List.append_nil] at q
        exact scal_ok (d := .tup xs) hs ⟨a, vs, rfl, h1, r1⟩ q
      · obtain ⟨g, n⟩ := new_tup hs hp (r1.append r2)
        exact q _ _ _ g n
    · cases w
  · cases w
def dSub : D → D → Option Bv
  | .int i, .int j => some (vI (i - j))
  | _, _ => none
theorem ln_sub : Link2 K cl (rI0 fun i j => .int (i - j)) dSub := fun H S d e v u bv Q hs hd he w q => by
  unfold dSub at w
  split at w
  · rename_i i j
    cases w
    exact ⟨i, j, hd, he, q _ H S (Gr.same hs) rfl⟩
  · cases w
/-- the product of two ints fits into the model's line -/
def mulOk (i j : Int) : Bool := decide (i.natAbs.log2 < 60) || (decide (j.natAbs.log2 < 60) || decide (i.natAbs.log2 + j.natAbs.log2 < 134217700))
def CMulX (i j : Int) : Prop := mulOk i j = true
theorem CMulX.ok {i j : Int} (h : CMulX i j) : IntMulOk i j := by
  have bd : ∀ x : Int, Builtin.Int.intBits x ≤ x.natAbs.log2 + 1 := by
    intro x
    unfold Builtin.Int.intBits
    split <;> omega
  have h1 := bd i
  have h2 := bd j
  have h0 : mulOk i j = true := h
  unfold mulOk at h0
  rw [Bool.or_eq_true, Bool.or_eq_true, decide_eq_true_iff, decide_eq_true_iff, decide_eq_true_iff] at h0
  rcases h0 with h3 | h3 | h3
  · exact .of_left (by omega)
  · exact .of_right (by omega)
  · intro z
    have z1 := (Bool.and_eq_true_iff.mp z).2
    have z2 : ((Builtin.Int.intBits i + Builtin.Int.intBits j : Nat) : Int) > (bitsLine : Int) := of_decide_eq_true z1
    rw [bitsLine_eq] at z2
    omega
theorem op_mulX {X : Cx} : OpR X (binaryOp .Mult) (rI CMulX fun i j => .int (i * j)) := opI fun _ _ _ _ _ _ _ c q => mul_int q c.ok
def dMul : D → D → Option Bv
  | .int i, .int j => if mulOk i j = true then some (vI (i * j)) else none
  | .lst xs, .int k => if 0 ≤ k ∧ k < 2 ^ 62 ∧ xs.length * k.toNat ≤ sizeLine then some (.new (.lst (List.replicate k.toNat xs).flatten)) else none
  | _, _ => none
theorem reps_flat {ds : List D} {vs : List V} (r : Reps K cl S ds vs) : ∀ n : Nat, Reps K cl S (List.replicate n ds).flatten (List.replicate n vs).flatten
  | 0 => rfl
  | n + 1 => by
    rw [List.replicate_succ, List.replicate_succ, List.flatten_cons, List.flatten_cons]
    exact r.append (reps_flat r n)
abbrev rMul2 : R2 := fun x y H Q => rI CMulX (fun i j => .int (i * j)) x y H Q ∨ rRep x y H Q
theorem op_mul2 {X : Cx} : OpR X (binaryOp .Mult) rMul2 := op_mulX.or op_rep
theorem ln_mul : Link2 K cl rMul2 dMul := fun H S d e v u bv Q hs hd he w q => by
  unfold dMul at w
  split at w
  · rename_i i j
    split at w
    · rename_i hm
      cases w
      exact .inl ⟨i, j, hd, he, hm, q _ H S (Gr.same hs) rfl⟩
    · cases w
  · rename_i xs k
    split at w
    · rename_i hk
      cases w
      obtain ⟨a, vs, e1, h1, r1⟩ := hd
      refine .inr ⟨a, k, vs, e1, he, h1, by omega, by omega, by rw [← r1.len]; exact hk.2.2, fun p hp => ?_⟩
      obtain ⟨g, n⟩ := new_lst hs hp (reps_flat r1 k.toNat)
      exact q _ _ _ g n
    · cases w
  · cases w
/-- a // b, a % b by a divisor above 0 -/
def divOk (j : Int) : Bool := decide (0 < j) && decide (j.natAbs.log2 < 9000)
def dFdiv : D → D → Option Bv
  | .int i, .int j => if divOk j = true then some (vI (i / j)) else none
  | _, _ => none
theorem ln_fdiv : Link2 K cl (rI CDivW fun i j => .int (i / j)) dFdiv := fun H S d e v u bv Q hs hd he w q => by
  unfold dFdiv at w
  split at w
  · rename_i i j
    split at w
    · rename_i hj
      cases w
      have hj := Bool.and_eq_true_iff.mp hj
      exact ⟨i, j, hd, he, ⟨of_decide_eq_true hj.1, of_decide_eq_true hj.2⟩, q _ H S (Gr.same hs) rfl⟩
    · cases w
  · cases w
def CDivX (_ j : Int) : Prop := j ≠ 0 ∧ j.natAbs.log2 < 9000
theorem op_fdivX {X : Cx} : OpR X (binaryOp .FloorDiv) (rI CDivX fun i j => .int (i.fdiv j)) := opI fun _ _ _ _ _ _ _ c q => floordiv_int c.1 q (.inl (PyProof.noPylong_of_log2 c.2))
/-- .. by any divisor other than 0 -/
def dFdivN : D → D → Option Bv
  | .int i, .int j => if j ≠ 0 ∧ j.natAbs.log2 < 9000 then some (vI (i.fdiv j)) else none
  | _, _ => none
theorem ln_fdivN : Link2 K cl (rI CDivX fun i j => .int (i.fdiv j)) dFdivN := fun H S d e v u bv Q hs hd he w q => by
  unfold dFdivN at w
  split at w
  · rename_i i j
    split at w
    · rename_i hj
      cases w
      exact ⟨i, j, hd, he, hj, q _ H S (Gr.same hs) rfl⟩
    · cases w
  · cases w
def dMod : D → D → Option Bv
  | .int i, .int j => if 0 < j then some (vI (i % j)) else none
  | _, _ => none
theorem ln_mod : Link2 K cl (rI (fun _ j => 0 < j) fun i j => .int (i % j)) dMod := fun H S d e v u bv Q hs hd he w q => by
  unfold dMod at w
  split at w
  · rename_i i j
    split at w
    · rename_i hj
      cases w
      exact ⟨i, j, hd, he, hj, q _ H S (Gr.same hs) rfl⟩
    · cases w
  · cases w
def dPow : D → D → Option Bv
  | .int i, .int j => if 0 ≤ j ∧ j ≤ 1000 ∧ -1000000 ≤ i ∧ i ≤ 1000000 then some (vI (i ^ j.toNat)) else none
  | _, _ => none
theorem ln_pow : Link2 K cl (rI CPow fun i j => .int (i ^ j.toNat)) dPow := fun H S d e v u bv Q hs hd he w q => by
  unfold dPow at w
  split at w
  · rename_i i j
    split at w
    · rename_i hj
      cases w
      exact ⟨i, j, hd, he, ⟨hj.1, by omega, by omega⟩, q _ H S (Gr.same hs) rfl⟩
    · cases w
  · cases w
def dNeg : D → Option Bv
  | .int i => some (vI (-i))
  | _ => none
theorem ln_neg : Link1 K cl (rU fun i => .int (-i)) dNeg := fun H S d v bv Q hs hd w q => by
  unfold dNeg at w
  split at w
  · rename_i i
    cases w
    exact ⟨i, hd, q _ H S (Gr.same hs) rfl⟩
  · cases w
/-! ### comparisons -/
def dCmp (p : Int → Int → Bool) : D → D → Option Bv
  | .int i, .int j => some (vB (p i j))
  | _, _ => none
theorem ln_cmp {p : Int → Int → Bool} : Link2 K cl (rI0 fun i j => .bl (p i j)) (dCmp p) := fun H S d e v u bv Q hs hd he w q => by
  unfold dCmp at w
  split at w
  · rename_i i j
    cases w
    exact ⟨i, j, hd, he, q _ H S (Gr.same hs) rfl⟩
  · cases w
abbrev dLt := dCmp fun i j => decide (i < j)
abbrev dLe := dCmp fun i j => decide (i ≤ j)
abbrev dGt := dCmp fun i j => decide (j < i)
abbrev dGe := dCmp fun i j => decide (j ≤ i)
def D.isN : D → Bool
  | .non => true
  | .raw u => decide (u = .non)
  | _ => false
theorem isN_rep {d : D} {v : V} (h : RepB K cl H S d v) : decide (v = V.non) = d.isN := by
  cases d with
  | non => cases (show v = V.non from h); rfl
  | bl b => cases (show v = V.bl b from h); rfl
  | int i => cases (show v = V.int i from h); rfl
  | str x => cases (show v = V.str x from h); rfl
  | ty n => cases (show v = V.ty n from h); rfl
  | cls c => cases (show v = V.ref (cl c) from h); rfl
  | raw u => cases (show v = u from h); rfl
  | tup xs => obtain ⟨a, vs, e, _⟩ := h; subst e; rfl
  | lst xs => obtain ⟨a, vs, e, _⟩ := h; subst e; rfl
  | fl xs => obtain ⟨a, vs, e, _⟩ := h; subst e; rfl
  | ins c fs => obtain ⟨a, dx, gs, e, _⟩ := h; subst e; rfl
def dIsN : D → D → Option Bv
  | d, .non => some (vB d.isN)
  | _, _ => none
theorem ln_isN : Link2 K cl (fun x y H Q => y = .non ∧ Q (.bl (decide (x = .non))) H) dIsN := fun H S d e v u bv Q hs hd he w q => by
  unfold dIsN at w
  split at w
  · cases w
    refine ⟨he, ?_⟩
    rw [isN_rep hd]
    exact q _ H S (Gr.same hs) rfl
  · cases w
def dNotN : D → D → Option Bv
  | d, .non => some (vB (!d.isN))
  | _, _ => none
theorem ln_notN : Link2 K cl (fun x y H Q => y = .non ∧ Q (.bl (!decide (x = .non))) H) dNotN := fun H S d e v u bv Q hs hd he w q => by
  unfold dNotN at w
  split at w
  · cases w
    refine ⟨he, ?_⟩
    rw [isN_rep hd]
    exact q _ H S (Gr.same hs) rfl
  · cases w
/-! ### == of plain data -/
mutual
def toPy : D → Option PyData
  | .non => some .none
  | .bl b => some (.bool b)
  | .int i => some (.int i)
  | .str x => some (.str x)
  | .tup xs => (toPys xs).map .tuple
  | .lst xs => (toPys xs).map .list
  | _ => none
def toPys : List D → Option (List PyData)
  | [] => some []
  | d :: ds => match toPy d, toPys ds with
    | some p, some ps => some (p :: ps)
    | _, _ => none
end
mutual
theorem dp_rep (hs : Sub S H) : ∀ {d : D} {v : V} {p : PyData}, Rep K cl S d v → toPy d = some p → Dp K H v p
  | .non, _, _, h, e => by cases h; cases e; exact .non
  | .bl b, _, _, h, e => by cases h; cases e; exact .bl b
  | .int i, _, _, h, e => by cases h; cases e; exact .int i
  | .str x, _, _, h, e => by cases h; cases e; exact .str x
  | .tup xs, _, _, h, e => by
    obtain ⟨ps, e1, e2⟩ := Option.map_eq_some_iff.mp (show (toPys xs).map PyData.tuple = some _ from e)
    subst e2
    obtain ⟨a, vs, e3, h1, r⟩ := h
    subst e3
    exact .tup (hs.t h1) (dp_reps hs r e1)
  | .lst xs, _, _, h, e => by
    obtain ⟨ps, e1, e2⟩ := Option.map_eq_some_iff.mp (show (toPys xs).map PyData.list = some _ from e)
    subst e2
    obtain ⟨a, vs, e3, h1, r⟩ := h
    subst e3
    exact .lst (.of (hs _ _ h1)) (dp_reps hs r e1)
  | .ins _ _, _, _, _, e => by cases e
  | .ty _, _, _, _, e => by cases e
  | .cls _, _, _, _, e => by cases e
  | .fl _, _, _, _, e => by cases e
  | .raw _, _, _, _, e => by cases e
theorem dp_reps (hs : Sub S H) : ∀ {ds : List D} {vs : List V} {ps : List PyData}, Reps K cl S ds vs → toPys ds = some ps → DpAll K H vs ps
  | [], _, _, h, e => by cases (show _ = [] from h); cases e; exact .nil
  | d :: ds, _, _, h, e => by
    obtain ⟨v, r, e1, h1, h2⟩ := h
    subst e1
    have e' : (match toPy d, toPys ds with | some p, some ps => some (p :: ps) | _, _ => none) = some _ := e
    split at e'
    · rename_i p ps q1 q2
      cases e'
      exact .cons (dp_rep hs h1 q1) (dp_reps hs h2 q2)
    · cases e'
end
theorem dp_repB (hs : Sub S H) {d : D} {v : V} {p : PyData} (h : RepB K cl H S d v) (e : toPy d = some p) : Dp K H v p := by
  cases d with
  | lst xs =>
    obtain ⟨ps, e1, e2⟩ := Option.map_eq_some_iff.mp (show (toPys xs).map PyData.list = some _ from e)
    subst e2
    obtain ⟨a, vs, e3, h1, r⟩ := h
    subst e3
    exact .lst (.of h1) (dp_reps hs r e1)
  | ins c fs => cases e
  | fl xs => cases e
  | _ => exact dp_rep hs h e
def eqD (d e : D) : Option Bool := match toPy d, toPy e with
  | some p, some q => if SeqAt.shaped p = true ∧ SeqAt.shaped q = true then some (PyData.eqv p q) else none
  | _, _ => none
def dEq (d e : D) : Option Bv := (eqD d e).map vB
def dNe (d e : D) : Option Bv := (eqD d e).map fun b => vB (!b)
theorem eqD_some {d e : D} {b : Bool} (h : eqD d e = some b) : ∃ p q, toPy d = some p ∧ toPy e = some q ∧ SeqAt.shaped p = true ∧ SeqAt.shaped q = true ∧ PyData.eqv p q = b := by
  unfold eqD at h
  split at h
  · rename_i p q h1 h2
    split at h
    · rename_i hh
      cases h
      exact ⟨p, q, h1, h2, hh.1, hh.2, rfl⟩
    · cases h
  · cases h
theorem ln_eq : Link2 K cl (rEqD K) dEq := fun H S d e v u bv Q hs hd he w q => by
  obtain ⟨b, w1, w2⟩ := Option.map_eq_some_iff.mp w
  subst w2
  obtain ⟨p, p', h1, h2, h3, h4, h5⟩ := eqD_some w1
  refine ⟨p, p', dp_repB hs hd h1, dp_repB hs he h2, h3, h4, ?_⟩
  rw [h5]
  exact q _ H S (Gr.same hs) rfl
theorem ln_ne : Link2 K cl (rNeD K) dNe := fun H S d e v u bv Q hs hd he w q => by
  obtain ⟨b, w1, w2⟩ := Option.map_eq_some_iff.mp w
  subst w2
  obtain ⟨p, p', h1, h2, h3, h4, h5⟩ := eqD_some w1
  refine ⟨p, p', dp_repB hs hd h1, dp_repB hs he h2, h3, h4, ?_⟩
  rw [h5]
  exact q _ H S (Gr.same hs) rfl
/-! ### x in xs, of flat items -/
def flatD : D → Option V
  | .non => some .non
  | .bl b => some (.bl b)
  | .int i => some (.int i)
  | .str x => some (.str x)
  | _ => none
def flatDs : List D → Option (List V)
  | [] => some []
  | d :: ds => match flatD d, flatDs ds with
    | some v, some vs => some (v :: vs)
    | _, _ => none
theorem flat_rep {d : D} {v w : V} (h : Rep K cl S d v) (e : flatD d = some w) : v = w ∧ flatV v = true := by
  cases d with
  | non => cases (show v = V.non from h); cases e; exact ⟨rfl, rfl⟩
  | bl b => cases (show v = V.bl b from h); cases e; exact ⟨rfl, rfl⟩
  | int i => cases (show v = V.int i from h); cases e; exact ⟨rfl, rfl⟩
  | str x => cases (show v = V.str x from h); cases e; exact ⟨rfl, rfl⟩
  | _ => cases e
theorem flat_repB {d : D} {v w : V} (h : RepB K cl H S d v) (e : flatD d = some w) : v = w ∧ flatV v = true := by
  cases d with
  | non => exact flat_rep (S := S) (K := K) (cl := cl) (d := .non) h e
  | bl b => exact flat_rep (S := S) (K := K) (cl := cl) (d := .bl b) h e
  | int i => exact flat_rep (S := S) (K := K) (cl := cl) (d := .int i) h e
  | str x => exact flat_rep (S := S) (K := K) (cl := cl) (d := .str x) h e
  | _ => cases e
theorem flat_reps : ∀ {ds : List D} {vs ws : List V}, Reps K cl S ds vs → flatDs ds = some ws → vs = ws ∧ vs.all flatV = true
  | [], _, _, h, e => by cases (show _ = [] from h); cases e; exact ⟨rfl, rfl⟩
  | d :: ds, _, _, h, e => by
    obtain ⟨v, r, e1, h1, h2⟩ := h
    subst e1
    have e' : (match flatD d, flatDs ds with | some v, some vs => some (v :: vs) | _, _ => none) = some _ := e
    split at e'
    · rename_i w ws q1 q2
      cases e'
      obtain ⟨a1, a2⟩ := flat_rep h1 q1
      obtain ⟨b1, b2⟩ := flat_reps h2 q2
      subst a1 b1
      exact ⟨rfl, by rw [List.all_cons, a2, b2]; rfl⟩
    · cases e'
def D.items : D → Option (List D)
  | .lst xs => some xs
  | .tup xs => some xs
  | .fl xs => some xs
  | _ => none
theorem items_rep (hs : Sub S H) {d : D} {v : V} {ds : List D} (h : RepB K cl H S d v) (e : d.items = some ds) : ∃ a vs, v = .ref a ∧ (SqL K H a vs ∨ SqT K H a vs) ∧ Reps K cl S ds vs := by
  cases d with
  | lst xs => cases e; obtain ⟨a, vs, e1, h1, r⟩ := h; exact ⟨a, vs, e1, .inl (.of h1), r⟩
  | tup xs => cases e; obtain ⟨a, vs, e1, h1, r⟩ := h; exact ⟨a, vs, e1, .inr (hs.t h1), r⟩
  | fl xs => cases e; obtain ⟨a, vs, e1, h1, r⟩ := h; exact ⟨a, vs, e1, .inl h1, r⟩
  | _ => cases e
def inD (d e : D) : Option Bool := match flatD d, e.items with
  | some x, some ds => (flatDs ds).map fun ws => inV x ws
  | _, _ => none
def dIn (d e : D) : Option Bv := (inD d e).map vB
def dNin (d e : D) : Option Bv := (inD d e).map fun b => vB (!b)
theorem inD_some {d e : D} {b : Bool} (h : inD d e = some b) : ∃ x ds ws, flatD d = some x ∧ e.items = some ds ∧ flatDs ds = some ws ∧ inV x ws = b := by
  unfold inD at h
  split at h
  · rename_i x ds h1 h2
    obtain ⟨ws, h3, h4⟩ := Option.map_eq_some_iff.mp h
    exact ⟨x, ds, ws, h1, h2, h3, h4⟩
  · cases h
theorem ln_in : Link2 K cl (rIn K false) dIn := fun H S d e v u bv Q hs hd he w q => by
  obtain ⟨b, w1, w2⟩ := Option.map_eq_some_iff.mp w
  subst w2
  obtain ⟨x, ds, ws, h1, h2, h3, h4⟩ := inD_some w1
  obtain ⟨a1, a2⟩ := flat_repB hd h1
  obtain ⟨p, vs, e1, hq, r⟩ := items_rep hs he h2
  obtain ⟨b1, b2⟩ := flat_reps r h3
  subst a1 b1
  refine ⟨p, vs, e1, hq, a2, b2, ?_⟩
  rw [if_neg Bool.false_ne_true, h4]
  exact q _ H S (Gr.same hs) rfl
theorem ln_nin : Link2 K cl (rIn K true) dNin := fun H S d e v u bv Q hs hd he w q => by
  obtain ⟨b, w1, w2⟩ := Option.map_eq_some_iff.mp w
  subst w2
  obtain ⟨x, ds, ws, h1, h2, h3, h4⟩ := inD_some w1
  obtain ⟨a1, a2⟩ := flat_repB hd h1
  obtain ⟨p, vs, e1, hq, r⟩ := items_rep hs he h2
  obtain ⟨b1, b2⟩ := flat_reps r h3
  subst a1 b1
  refine ⟨p, vs, e1, hq, a2, b2, ?_⟩
  rw [if_pos rfl, h4]
  exact q _ H S (Gr.same hs) rfl
/-! ### xs[i] -/
def dIx (d e : D) : Option Bv := match d.items, e with
  | some ds, .int i => (atI ds i).map .val
  | _, _ => none
abbrev rIxLT (K : PySem.W.Frag) : R2 := fun x y H Q => rIxL K x y H Q ∨ rIxT K x y H Q
theorem ix_lt {X : Cx} : IxR X (rIxLT X.K) := ix_list.or ix_tup
theorem atI_rep {ds : List D} {vs : List V} {i : Int} {d : D} (r : Reps K cl S ds vs) (h : atI ds i = some d) : ∃ v, atI vs i = some v ∧ Rep K cl S d v := by
  unfold atI at h ⊢
  rw [← r.len]
  cases q : ixN ds.length i with
  | none => rw [q] at h; cases h
  | some j =>
    rw [q] at h
    obtain ⟨v, e1, e2⟩ := r.get (show ds[j]? = some d from h)
    exact ⟨v, e1, e2⟩
theorem ln_ix : Link2 K cl (rIxLT K) dIx := fun H S d e v u bv Q hs hd he w q => by
  unfold dIx at w
  split at w
  · rename_i ds i h1
    obtain ⟨x, w1, w2⟩ := Option.map_eq_some_iff.mp w
    subst w2
    obtain ⟨a, vs, e1, hq, r⟩ := items_rep hs hd h1
    obtain ⟨z, z1, z2⟩ := atI_rep r w1
    rcases hq with hq | hq
    · exact .inl ⟨a, vs, i, z, e1, he, hq, z1, q _ H S (Gr.same hs) z2⟩
    · exact .inr ⟨a, vs, i, z, e1, he, hq, z1, q _ H S (Gr.same hs) z2⟩
  · cases w
end
end VL

set_option Elab.async false
set_option linter.all false
set_option maxRecDepth 100000
set_option maxHeartbeats 1000000
/-! VLl: built-in functions, slices, methods of lists. -/
namespace VL
open PySem PySem.Spec PyProof.Rows L2
section
variable {X : Cx} {K : PySem.W.Frag} {cl : Nat → Addr} {H S : Hp} {p pos : Pos} {e : Expr} {es : List Expr} {f : Evs}
theorem p1 {d : D} {vs : List V} (h : Paired (RepB K cl H S) [d] vs) : ∃ v, vs = [v] ∧ RepB K cl H S d v := by
  cases h with
  | cons h1 h2 => cases h2; exact ⟨_, rfl, h1⟩
theorem p2 {d d' : D} {vs : List V} (h : Paired (RepB K cl H S) [d, d'] vs) : ∃ v u, vs = [v, u] ∧ RepB K cl H S d v ∧ RepB K cl H S d' u := by
  cases h with
  | cons h1 h2 =>
    cases h2 with
    | cons h3 h4 => cases h4; exact ⟨_, _, rfl, h1, h3⟩
def dLen : List D → Option Bv
  | [.str x] => if x.length ≤ sizeLine then some (vI x.length) else none
  | [d] => d.items.map fun xs => vI xs.length
  | _ => none
theorem ln_len : LinkN K cl (fun xs H Q => ∃ x n, xs = [x] ∧ LenV K x H n ∧ Q (.int n) H) dLen := fun H S ds vs bv Q hs h w q => by
  unfold dLen at w
  split at w
  · rename_i x
    split at w
    · rename_i hx
      cases w
      obtain ⟨v, rfl, hv⟩ := p1 h
      cases (show v = V.str x from hv)
      exact ⟨_, x.length, rfl, ⟨hx, rfl⟩, q _ H S (Gr.same hs) rfl⟩
    · cases w
  · rename_i d _
    obtain ⟨xs, w1, w2⟩ := Option.map_eq_some_iff.mp w
    subst w2
    obtain ⟨v, rfl, hv⟩ := p1 h
    obtain ⟨a, us, rfl, hq, r⟩ := items_rep hs hv w1
    refine ⟨_, xs.length, rfl, ?_, q _ H S (Gr.same hs) rfl⟩
    rcases hq with hq | hq
    · exact .inl ⟨us, hq, r.len⟩
    · exact .inr ⟨us, hq, r.len⟩
  · cases w
def dAbs : List D → Option Bv
  | [.int i] => some (vI i.natAbs)
  | _ => none
theorem ln_abs : LinkN K cl (fun xs H Q => ∃ i, xs = [.int i] ∧ Q (.int (if i < 0 then -i else i)) H) dAbs := fun H S ds vs bv Q hs h w q => by
  unfold dAbs at w
  split at w
  · rename_i i
    cases w
    obtain ⟨v, rfl, hv⟩ := p1 h
    cases (show v = V.int i from hv)
    refine ⟨i, rfl, ?_⟩
    have e : (if i < 0 then -i else i) = (i.natAbs : Int) := by split <;> omega
    rw [e]
    exact q _ H S (Gr.same hs) rfl
  · cases w
def dInt : List D → Option Bv
  | [.int i] => some (vI i)
  | [.bl b] => some (vI (if b then 1 else 0))
  | _ => none
theorem ln_int : LinkN K cl (fun xs H Q => (∃ i, xs = [.int i] ∧ Q (.int i) H) ∨ ∃ k, xs = [.bl k] ∧ Q (.int (if k then 1 else 0)) H) dInt := fun H S ds vs bv Q hs h w q => by
  unfold dInt at w
  split at w
  · rename_i i
    cases w
    obtain ⟨v, rfl, hv⟩ := p1 h
    cases (show v = V.int i from hv)
    exact .inl ⟨i, rfl, q _ H S (Gr.same hs) rfl⟩
  · rename_i b
    cases w
    obtain ⟨v, rfl, hv⟩ := p1 h
    cases (show v = V.bl b from hv)
    exact .inr ⟨b, rfl, q _ H S (Gr.same hs) rfl⟩
  · cases w
def intsD : List D → Option (List Int)
  | [] => some []
  | .int i :: ds => (intsD ds).map (i :: ·)
  | _ :: _ => none
theorem ints_rep : ∀ {ds : List D} {vs : List V} {ns : List Int}, Reps K cl S ds vs → intsD ds = some ns → vs = ns.map V.int
  | [], _, _, h, e => by cases (show _ = [] from h); cases e; rfl
  | d :: ds, _, _, ⟨v, r, h1, h2, h3⟩, e => by
    subst h1
    cases d with
    | int i =>
      obtain ⟨ns, e1, e2⟩ := Option.map_eq_some_iff.mp (show (intsD ds).map (i :: ·) = some _ from e)
      subst e2
      cases (show v = V.int i from h2)
      rw [ints_rep h3 e1]; rfl
    | _ => cases e
def blsD : List D → Option (List Bool)
  | [] => some []
  | .bl b :: ds => (blsD ds).map (b :: ·)
  | _ :: _ => none
theorem bls_rep : ∀ {ds : List D} {vs : List V} {ns : List Bool}, Reps K cl S ds vs → blsD ds = some ns → vs = ns.map V.bl
  | [], _, _, h, e => by cases (show _ = [] from h); cases e; rfl
  | d :: ds, _, _, ⟨v, r, h1, h2, h3⟩, e => by
    subst h1
    cases d with
    | bl i =>
      obtain ⟨ns, e1, e2⟩ := Option.map_eq_some_iff.mp (show (blsD ds).map (i :: ·) = some _ from e)
      subst e2
      cases (show v = V.bl i from h2)
      rw [bls_rep h3 e1]; rfl
    | _ => cases e
def dSum : List D → Option Bv
  | [.lst xs] => (intsD xs).map fun ns => vI ns.sum
  | _ => none
theorem ln_sum : LinkN K cl (rSum K) dSum := fun H S ds vs bv Q hs h w q => by
  unfold dSum at w
  split at w
  · rename_i xs
    obtain ⟨ns, w1, w2⟩ := Option.map_eq_some_iff.mp w
    subst w2
    obtain ⟨v, rfl, a, us, rfl, hq, r⟩ := p1 h
    exact ⟨a, ns, rfl, .of (by rw [← ints_rep r w1]; exact hq), q _ H S (Gr.same hs) rfl⟩
  · cases w
def dAll : List D → Option Bv
  | [.lst xs] => (blsD xs).map fun ns => vB (ns.all id)
  | _ => none
theorem ln_all : LinkN K cl (rAll K) dAll := fun H S ds vs bv Q hs h w q => by
  unfold dAll at w
  split at w
  · rename_i xs
    obtain ⟨ns, w1, w2⟩ := Option.map_eq_some_iff.mp w
    subst w2
    obtain ⟨v, rfl, a, us, rfl, hq, r⟩ := p1 h
    exact ⟨a, ns, rfl, .of (by rw [← bls_rep r w1]; exact hq), q _ H S (Gr.same hs) rfl⟩
  · cases w
def dAny : List D → Option Bv
  | [.lst xs] => (blsD xs).map fun ns => vB (ns.any id)
  | _ => none
theorem ln_any : LinkN K cl (rAny K) dAny := fun H S ds vs bv Q hs h w q => by
  unfold dAny at w
  split at w
  · rename_i xs
    obtain ⟨ns, w1, w2⟩ := Option.map_eq_some_iff.mp w
    subst w2
    obtain ⟨v, rfl, a, us, rfl, hq, r⟩ := p1 h
    exact ⟨a, ns, rfl, .of (by rw [← bls_rep r w1]; exact hq), q _ H S (Gr.same hs) rfl⟩
  · cases w
def dList : List D → Option Bv
  | [d] => d.items.map fun xs => .new (.lst xs)
  | _ => none
theorem ln_list : LinkN K cl (fun xs H Q => ∃ p ys, xs = [.ref p] ∧ (SqL K H p ys ∨ SqT K H p ys) ∧ ∀ l, H l = none → Q (.ref l) (upd H l (.lst ys))) dList := fun H S ds vs bv Q hs h w q => by
  unfold dList at w
  split at w
  · rename_i d
    obtain ⟨xs, w1, w2⟩ := Option.map_eq_some_iff.mp w
    subst w2
    obtain ⟨v, rfl, hv⟩ := p1 h
    obtain ⟨a, us, rfl, hq, r⟩ := items_rep hs hv w1
    refine ⟨a, us, rfl, hq, fun l hl => ?_⟩
    obtain ⟨g, n⟩ := new_lst hs hl r
    exact q _ _ _ g n
  · cases w
def dTuple : List D → Option Bv
  | [.tup xs] => some (.val (.tup xs))
  | [.lst xs] => some (.val (.tup xs))
  | [.fl xs] => some (.val (.tup xs))
  | _ => none
theorem ln_tuple : LinkN K cl (fun xs H Q => ∃ p ys, xs = [.ref p] ∧ ((SqL K H p ys ∧ ∀ l, H l = none → Q (.ref l) (upd H l (.tup ys))) ∨ (SqT K H p ys ∧ Q (.ref p) H))) dTuple := fun H S ds vs bv Q hs h w q => by
  unfold dTuple at w
  split at w
  · rename_i xs
    cases w
    obtain ⟨v, rfl, a, us, rfl, hq, r⟩ := p1 h
    exact ⟨a, us, rfl, .inr ⟨hs.t hq, q _ H S (Gr.same hs) ⟨a, us, rfl, hq, r⟩⟩⟩
  · rename_i xs
    cases w
    obtain ⟨v, rfl, a, us, rfl, hq, r⟩ := p1 h
    refine ⟨a, us, rfl, .inl ⟨.of hq, fun l hl => ?_⟩⟩
    obtain ⟨g, n⟩ := new_tup hs hl r
    exact q _ _ _ g n
  · rename_i xs
    cases w
    obtain ⟨v, rfl, a, us, rfl, hq, r⟩ := p1 h
    refine ⟨a, us, rfl, .inl ⟨hq, fun l hl => ?_⟩⟩
    obtain ⟨g, n⟩ := new_tup hs hl r
    exact q _ _ _ g n
  · cases w
def dMax2 : List D → Option Bv
  | [.int i, .int j] => some (vI (max i j))
  | _ => none
theorem ln_max2 : LinkN K cl (fun xs H Q => ∃ i j, xs = [.int i, .int j] ∧ Q (.int (if j > i then j else i)) H) dMax2 := fun H S ds vs bv Q hs h w q => by
  unfold dMax2 at w
  split at w
  · rename_i i j
    cases w
    obtain ⟨v, u, rfl, hv, hu⟩ := p2 h
    cases (show v = V.int i from hv)
    cases (show u = V.int j from hu)
    refine ⟨i, j, rfl, ?_⟩
    have e : (if j > i then j else i) = max i j := by split <;> omega
    rw [e]
    exact q _ H S (Gr.same hs) rfl
  · cases w
def dMin2 : List D → Option Bv
  | [.int i, .int j] => some (vI (min i j))
  | _ => none
theorem ln_min2 : LinkN K cl (fun xs H Q => ∃ i j, xs = [.int i, .int j] ∧ Q (.int (if j < i then j else i)) H) dMin2 := fun H S ds vs bv Q hs h w q => by
  unfold dMin2 at w
  split at w
  · rename_i i j
    cases w
    obtain ⟨v, u, rfl, hv, hu⟩ := p2 h
    cases (show v = V.int i from hv)
    cases (show u = V.int j from hu)
    refine ⟨i, j, rfl, ?_⟩
    have e : (if j < i then j else i) = min i j := by split <;> omega
    rw [e]
    exact q _ H S (Gr.same hs) rfl
  · cases w
def dDivmod : List D → Option Bv
  | [.int i, .int j] => if 0 < j ∧ j < 1073741824 then some (.val (.tup [.int (i / j), .int (i % j)])) else none
  | _ => none
theorem ln_divmod : LinkN K cl (fun xs H Q => ∃ i j, xs = [.int i, .int j] ∧ CDiv i j ∧ ∀ p, H p = none → Q (.ref p) (upd H p (.tup [.int (i / j), .int (i % j)]))) dDivmod := fun H S ds vs bv Q hs h w q => by
  unfold dDivmod at w
  split at w
  · rename_i i j
    split at w
    · rename_i hj
      cases w
      obtain ⟨v, u, rfl, hv, hu⟩ := p2 h
      cases (show v = V.int i from hv)
      cases (show u = V.int j from hu)
      refine ⟨i, j, rfl, hj, fun l hl => ?_⟩
      obtain ⟨g, n⟩ := new_tup (K := K) (cl := cl) (ds := [.int (i / j), .int (i % j)]) hs hl ⟨_, _, rfl, rfl, _, _, rfl, rfl, rfl⟩
      exact q _ _ _ g n
    · cases w
  · cases w
/-! ### repr -/
def rRepr (K : PySem.W.Frag) : List V → Hp → VK → Prop := fun xs H Q => ∃ x p, xs = [x] ∧ Dp K H x p ∧ SeqAt.shaped p = true ∧ p.showable = true ∧ p.shown.length ≤ sizeLine ∧ Q (.str p.shown) H
theorem call_repr (hG : X.A.guards = some []) (hu : X.A.units + 100 < cLine) : CallR X (.builtin "repr") (rRepr X.K) := by
  rintro pins s σ H xs us Q I r ⟨x, p, rfl, hd, hsh, hsw, hsz, q⟩
  obtain ⟨u, rfl, ru⟩ := vals1 r
  have hsh' := Bool.and_eq_true_iff.mp hsh
  have hdep : p.depth ≤ 64 := of_decide_eq_true hsh'.2
  have hnd : p.hasDict = false := PyData.hasDict_of_canLay p hsh'.1
  obtain ⟨as, rd⟩ := Dp.reads I p x u hd ru
  cases hd with
  | non => cases ru; exact P.repr_of_none ⟨.str _, H, I.tok _, ⟨_, rfl⟩, q⟩
  | bl b => cases ru; exact P.repr_of_bool ⟨.str _, H, I.tok _, ⟨_, rfl⟩, q⟩
  | int i => obtain ⟨t, rfl⟩ := ru; exact P.repr_of_int (of_decide_eq_true hsw) ⟨.str _, H, I.tok _, ⟨_, rfl⟩, q⟩
  | str y => obtain ⟨t, rfl⟩ := ru; exact P.repr_of_str ⟨.str _, H, I.tok _, ⟨_, rfl⟩, q⟩ hsz
  | lst h1 h2 =>
    cases ru
    exact repr_of_reads' rd hsw (PyData.noDict_hsm hnd) hG (by omega) (fun _ _ z => z) (fun h' u tk hk => ⟨.str _, H, I.kept hk, ⟨_, rfl⟩, q⟩) hsz
  | tup h1 h2 =>
    cases ru
    exact repr_of_reads' rd hsw (PyData.noDict_hsm hnd) hG (by omega) (fun _ _ z => z) (fun h' u tk hk => ⟨.str _, H, I.kept hk, ⟨_, rfl⟩, q⟩) hsz
def dRepr : List D → Option Bv
  | [d] => match toPy d with
    | some p => if SeqAt.shaped p = true ∧ p.showable = true ∧ p.shown.length ≤ sizeLine then some (.val (.str p.shown)) else none
    | none => none
  | _ => none
theorem ln_repr : LinkN K cl (rRepr K) dRepr := fun H S ds vs bv Q hs h w q => by
  unfold dRepr at w
  split at w
  · rename_i d
    split at w
    · rename_i p w1
      split at w
      · rename_i hh
        cases w
        obtain ⟨v, rfl, hv⟩ := p1 h
        exact ⟨v, p, rfl, dp_repB hs hv w1, hh.1, hh.2.1, hh.2.2, q _ H S (Gr.same hs) rfl⟩
      · cases w
    · cases w
  · cases w
/-! ### isinstance against built-in types -/
def D.tn : D → Option String
  | .non => some "NoneType"
  | .bl _ => some "bool"
  | .int _ => some "int"
  | .str _ => some "str"
  | .lst _ => some "list"
  | .fl _ => some "list"
  | .tup _ => some "tuple"
  | _ => none
theorem tn_rep (hs : Sub S H) {d : D} {v : V} {n : String} (h : RepB K cl H S d v) (e : d.tn = some n) : TyX K H v (.type n) := by
  cases d with
  | non => cases (show v = V.non from h); cases e; exact .base .non
  | bl b => cases (show v = V.bl b from h); cases e; exact .base (.bl b)
  | int i => cases (show v = V.int i from h); cases e; exact .base (.int i)
  | str x => cases (show v = V.str x from h); cases e; exact .base (.str x)
  | lst xs => cases e; obtain ⟨a, vs, rfl, h1, _⟩ := h; exact .base (.lst h1)
  | fl xs =>
    cases e
    obtain ⟨a, vs, rfl, h1, _⟩ := h
    rcases h1 with (h1 | ⟨o, h1⟩) | ⟨o, us, m, k1, k2, _⟩
    · exact .base (.lst h1)
    · exact .base (.frz h1)
    · exact .kList k1 k2
  | tup xs =>
    cases e
    obtain ⟨a, vs, rfl, h1, _⟩ := h
    rcases h1 with (h1 | ⟨o, h1⟩) | ⟨o, us, m, k1, k2, _⟩
    · exact .base (.tup (hs _ _ h1))
    · exact .fTuple (hs _ _ h1)
    · exact .kTuple k1 k2
  | _ => cases e
def dIsi : List D → Option Bv
  | [d, .ty n] => match d.tn with
    | some m => (kitB m n).map vB
    | none => none
  | _ => none
theorem ln_isi : LinkN K cl (rIsi K) dIsi := fun H S ds vs bv Q hs h w q => by
  unfold dIsi at w
  split at w
  · rename_i d n
    split at w
    · rename_i m w1
      obtain ⟨b, w2, w3⟩ := Option.map_eq_some_iff.mp w
      subst w3
      obtain ⟨v, u, rfl, hv, hu⟩ := p2 h
      cases (show u = V.ty n from hu)
      exact ⟨v, .ty n, .type m, .type n, b, rfl, .ty n, tn_rep hs hv w1, kit_ty w2, q _ H S (Gr.same hs) rfl⟩
    · cases w
  · cases w
/-! ### slices of lists and tuples -/
def cutD (xs : List D) (lo hi : Option Int) : List D := (xs.drop (HT.sIx xs.length 0 lo)).take (HT.sIx xs.length xs.length hi - HT.sIx xs.length 0 lo)
theorem cut_rep {ds : List D} {vs : List V} {lo hi : Option Int} (r : Reps K cl S ds vs) : Reps K cl S (cutD ds lo hi) (cutV vs lo hi) := by
  unfold cutD cutV
  rw [r.len]
  exact (r.drop _).take _
abbrev Pv := Env' → Option (Option Int × Env')
def pNone : Pv := fun env => some (none, env)
def pSome (f : Ev) : Pv := fun env => match fzn f env with
  | some (.val (.int i), e) => some (some i, e)
  | _ => none
def tP (K : PySem.W.Frag) (cl : Nat → Addr) (f : Pv) : TO := fun σ H Q => ∃ S env p env', SOk K cl σ H S env ∧ f env = some (p, env') ∧ ∀ H' S', SOk K cl σ H' S' env' → Fr σ env H S σ env' H' S' → Q p H'
theorem po_mono {eo : Option Expr} {t t' : TO} (h : PO X eo t) (w : ∀ σ H Q, t' σ H Q → t σ H Q) : PO X eo t' := ⟨fun pins s σ H Q I q => h.run pins s σ H Q I (w σ H Q q)⟩
theorem px_none : PO X none (tP X.K cl pNone) := po_mono po_none fun σ H Q ⟨S, env, p, env', s, w, q⟩ => by
  cases w
  exact q H S s .same
theorem px_some {g : Ev} (h : EX X cl e g) : PO X (some e) (tP X.K cl (pSome g)) := po_mono (po_some (ex_fzn h)) fun σ H Q ⟨S, env, p, env', s, w, q⟩ => by
  unfold pSome at w
  split at w
  · rename_i i e1 w1
    cases w
    exact ⟨S, env, _, _, s, w1, fun v H' S' s' f' b' => ⟨i, b', q H' S' s' f'⟩⟩
  · cases w
def dCut (d : D) (lo hi : Option Int) : Option Bv := match d with
  | .lst xs => some (.new (.lst (cutD xs lo hi)))
  | .fl xs => some (.new (.lst (cutD xs lo hi)))
  | .tup xs => some (.val (.tup (cutD xs lo hi)))
  | _ => none
def eSl (f : Ev) (fl fh : Pv) : Ev := fun env => match fzn f env with
  | some (b, e1) => match fl e1 with
    | some (lo, e2) => match fh e2 with
      | some (hi, e3) => match b.get e3 with
        | some d => (dCut d lo hi).map fun r => (r, e3)
        | none => none
      | none => none
    | none => none
  | none => none
theorem ex_slice {g : Ev} {fl fh : Pv} {lo hi : Option Expr} {p2 : Pos} (he : EX X cl e g) (hl : PO X lo (tP X.K cl fl)) (hh : PO X hi (tP X.K cl fh)) : EX X cl (.Subscript e (.Slice lo hi none p2) pos) (eSl g fl fh) :=
  pe_mono (pe_slice (sl_list.or sl_tupA) (ex_fzn he) hl hh) fun σ H Q ⟨S, env, bv, env', s, w, q⟩ => by
    unfold eSl at w
    split at w
    · rename_i b e1 w1
      split at w
      · rename_i lo e2 w2
        split at w
        · rename_i hi e3 w3
          split at w
          · rename_i d w4
            obtain ⟨r, w5, w6⟩ := Option.map_eq_some_iff.mp w
            cases w6
            refine tE_fzn s w1 fun v H1 S1 s1 f1 b1 => ⟨S1, e1, lo, e2, s1, w2, fun H2 S2 s2 f2 => ⟨S2, e2, hi, _, s2, w3, fun H3 S3 s3 f3 => ?_⟩⟩
            have f13 := (f1.trans f2).trans f3
            have rb := ((b1.mono f2.mono).mono f3.mono).get s3 w4
            have go : ∀ v H' S', Gr H3 S3 H' S' → BvN X.K cl H3 H' S' bv v → Q v H' := fun v H' S' gr bn => q v H' S' (s3.gr gr) (f13.trans (s3.fr gr)) (bn.ok s3 f13)
            unfold dCut at w5
            split at w5
            · cases w5
              obtain ⟨a, vs, rfl, hq, r⟩ := rb
              refine .inl ⟨a, vs, rfl, .of hq, fun l hl => ?_⟩
              obtain ⟨g, n⟩ := new_lst s3.sub hl (cut_rep r)
              exact go _ _ _ g n
            · cases w5
              obtain ⟨a, vs, rfl, hq, r⟩ := rb
              refine .inl ⟨a, vs, rfl, hq, fun l hl => ?_⟩
              obtain ⟨g, n⟩ := new_lst s3.sub hl (cut_rep r)
              exact go _ _ _ g n
            · cases w5
              obtain ⟨a, vs, rfl, hq, r⟩ := rb
              refine .inr ⟨a, vs, rfl, s3.sub.t hq, fun z => ?_, fun _ l hl => ?_⟩
              · refine go _ H3 S3 (Gr.same s3.sub) ⟨a, vs, rfl, hq, ?_⟩
                have e1 : cutV vs lo hi = vs := by
                  unfold cutV
                  rw [z.1, z.2]
                  simp
                have e2 := cut_rep (lo := lo) (hi := hi) r
                rw [e1] at e2
                exact e2
              · obtain ⟨g, n⟩ := new_tup s3.sub hl (cut_rep r)
                exact go _ _ _ g n
            · cases w5
          · cases w
        · cases w
      · cases w
    · cases w
/-- xs[::-1] of a list -/
def dRev : D → Option Bv
  | .lst xs => some (.new (.lst xs.reverse))
  | .fl xs => some (.new (.lst xs.reverse))
  | _ => none
theorem ex_rev {g : Ev} {k : Nat} {q1 q2 q3 : Pos} (he : EX X cl e g) : EX X cl (.Subscript e (.Slice none none (some (.UnaryOp .USub (.Constant (.int 1) k q1) q2)) q3) pos) (e1 dRev g) :=
  pe_mono (pe_revL (ex_fzn he)) fun σ H Q ⟨S, env, bv, env', s, w, q⟩ => by
    obtain ⟨b, d, w1, w2, w3⟩ := e1_some w
    refine tE_fzn s w1 fun v H1 S1 s1 f1 b1 => ?_
    have rb := b1.get s1 w2
    have go : ∀ v H' S', Gr H1 S1 H' S' → BvN X.K cl H1 H' S' bv v → Q v H' := fun v H' S' gr bn => q v H' S' (s1.gr gr) (f1.trans (s1.fr gr)) (bn.ok s1 f1)
    unfold dRev at w3
    split at w3
    · cases w3
      obtain ⟨a, vs, rfl, hq, r⟩ := rb
      refine ⟨a, vs, rfl, .of hq, fun l hl => ?_⟩
      obtain ⟨g, n⟩ := new_lst s1.sub hl r.rev
      exact go _ _ _ g n
    · cases w3
      obtain ⟨a, vs, rfl, hq, r⟩ := rb
      refine ⟨a, vs, rfl, hq, fun l hl => ?_⟩
      obtain ⟨g, n⟩ := new_lst s1.sub hl r.rev
      exact go _ _ _ g n
    · cases w3
/-! ### displays -/
def eLst (f : Evs) : Ev := fun env => match f env with
  | some (bs, e1) => match vals bs with
    | some ds => if ds.length ≤ sizeLine then some (.new (.lst ds), e1) else none
    | none => none
  | none => none
def eTup (f : Evs) : Ev := fun env => match f env with
  | some (bs, e1) => match vals bs with
    | some ds => if ds.length ≤ sizeLine then some (.val (.tup ds), e1) else none
    | none => none
  | none => none
theorem ex_lst (ha : AX X cl es f) : EX X cl (.List es pos) (eLst f) := pe_mono (pe_lst ha) fun σ H Q ⟨S, env, bv, env', s, w, q⟩ => by
  unfold eLst at w
  split at w
  · rename_i bs e1 w1
    split at w
    · rename_i ds w2
      split at w
      · rename_i hl
        cases w
        refine ⟨S, env, bs, _, s, w1, fun vs H1 S1 s1 f1 b1 => ?_⟩
        have r := vals_ok w2 b1
        refine ⟨by rw [← r.len]; exact hl, fun l hp => ?_⟩
        obtain ⟨g, n⟩ := new_lst s1.sub hp r
        exact q _ _ _ (s1.gr g) (f1.trans (s1.fr g)) (n.ok s1 f1)
      · cases w
    · cases w
  · cases w
theorem ex_tup {k : Nat} (ha : AX X cl es f) : EX X cl (.Tuple es k pos) (eTup f) := pe_mono (pe_tup ha) fun σ H Q ⟨S, env, bv, env', s, w, q⟩ => by
  unfold eTup at w
  split at w
  · rename_i bs e1 w1
    split at w
    · rename_i ds w2
      split at w
      · rename_i hl
        cases w
        refine ⟨S, env, bs, _, s, w1, fun vs H1 S1 s1 f1 b1 => ?_⟩
        have r := vals_ok w2 b1
        refine ⟨by rw [← r.len]; exact hl, fun l hp => ?_⟩
        obtain ⟨g, n⟩ := new_tup s1.sub hp r
        exact q _ _ _ (s1.gr g) (f1.trans (s1.fr g)) (n.ok s1 f1)
      · cases w
    · cases w
  · cases w
/-! ### methods of lists -/
/-- xs.append(e), as a statement -/
def isLst (env : Env') (i : Nat) : Bool := match env[i]? with
  | some (.own (.lst _)) => true
  | some (.par (.lst _)) => true
  | _ => false
theorem isLst_at {σ : L2.St} {env : Env'} {i : Nat} (s : SOk K cl σ H S env) (h : isLst env i = true) : ∃ a vs, σ[i]? = some (some (.ref a)) ∧ H a = some (.lst vs) := by
  unfold isLst at h
  split at h
  · rename_i xs e
    obtain ⟨a, e1, _, vs, h1, _⟩ := s.own i _ _ e rfl
    exact ⟨a, vs, e1, h1⟩
  · rename_i xs e
    obtain ⟨a, e1, _, vs, h1, _⟩ := s.own i _ _ e rfl
    exact ⟨a, vs, e1, h1⟩
  · cases h
def sApp (i : Nat) (f : Ev) : Sm := fun env => match isLst env i, fz f env with
  | true, some (.val d, e1) => match (e1[i]? : Option Sl) with
    | some (.own (.lst xs)) => if xs.length < sizeLine then some (.nx, e1.set i (.own (.lst (xs ++ [d])))) else none
    | some (.par (.lst xs)) => if xs.length < sizeLine then some (.nx, e1.set i (.par (.lst (xs ++ [d])))) else none
    | _ => none
  | _, _ => none
theorem sx_app {i : Nat} {o : Expr} {fe : Ev} {apos cpos : Pos} (ho : PE X o (tVar i)) (he : EX X cl e fe) (hbase : attributeBase o "append" X.env (eval o X.env) = eval o X.env := by rfl)
    (hfew : ((backTo cpos (starEach [e] X.env)).all (fun x => !x.1) && (backToKw cpos (keywordEach [] X.env)).all (fun x => x.1.isSome) && decide ([e].length + ([] : List Keyword).length + (if ([] : List Keyword).isEmpty then 0 else 1) < 30)) = true := by rfl)
    (hline : (apos.endLine == cpos.line) = true := by rfl) (hs : starEach [e] X.env = (false, eval e X.env) :: starEach [] X.env := by rfl) (hpl : (backTo cpos (starEach [] X.env)).any (·.1) = false := by rfl)
    (hsw : swapsWith (.Call (.Attribute o "append" apos) [e] [] cpos) none pos.line X.env = pure false := by rfl) : SX X cl (.Expr (.Call (.Attribute o "append" apos) [e] [] cpos) pos) (sApp i fe) :=
  ps_mono (ps_expr (pe_bm PySem.F.plainAttrs_list PySem.F.slot_list_append PySem.F.type_list_append mt_append ho (pa_cons (ex_fz he) pa_nil hs) hbase hfew hline hs hpl) hsw) fun D σ H ⟨S, env, o, env', s, w, p⟩ => by
    unfold sApp at w
    split at w
    · rename_i d e1 w0 w1
      obtain ⟨a, vs0, ea, h0⟩ := isLst_at s w0
      refine ⟨.ref a, ea, .inl ⟨rfl, vs0, .of h0⟩, S, env, _, e1, s, w1, fun v H1 S1 s1 f1 b1 => ?_⟩
      split at w
      · rename_i xs e2
        split at w
        · rename_i hl
          cases w
          obtain ⟨b, e3, hS, vs, hv, r⟩ := s1.own i _ _ e2 rfl
          rw [ea] at e3
          cases e3
          obtain ⟨z1, z2⟩ := s1.mutate (m' := .lst (xs ++ [d])) (o := .lst (vs ++ [v])) e2 rfl ea ⟨hS, _, upd_same, r.append (Reps.one b1)⟩
          exact ⟨a, vs, v, rfl, rfl, hv, by rw [← r.len]; exact hl, p σ _ S1 z1 (f1.trans z2)⟩
        · cases w
      · rename_i xs e2
        split at w
        · rename_i hl
          cases w
          obtain ⟨b, e3, hS, vs, hv, r⟩ := s1.own i _ _ e2 rfl
          rw [ea] at e3
          cases e3
          obtain ⟨z1, z2⟩ := s1.mutate (m' := .lst (xs ++ [d])) (o := .lst (vs ++ [v])) e2 rfl ea ⟨hS, _, upd_same, r.append (Reps.one b1)⟩
          exact ⟨a, vs, v, rfl, rfl, hv, by rw [← r.len]; exact hl, p σ _ S1 z1 (f1.trans z2)⟩
        · cases w
      · cases w
    · cases w
end
end VL

set_option Elab.async false
set_option linter.all false
set_option maxRecDepth 100000
set_option maxHeartbeats 1000000
/-! VLm: several names at once; fields, new instances, methods of own classes; globals; list.index. -/
namespace VL
open PySem PySem.Spec PyProof.Rows L2
section
variable {K : PySem.W.Frag} {cl : Nat → Addr} {X : Cx} {σ σ1 σ' : L2.St} {H S H1 S1 H' S' : Hp} {env env1 env' : Env'} {pos : Pos} {σ0 : L2.St} {env0 : Env'} {H0 S0 : Hp}
theorem BvR.through {b : Bv} {v : V} (r : BvR K cl σ0 env0 H0 σ env H S b v) (f : Fr σ env H S σ' env' H' S') : BvR K cl σ0 env0 H0 σ' env' H' S' b v := by
  cases b with
  | val d => exact Rep.mono f.mono r
  | slot i => exact r
  | new m =>
    obtain ⟨a, e, o, n, w⟩ := r
    obtain ⟨o', n'⟩ := o.through n f
    exact ⟨a, e, o', n', w⟩
theorem BvR.from {b : Bv} {v : V} (f : Fr σ0 env0 H0 S0 σ1 env1 H1 S1) (r : BvR K cl σ1 env1 H1 σ env H S b v) : BvR K cl σ0 env0 H0 σ env H S b v := by
  cases b with
  | val d => exact r
  | slot i => exact r
  | new m =>
    obtain ⟨a, e, o, n, w⟩ := r
    exact ⟨a, e, o, n, f.origin w⟩
def Bv.isNew : Bv → Bool
  | .new _ => true
  | _ => false
def BvRs (K : PySem.W.Frag) (cl : Nat → Addr) (σ0 : L2.St) (env0 : Env') (H0 : Hp) (σ : L2.St) (env : Env') (H S : Hp) : List Bv → List V → Prop
  | [], vs => vs = []
  | b :: bs, vs => ∃ v us, vs = v :: us ∧ BvR K cl σ0 env0 H0 σ env H S b v ∧ BvRs K cl σ0 env0 H0 σ env H S bs us ∧ (b.isNew = true → ∀ c u, (c, u) ∈ bs.zip us → c.isNew = true → u ≠ v)
theorem BvRs.through : ∀ {bs : List Bv} {vs : List V}, BvRs K cl σ0 env0 H0 σ env H S bs vs → Fr σ env H S σ' env' H' S' → BvRs K cl σ0 env0 H0 σ' env' H' S' bs vs
  | [], _, h, _ => h
  | _ :: _, _, ⟨v, us, e, r, rs, n⟩, f => ⟨v, us, e, r.through f, rs.through f, n⟩
theorem BvRs.from : ∀ {bs : List Bv} {vs : List V}, Fr σ0 env0 H0 S0 σ1 env1 H1 S1 → BvRs K cl σ1 env1 H1 σ env H S bs vs → BvRs K cl σ0 env0 H0 σ env H S bs vs
  | [], _, _, h => h
  | _ :: _, _, f, ⟨v, us, e, r, rs, n⟩ => ⟨v, us, e, r.from f, rs.from f, n⟩
theorem BvRs.new_at : ∀ {bs : List Bv} {vs : List V}, BvRs K cl σ0 env0 H0 σ env H S bs vs → ∀ c u, (c, u) ∈ bs.zip vs → c.isNew = true → ∃ a, u = .ref a ∧ (Owned σ0 env0 a ∨ H0 a = none)
  | [], _, h, c, u, hm, _ => by simp at hm
  | b :: bs, _, ⟨v, us, e, r, rs, n⟩, c, u, hm, hc => by
    subst e
    rcases List.mem_cons.mp (show (c, u) ∈ (b, v) :: bs.zip us from hm) with z | z
    · cases z
      cases b with
      | new m => obtain ⟨a, e, _, _, w⟩ := r; exact ⟨a, e, w⟩
      | val d => cases hc
      | slot i => cases hc
    · exact rs.new_at c u z hc
/-- the values of several expressions, new objects apart -/
def sNil : Evs := fun env => some ([], env)
def sCons (f : Ev) (r : Evs) : Evs := fun env => match fzs f env with
  | some (b, env1) => (r env1).map fun p => (b :: p.1, p.2)
  | none => none
def tAsS (K : PySem.W.Frag) (cl : Nat → Addr) (f : Evs) : TA := fun σ H Q => ∃ S env bs env', SOk K cl σ H S env ∧ f env = some (bs, env') ∧
  ∀ vs H' S', SOk K cl σ H' S' env' → Fr σ env H S σ env' H' S' → BvRs K cl σ env H σ env' H' S' bs vs → Q vs H'
abbrev AS (X : Cx) (cl : Nat → Addr) (es : List Expr) (f : Evs) : Prop := PA X es (tAsS X.K cl f)
theorem as_nil : AS X cl [] sNil := pa_mono pa_nil fun σ H Q ⟨S, env, bs, env', s, w, q⟩ => by
  cases w
  exact q [] H S s .same rfl
theorem as_cons {e : Expr} {es : List Expr} {f : Ev} {r : Evs} (h : EX X cl e f) (hr : AS X cl es r) (hs : starEach (e :: es) X.env = (false, eval e X.env) :: starEach es X.env := by rfl) : AS X cl (e :: es) (sCons f r) :=
  pa_mono (pa_cons (ex_fzs h) hr hs) fun σ H Q ⟨S, env, bs, env', s, w, q⟩ => by
    unfold sCons at w
    split at w
    · rename_i b e1 w1
      obtain ⟨pr, w2, w3⟩ := Option.map_eq_some_iff.mp w
      obtain ⟨cs, e2⟩ := pr
      cases w3
      refine ⟨S, env, b, e1, s, w1, fun v H1 S1 s1 f1 b1 => ⟨S1, e1, cs, _, s1, w2, fun vs H2 S2 s2 f2 b2 => ?_⟩⟩
      have r1 := b1.r fun j z => by subst z; exact fzs_noslot w1
      refine q (v :: vs) H2 S2 s2 (f1.trans f2) ⟨v, vs, rfl, r1.through f2, b2.from f1, fun hb c u hm hc => ?_⟩
      obtain ⟨a, ea, wa⟩ := b2.new_at c u hm hc
      cases b with
      | new m =>
        obtain ⟨a', ea', oa', na', _⟩ := r1
        rintro rfl
        rw [ea] at ea'
        cases ea'
        obtain ⟨o, ho⟩ := oa'.there
        rcases wa with z | z
        · exact na' z
        · rw [ho] at z; cases z
      | val d => cases hb
      | slot i => cases hb
    · cases w
def putAll : List Nat → List Bv → Env' → Option Env'
  | [], [], env => some env
  | i :: is, b :: bs, env => match put i b env with
    | some e => putAll is bs e
    | none => none
  | _, _, _ => none
def setAll : List Nat → List V → L2.St → L2.St
  | i :: is, v :: vs, σ => setAll is vs (σ.set i (some v))
  | _, _, σ => σ
theorem put_owned {i : Nat} {b : Bv} {v : V} {x : Addr} (w : put i b env = some env') (h : Owned (σ.set i (some v)) env' x) : (v = .ref x ∧ b.isNew = true) ∨ Owned σ env x := by
  unfold put at w
  split at w
  · cases b with
    | val d =>
      cases w
      rcases h.of_set with ⟨_, z⟩ | z
      · cases z
      · exact .inr z
    | new m =>
      cases w
      rcases h.of_set with ⟨z, _⟩ | z
      · cases z; exact .inl ⟨rfl, rfl⟩
      · exact .inr z
    | slot j => cases w
  · cases w
theorem BvRs.put {i : Nat} {b : Bv} {v : V} (w : put i b env = some env') (hn : b.isNew = true → ∀ c u, (c, u) ∈ ([] : List (Bv × V)) → True) : ∀ {bs : List Bv} {vs : List V}, BvRs K cl σ0 env0 H0 σ env H S bs vs → (b.isNew = true → ∀ c u, (c, u) ∈ bs.zip vs → c.isNew = true → u ≠ v) → BvRs K cl σ0 env0 H0 (σ.set i (some v)) env' H S bs vs
  | [], _, h, _ => h
  | c :: bs, _, ⟨u, us, e, r, rs, n⟩, hd => by
    subst e
    refine ⟨u, us, rfl, ?_, rs.put w (fun _ _ _ _ => trivial) (fun hb c' u' hm hc => hd hb c' u' (List.mem_cons_of_mem _ hm) hc), n⟩
    cases c with
    | val d => exact r
    | slot j => exact r
    | new m =>
      obtain ⟨a, e, o, na, wa⟩ := r
      refine ⟨a, e, o, fun z => ?_, wa⟩
      rcases put_owned w z with ⟨z1, z2⟩ | z
      · exact hd z2 (.new m) u (List.mem_cons_self) rfl (e.trans z1.symm)
      · exact na z
theorem putAll_ok : ∀ {is : List Nat} {bs : List Bv} {vs : List V} {σ : L2.St} {env env' : Env'}, SOk K cl σ H S env → Fr σ0 env0 H0 S0 σ env H S → putAll is bs env = some env' → BvRs K cl σ0 env0 H0 σ env H S bs vs →
    SOk K cl (setAll is vs σ) H S env' ∧ Fr σ0 env0 H0 S0 (setAll is vs σ) env' H S ∧ vs.length = is.length
  | [], [], _, _, _, _, s, f, w, r => by cases (show _ = [] from r); cases w; exact ⟨s, f, rfl⟩
  | [], _ :: _, _, _, _, _, _, _, w, _ => by cases w
  | _ :: _, [], _, _, _, _, _, _, w, _ => by cases w
  | i :: is, b :: bs, _, σ, env, env', s, f, w, ⟨v, us, e, r, rs, n⟩ => by
    subst e
    have w' : (match put i b env with | some e => putAll is bs e | none => none) = some env' := w
    split at w'
    · rename_i e1 w1
      obtain ⟨s1, f1⟩ := put_ok s f w1 r
      obtain ⟨a1, a2, a3⟩ := putAll_ok s1 f1 w' (rs.put w1 (fun _ _ _ _ => trivial) n)
      exact ⟨a1, a2, by rw [List.length_cons, List.length_cons, a3]⟩
    · cases w'
def sPar (is : List Nat) (f : Evs) : Sm := fun env => match f env with
  | some (bs, e1) => (putAll is bs e1).map fun e => (.nx, e)
  | none => none
theorem t_par {is : List Nat} {f : Evs} {D : Ends} (h : tSm K cl (sPar is f) D σ H) : tAsS K cl f σ H fun vs H1 => vs.length = is.length ∧ D.nx (setAll is vs σ) H1 := by
  obtain ⟨S, env, o, env', s, w, p⟩ := h
  unfold sPar at w
  split at w
  · rename_i bs e1 w1
    obtain ⟨e2, w2, w3⟩ := Option.map_eq_some_iff.mp w
    cases w3
    refine ⟨S, env, bs, e1, s, w1, fun vs H1 S1 s1 f1 b1 => ?_⟩
    obtain ⟨a1, a2, a3⟩ := putAll_ok s1 f1 w2 b1
    exact ⟨a3, p _ H1 S1 a1 a2⟩
  · cases w
theorem sx_par2 {i j : Nat} {x y : Str} {a b : Expr} {f : Evs} {px py pt : Pos} {kt k2 pt2} (hc : X.calm = true) (hN : X.N.Nodup) (hi : X.N[i]? = some x) (hj : X.N[j]? = some y) (hij : i ≠ j) (hx : X.env.scope.names.lookup x = some .local) (hy : X.env.scope.names.lookup y = some .local)
    (ha : AS X cl [a, b] f) (hw : swappedStores [.Tuple [.Name x px, .Name y py] kt pt] (.Tuple [a, b] k2 pt2) X.env = pure (some [x, y]))
    (hs : swapsWithSole [.Tuple [.Name x px, .Name y py] kt pt] (.Tuple [a, b] k2 pt2) pos.line X.env = pure false := by rfl) :
    SX X cl (.Assign [.Tuple [.Name x px, .Name y py] kt pt] (.Tuple [a, b] k2 pt2) pos) (sPar [i, j] f) :=
  ps_mono (ps_par hc hN hi hj hij hx hy ha hw hs) fun D σ H h => by
    obtain ⟨S, env, bs, env', s, w, q⟩ := t_par h
    refine ⟨S, env, bs, env', s, w, fun vs H1 S1 s1 f1 b1 => ?_⟩
    obtain ⟨l, z⟩ := q vs H1 S1 s1 f1 b1
    match vs, l, z with
    | [v, u], _, z => exact ⟨v, u, rfl, z⟩
theorem sx_par3 {i j l : Nat} {x y z : Str} {a b c : Expr} {f : Evs} {px py pz pt : Pos} {kt k2 pt2} (hc : X.calm = true) (hN : X.N.Nodup) (hi : X.N[i]? = some x) (hj : X.N[j]? = some y) (hl : X.N[l]? = some z) (hij : i ≠ j) (hil : i ≠ l) (hjl : j ≠ l)
    (hx : X.env.scope.names.lookup x = some .local) (hy : X.env.scope.names.lookup y = some .local) (hz : X.env.scope.names.lookup z = some .local)
    (ha : AS X cl [a, b, c] f) (hw : swappedStores [.Tuple [.Name x px, .Name y py, .Name z pz] kt pt] (.Tuple [a, b, c] k2 pt2) X.env = pure (some [x, y, z]))
    (hs : swapsWithSole [.Tuple [.Name x px, .Name y py, .Name z pz] kt pt] (.Tuple [a, b, c] k2 pt2) pos.line X.env = pure false := by rfl) :
    SX X cl (.Assign [.Tuple [.Name x px, .Name y py, .Name z pz] kt pt] (.Tuple [a, b, c] k2 pt2) pos) (sPar [i, j, l] f) :=
  ps_mono (ps_par3 hc hN hi hj hl hij hil hjl hx hy hz ha hw hs) fun D σ H h => by
    obtain ⟨S, env, bs, env', s, w, q⟩ := t_par h
    refine ⟨S, env, bs, env', s, w, fun vs H1 S1 s1 f1 b1 => ?_⟩
    obtain ⟨l, z⟩ := q vs H1 S1 s1 f1 b1
    match vs, l, z with
    | [v, u, t], _, z => exact ⟨v, u, t, rfl, z⟩
/-- the same by a tuple that is made and taken apart -/
def gNames : List Nat → TGs
  | [] => gNil
  | i :: is => gCons (gName i) (gNames is)
theorem gNames_go : ∀ {is : List Nat} {vs : List V} {σ : L2.St} {Q : L2.St → Hp → Prop}, vs.length = is.length → Q (setAll is vs σ) H → gNames is vs σ H Q
  | [], [], _, _, _, q => ⟨rfl, q⟩
  | [], _ :: _, _, _, h, _ => by cases h
  | _ :: _, [], _, _, h, _ => by cases h
  | i :: is, v :: vs, σ, Q, h, q => ⟨v, vs, rfl, gNames_go (Nat.succ.inj h) q⟩
theorem sx_parT {ts es : List Expr} {is : List Nat} {f : Evs} {k1 k2 : Nat} {pt pt2 : Pos} (hc : X.calm = true) (ha : AS X cl es f) (hg : PGs X ts (gNames is)) (hlen : es.length = is.length) (hsz : is.length ≤ 1000)
    (hn : (assignEach ts X.env).length = is.length := by rfl) (hst : (assignEach ts X.env).findIdx? (·.1) = none := by rfl)
    (hs : swapsWithSole [.Tuple ts k1 pt] (.Tuple es k2 pt2) pos.line X.env = pure false := by rfl) (hw : swappedStores [.Tuple ts k1 pt] (.Tuple es k2 pt2) X.env = pure none := by rfl)
    (h1 : (assignEach [.Tuple ts k1 pt] X.env).map (·.2) = [assign (.Tuple ts k1 pt) X.env] := by rfl) : SX X cl (.Assign [.Tuple ts k1 pt] (.Tuple es k2 pt2) pos) (sPar is f) :=
  ps_mono (ps_asg (pe_tup ha) (pg_tup (n := is.length) hc hg hn hst) hs hw h1) fun D σ H ⟨S, env, o, env', s, w, p⟩ => by
    unfold sPar at w
    split at w
    · rename_i bs e1 w1
      obtain ⟨e2, w2, w3⟩ := Option.map_eq_some_iff.mp w
      cases w3
      refine ⟨S, env, bs, e1, s, w1, fun vs H1 S1 s1 f1 b1 => ?_⟩
      obtain ⟨_, _, l0⟩ := putAll_ok s1 f1 w2 b1
      refine ⟨Nat.le_of_lt (Nat.lt_of_le_of_lt (by omega) (show 1000 < sizeLine by decide)), fun a hp => ?_⟩
      have h0 : S1 a = none := by
        cases q : S1 a with
        | none => rfl
        | some o => rw [s1.sub a o q] at hp; cases hp
      have g : Gr H1 S1 (upd H1 a (.tup vs)) S1 := ⟨Sub.upd hp, Sub.rfl', s1.sub.comp (Sub.upd hp), fun _ _ _ h => h⟩
      obtain ⟨a1, a2, a3⟩ := putAll_ok (s1.gr g) (f1.trans (s1.fr g)) w2 (b1.through (s1.fr g))
      exact ⟨a, vs, rfl, .of upd_same, a3, gNames_go a3 (p _ _ _ a1 a2)⟩
    · cases w
/-! ### globals -/
theorem ex_glob {x : Str} {d : D} {v : V} {u : Value} (hg : Gl X x) (hm : X.mg x = some u) (r : RelV v u) (rd : ∀ S, Rep X.K cl S d v) (hd : (x == ("__debug__" : Str)) = false := by decide) : EX X cl (.Name x pos) (fC d) := ex_of_c (pe_glob hg hm r hd) rd
theorem ex_tyname {x : Str} {n : String} (hg : Gl X x) (hm : X.mg x = none) (hv : bootBuiltins x = some (.type n)) (hn : x ≠ "__name__" := by decide) (hd : (x == ("__debug__" : Str)) = false := by decide) : EX X cl (.Name x pos) (fC (.ty n)) :=
  ex_of_c (pe_bltn (v := .ty n) hg hm hv rfl hn hd) fun _ => rfl
theorem ex_int {i : Int} {j : Nat} : EX X cl (.Constant (.int i) j pos) (fC (.int i)) := ex_of_c pe_int fun _ => rfl
theorem ex_bl {i : Bool} {j : Nat} : EX X cl (.Constant (.bool i) j pos) (fC (.bl i)) := ex_of_c pe_bl fun _ => rfl
theorem ex_non {j : Nat} : EX X cl (.Constant .none j pos) (fC .non) := ex_of_c pe_non fun _ => rfl
theorem ex_str {x : Str} {j : Nat} : EX X cl (.Constant (.str x) j pos) (fC (.str x)) := ex_of_c pe_str fun _ => rfl
/-! ### own classes -/
/-- what the head says of a class: its tag, its address -/
structure ClsOk (K : PySem.W.Frag) (C : Addr) (fs : List Str) : Prop where
  c : Cls K C
  noat : ∀ f ∈ fs, NoAttr K C f
def eFld (c : Nat) (x : Str) (f : Ev) : Ev := e1 (fun d => match d with
  | .ins c' fs => if c' = c then (fs.lookup x).map .val else none
  | _ => none) f
theorem ex_fld {c : Nat} {x : Str} {e : Expr} {fe : Ev} (hC : Cls X.K (cl c)) (hn : NoAttr X.K (cl c) x) (he : EX X cl e fe) (hb : attributeBase e x X.env (eval e X.env) = eval e X.env := by rfl) : EX X cl (.Attribute e x pos) (eFld c x fe) :=
  pe_mono (pe_fld (ex_fzn he) hb) fun σ H Q ⟨S, env, bv, env', s, w, q⟩ => by
    obtain ⟨b, d, w1, w2, w3⟩ := e1_some w
    refine tE_fzn s w1 fun v H1 S1 s1 f1 b1 => ?_
    have rb := b1.get s1 w2
    split at w3
    · rename_i c' fs
      split at w3
      · rename_i hc
        subst hc
        obtain ⟨y, w4, w5⟩ := Option.map_eq_some_iff.mp w3
        subst w5
        obtain ⟨a, dx, gs, rfl, ha, r⟩ := rb
        obtain ⟨z, z1, z2⟩ := r.look w4
        exact ⟨a, _, dx, gs, z, rfl, ha, hC, hn, z1, q z H1 S1 s1 f1 z2⟩
      · cases w3
    · cases w3
/-- self.x = e, self an instance that is being made (slot i) -/
def sFldS (c : Nat) (i : Nat) (x : Str) (f : Ev) : Sm := fun env => match fz f env with
  | some (.val d, e1) => match (e1[i]? : Option Sl) with
    | some (.own (.ins c' fs)) => if c' = c ∧ fs.length < 1000 then some (.nx, e1.set i (.own (.ins c' (putD x d fs)))) else none
    | some (.par (.ins c' fs)) => if c' = c ∧ fs.length < 1000 then some (.nx, e1.set i (.par (.ins c' (putD x d fs)))) else none
    | _ => none
  | _ => none
theorem sx_fld {c i : Nat} {x : Str} {o e : Expr} {fe : Ev} {p' : Pos} (hC : Cls X.K (cl c)) (hn : NoAttr X.K (cl c) x) (ho : PE X o (tVar i)) (he : EX X cl e fe) (hs : swapsWith e (some (.Attribute o x p')) pos.line X.env = pure false := by rfl) :
    SX X cl (.Assign [.Attribute o x p'] e pos) (sFldS c i x fe) := ps_mono (ps_fld ho (ex_fz he) hs) fun D σ H ⟨S, env, out, env', s, w, p⟩ => by
  unfold sFldS at w
  split at w
  · rename_i d e1 w1
    refine ⟨S, env, _, e1, s, w1, fun v H1 S1 s1 f1 b1 => ?_⟩
    split at w
    · rename_i c' fs e2
      split at w
      · rename_i hc
        obtain ⟨rfl, hl⟩ := hc
        cases w
        obtain ⟨a, ea, hS, dx, gs, hv, r⟩ := s1.own i _ _ e2 rfl
        obtain ⟨z1, z2⟩ := s1.mutate (m' := .ins c' (putD x d fs)) (o := .ins (cl c') dx (putF x v gs)) e2 rfl ea ⟨hS, dx, _, upd_same, r.put b1⟩
        exact ⟨.ref a, ea, a, _, dx, gs, rfl, hv, hC, hn, by rw [← r.len]; exact hl, p σ _ S1 z1 (f1.trans z2)⟩
      · cases w
    · rename_i c' fs e2
      split at w
      · rename_i hc
        obtain ⟨rfl, hl⟩ := hc
        cases w
        obtain ⟨a, ea, hS, dx, gs, hv, r⟩ := s1.own i _ _ e2 rfl
        obtain ⟨z1, z2⟩ := s1.mutate (m' := .ins c' (putD x d fs)) (o := .ins (cl c') dx (putF x v gs)) e2 rfl ea ⟨hS, dx, _, upd_same, r.put b1⟩
        exact ⟨.ref a, ea, a, _, dx, gs, rfl, hv, hC, hn, by rw [← r.len]; exact hl, p σ _ S1 z1 (f1.trans z2)⟩
      · cases w
    · cases w
  · cases w
/-- C(..) -/
def eMk (c : Nat) (M : MO → List D → Option (Bv × MO)) (f : Evs) : Ev := fun env => match f env with
  | some (bs, e1) => match vals bs with
    | some ds => match M (.ins c []) ds with
      | some (.val .non, m') => some (.new m', e1)
      | _ => none
    | none => none
  | none => none
theorem t_mk {c n : Nat} {M : MO → List D → Option (Bv × MO)} {f : Evs} {Q : VK} (hn : ∀ m ds r, M m ds = some r → ds.length + 1 = n) (h : tE K cl (eMk c M f) σ H Q) : tMake (cl c) (spI K cl n M) [] E0 (tAs K cl f) σ H Q := by
  obtain ⟨S, env, bv, env', s, w, q⟩ := h
  unfold eMk at w
  split at w
  · rename_i bs e1 w1
    split at w
    · rename_i ds w2
      split at w
      · rename_i m' w3
        cases w
        refine ⟨S, env, bs, _, s, w1, fun vs H1 S1 s1 f1 b1 x dx hx hdx hne => ?_⟩
        have rs := vals_ok w2 b1
        have free : ∀ a, H1 a = none → S1 a = none := fun a ha => by
          cases z : S1 a with
          | none => rfl
          | some o => rw [s1.sub a o z] at ha; cases ha
        have hx2 : upd H1 dx (.own x) x = none := by rw [upd_ne (Ne.symm hne)]; exact hx
        have sub2 : Sub H1 (upd (upd H1 dx (.own x)) x (.ins (cl c) dx [])) := (Sub.upd hdx).comp (Sub.upd hx2)
        refine ⟨by rw [List.append_nil, List.length_cons, ← rs.len]; exact hn _ ds _ w3, x, vs, S1, .ins c [], ds, _, m', by rw [List.append_nil], s1.sub.comp sub2, ⟨free x hx, dx, [], upd_same, rfl⟩, rs, w3, fun v H' S' gx oa bn => ?_⟩
        refine ⟨bn, ?_⟩
        have gr : Gr H1 S1 H' S' := ⟨fun b o h => gx.keep b o (sub2 b o h) (fun z => by subst z; rw [hx] at h; cases h), gx.mono, gx.sub, fun b o h h2 => gx.priv b o (sub2 b o h) h2 (fun z => by subst z; rw [hx] at h; cases h)⟩
        exact q (.ref x) H' S' (s1.gr gr) (f1.trans (s1.fr gr)) (BvN.ok (bv := .new m') ⟨x, rfl, oa, hx⟩ s1 f1)
      · cases w
    · cases w
  · cases w
theorem ex_mk {c n k : Nat} {f : Addr} {fd : FuncData} {ps : List Str} {M : MO → List D → Option (Bv × MO)} {fa : Evs} {x : Str} {p : Pos} {e : Expr} {es : List Expr} (Mc : Mk X.K (cl c) f) (F : FnOk X.prog X.w X.K X.mg X.base CX0 k f fd ps (spI X.K cl n M)) (hn : ∀ m ds r, M m ds = some r → ds.length + 1 = n) (hr : Room (k + 1) X.A) (hg : Gl X x) (hm : X.mg x = some (.ref (cl c))) (hb : Binds X.K fd ps [])
    (ha : AX X cl (e :: es) fa) (hdb : (x == ("__debug__" : Str)) = false := by decide) (he : starEach (e :: es) X.env = (false, eval e X.env) :: starEach es X.env := by rfl) (hpl : (backTo pos (starEach es X.env)).any (·.1) = false := by rfl) : EX X cl (.Call (.Name x p) (e :: es) [] pos) (eMk c M fa) :=
  pe_mono (pe_make Mc F hr hg hm hb .nil pass0 ha hdb he hpl) fun _ _ _ h => t_mk hn h
/-- o.m(..), the object let stay -/
def eMeth (c : Nat) (x : Str) (M : List D → Option Bv) (fo : Ev) (f : Evs) : Ev := fun env => match fz fo env with
  | some (.val (.ins c' fs), e1) => if c' = c ∧ fs.lookup x = none then match f e1 with
      | some (bs, e2) => match vals bs with
        | some ds => (M (.ins c' fs :: ds)).map fun r => (r, e2)
        | none => none
      | none => none
    else none
  | _ => none
theorem t_meth {c n : Nat} {x : Str} {M : List D → Option Bv} {fo : Ev} {f : Evs} {Q : VK} (hn : ∀ ds bv, M ds = some bv → ds.length = n) (h : tE K cl (eMeth c x M fo f) σ H Q) : tMeth (cl c) x (spV K cl n M) [] E0 (tE K cl (fz fo)) (tAs K cl f) σ H Q := by
  obtain ⟨S, env, bv, env', s, w, q⟩ := h
  unfold eMeth at w
  split at w
  · rename_i c' fs e1 w1
    split at w
    · rename_i hc
      obtain ⟨rfl, hl⟩ := hc
      split at w
      · rename_i bs e2 w2
        split at w
        · rename_i ds w3
          obtain ⟨r, w4, w5⟩ := Option.map_eq_some_iff.mp w
          cases w5
          refine ⟨S, env, _, e1, s, w1, fun v H1 S1 s1 f1 b1 => ?_⟩
          obtain ⟨a, dx, gs, rfl, ha, rg⟩ := b1
          refine ⟨a, dx, gs, rfl, s1.sub _ _ ha, rg.look0 hl, S1, e1, bs, _, s1, w2, fun vs H2 S2 s2 f2 b2 => ?_⟩
          have rs := vals_ok w3 b2
          have r0 : Reps K cl S2 (.ins c' fs :: ds) (V.ref a :: vs) := ⟨_, _, rfl, Rep.mono f2.mono (d := .ins c' fs) ⟨a, dx, gs, rfl, ha, rg⟩, rs⟩
          have f12 := f1.trans f2
          exact ⟨by rw [List.append_nil, ← r0.len]; exact hn _ _ w4, S2, _, _, s2.sub, by rw [List.append_nil]; exact r0, w4, fun v H' S' gr bn => q v H' S' (s2.gr gr) (f12.trans (s2.fr gr)) (bn.ok s2 f12)⟩
        · cases w
      · cases w
    · cases w
  · cases w
section
variable {c n k : Nat} {x : Str} {f : Addr} {fd : FuncData} {ps : List Str} {M : List D → Option Bv} {fo : Ev} {fa : Evs} {o e : Expr} {es : List Expr} {apos : Pos} {pl : Sem Bool}
theorem ex_meth (hC : Cls X.K (cl c)) (hm : Meth X.K (cl c) x f) (F : FnOk X.prog X.w X.K X.mg X.base CX0 k f fd ps (spV X.K cl n M)) (hn : ∀ ds bv, M ds = some bv → ds.length = n) (hr : Room k X.A) (hb : Binds X.K fd ps []) (he : EX X cl o fo) (ha : AX X cl (e :: es) fa)
    (hst : starEach (e :: es) X.env = (false, eval e X.env) :: starEach es X.env := by rfl) (hpl : (backTo pos (starEach es X.env)).any (·.1) = false := by rfl)
    (ht : eval (.Call (.Attribute o x apos) (e :: es) [] pos) X.env = (do
      let ov ← eval o X.env
      standAt apos.atName
      let (f, first) ← holding [ov] (getMethod ov x pl)
      callWith pos f first (backTo pos (starEach (e :: es) X.env)) (backToKw pos (keywordEach [] X.env))) := by rfl) : EX X cl (.Call (.Attribute o x apos) (e :: es) [] pos) (eMeth c x M fo fa) :=
  pe_mono (pe_meth (ex_fz he) hC hm F hr hb .nil pass0 ha hst hpl ht) fun _ _ _ h => t_meth hn h
theorem ex_meth0 (hC : Cls X.K (cl c)) (hm : Meth X.K (cl c) x f) (F : FnOk X.prog X.w X.K X.mg X.base CX0 k f fd ps (spV X.K cl n M)) (hn : ∀ ds bv, M ds = some bv → ds.length = n) (hr : Room k X.A) (hb : Binds X.K fd ps []) (he : EX X cl o fo)
    (ht : eval (.Call (.Attribute o x apos) [] [] pos) X.env = (do
      let ov ← eval o X.env
      standAt apos.atName
      let (f, first) ← holding [ov] (getMethod ov x pl)
      callWith pos f first (backTo pos (starEach [] X.env)) (backToKw pos (keywordEach [] X.env))) := by rfl) : EX X cl (.Call (.Attribute o x apos) [] [] pos) (eMeth c x M fo aNil) :=
  pe_mono (pe_meth0 (ex_fz he) hC hm F hr hb .nil pass0 ht) fun σ H Q h => by
    obtain ⟨S, env, bv, env', s, w, q⟩ := t_meth hn h
    refine ⟨S, env, bv, env', s, w, fun v H' S' s' f' b' => ?_⟩
    obtain ⟨a, dx, fs, e1, e2, e3, S2, env2, bs, env3, s2, w2, q2⟩ := q v H' S' s' f' b'
    cases w2
    exact ⟨a, dx, fs, e1, e2, e3, q2 [] H' S2 s2 .same .nil⟩
end
end
end VL

set_option Elab.async false
set_option linter.all false
set_option maxRecDepth 100000
set_option maxHeartbeats 1000000
/-! VLn: zip and enumerate over lists and tuples in any mix. -/
namespace VL
open PySem PySem.Spec PyProof.Rows L2
/-- a list (true) or a tuple -/
def SqK (K : PySem.W.Frag) (H : Hp) (a : Addr) (xs : List V) : Bool → Prop
  | true => SqL K H a xs
  | false => SqT K H a xs
def ObK (a : Addr) : Bool → Obj
  | true => { cls := .type "list_iterator", data := .fields #[.ref a, .int 0 0] }
  | false => { cls := .type "tuple_iterator", data := .fields #[.ref a, .int 0 0] }
def IterK (h : Heap) (it a : Addr) (i : Nat) : Bool → Prop
  | true => h.IsListIter it a i
  | false => h.IsTupleIter it a i
def IsK (h : Heap) (a : Addr) (items : Array Value) : Bool → Prop
  | true => h.IsList a items
  | false => h.IsTuple a items
theorem drawsK {prog : Program} {w : World} {A : Around} (hh : A.handled = none) (it a : Addr) (hne : a ≠ it) (items : Array Value) : ∀ k : Bool,
    Draws prog w A it [it, a] items.size (fun i v => items[i]? = some v) (fun i h => IterK h it a i k ∧ IsK h a items k)
  | true => Draws.list hh it a hne items
  | false => Draws.tuple hh it a hne items
theorem beginsK (a : Addr) (items : Array Value) : ∀ k : Bool, Begins (.ref a) (ObK a k) fun h => IsK h a items k
  | true => begins_list a items
  | false => begins_tuple a items
theorem iterK0 {h : Heap} {it a : Addr} : ∀ {k : Bool}, h.get? it = some (ObK a k) → IterK h it a 0 k
  | true, e => ⟨_, e, rfl, rfl⟩
  | false, e => ⟨_, e, rfl, rfl⟩
theorem iterK_at {h h' : Heap} {it a : Addr} {i : Nat} : ∀ {k : Bool}, IterK h it a i k → (∀ o, h.get? it = some o → h'.get? it = some o) → IterK h' it a i k
  | true, e, f => Heap.IsListIter.at e f
  | false, e, f => Heap.IsTupleIter.at e f
theorem iterK_obj {h : Heap} {it a : Addr} {i : Nat} : ∀ {k : Bool}, IterK h it a i k → ∃ o, h.get? it = some o ∧ ∀ v, o.data ≠ .cell v
  | true, ⟨o, e, _, d⟩ => ⟨o, e, fun v q => by rw [d] at q; cases q⟩
  | false, ⟨o, e, _, d⟩ => ⟨o, e, fun v q => by rw [d] at q; cases q⟩
section
variable {X : Cx} {pins : List (Addr × Obj)} {σ : L2.St} {H : Hp} {s : Shared}
theorem inv_sq (I : Inv X pins σ H s) {a : Addr} {xs : List V} : ∀ {k : Bool}, SqK X.K H a xs k → ∃ its : List Value, Vals xs its ∧ IsK s.heap a its.toArray k ∧ a < s.heap.objs.size
  | true, h => by
    obtain ⟨its, rv, p, _⟩ := I.list h
    exact ⟨its, rv, p.isList, p.lt⟩
  | false, h => by
    obtain ⟨its, rv, p, _⟩ := I.tuple h
    obtain ⟨o, ho, _⟩ := id p
    exact ⟨its, rv, p, Heap.lt_size ho⟩
theorem sqK_inj (I : Inv X pins σ H s) {a : Addr} {xs ys : List V} : ∀ {k : Bool}, SqK X.K H a xs k → SqK X.K H a ys k → xs = ys
  | true, h, h' => I.list_inj h h'
  | false, h, h' => I.tuple_inj h h'
end
/-! ### zip -/
def ItzK (K : PySem.W.Frag) (k1 k2 : Bool) (a b : Addr) : It :=
  ⟨fun i H => ∃ (xs ys : List V) (x y : V), SqK K H a xs k1 ∧ SqK K H b ys k2 ∧ xs[i]? = some x ∧ ys[i]? = some y,
    fun i H v H' => ∃ T x y, v = .ref T ∧ H T = none ∧ H' = upd H T (.tup [x, y]) ∧ (∀ xs, SqK K H a xs k1 → xs[i]? = some x) ∧ ∀ ys, SqK K H b ys k2 → ys[i]? = some y,
    fun i H => ∃ xs ys : List V, SqK K H a xs k1 ∧ SqK K H b ys k2 ∧ i ≤ xs.length ∧ i ≤ ys.length ∧ (i = xs.length ∨ i = ys.length)⟩
theorem sep_of {a b z TI TO i1 i2 : Addr} (D : ZipApart z TI TO i1 i2 a b) : ZipSep2 z TI TO i1 i2 [i1, a] [i2, b] where
  TIz := D.TIz
  TOz := D.TOz
  TITO := D.TITO
  TIi1 := D.TIi1
  mem1 := by simp
  zf1 := by simp only [List.mem_cons, List.not_mem_nil, or_false, not_or]; exact ⟨D.i1z.symm, D.l1z.symm⟩
  Tf1 := by simp only [List.mem_cons, List.not_mem_nil, or_false, not_or]; exact ⟨D.TOi1, D.l1TO.symm⟩
  TIi2 := D.TIi2
  mem2 := by simp
  zf2 := by simp only [List.mem_cons, List.not_mem_nil, or_false, not_or]; exact ⟨D.i2z.symm, D.l2z.symm⟩
  Tf2 := by simp only [List.mem_cons, List.not_mem_nil, or_false, not_or]; exact ⟨D.TOi2, D.l2TO.symm⟩
  sep1_2 := by simp only [List.mem_cons, List.not_mem_nil, or_false, not_or]; exact ⟨D.i12, D.l2i1.symm⟩
  sep2_1 := by simp only [List.mem_cons, List.not_mem_nil, or_false, not_or]; exact ⟨D.i12.symm, D.l1i2.symm⟩
theorem turn_zipK {P : Program} {w : World} {K : PySem.W.Frag} {elts : List Expr} {kk : Nat} {tpos : Pos} {a b z TI TO i1 i2 : Addr} (k1 k2 : Bool) (D : ZipApart z TI TO i1 i2 a b) :
    Turn P w K (.Tuple elts kk tpos) (ItzK K k1 k2 a b) [z, TI, TO, i1, i2] z (fun i h => IsZip h z TI TO .none ∧ IsPair h TI (.ref i1) (.ref i2) ∧ (∃ x y, IsPair h TO x y) ∧ IterK h i1 a i k1 ∧ IterK h i2 b i k2) where
  mem := by simp
  obj := fun i h st c hc => by
    obtain ⟨hz, hTI, ⟨x, y, hTO⟩, h1, h2⟩ := st
    have e' : c = z ∨ c = TI ∨ c = TO ∨ c = i1 ∨ c = i2 := by simpa using hc
    rcases e' with q | q | q | q | q
    · rw [q]; exact ⟨_, hz, fun v q => nomatch q⟩
    · rw [q]; exact ⟨_, hTI, fun v q => nomatch q⟩
    · rw [q]; exact ⟨_, hTO, fun v q => nomatch q⟩
    · rw [q]; exact iterK_obj h1
    · rw [q]; exact iterK_obj h2
  keep := fun i h h' st k => by
    obtain ⟨hz, hTI, ⟨x, y, hTO⟩, h1, h2⟩ := st
    exact ⟨k z (by simp) _ hz, k TI (by simp) _ hTI, ⟨x, y, k TO (by simp) _ hTO⟩, iterK_at h1 fun o q => k i1 (by simp) o q, iterK_at h2 fun o q => k i2 (by simp) o q⟩
  item := by
    intro X hP hw hK hc i pins s σ H E I hf st hg
    subst hP hw hK
    obtain ⟨hz, hTI, ⟨x0, y0, hTO⟩, h1, h2⟩ := st
    obtain ⟨xs, ys, x, y, hqx, hqy, hx, hy⟩ := hg
    obtain ⟨its, rv, p, _⟩ := inv_sq I hqx
    obtain ⟨its2, rv2, p2, _⟩ := inv_sq I hqy
    obtain ⟨u, hu, ru⟩ := rv.get hx
    obtain ⟨u2, hu2, ru2⟩ := rv2.get hy
    have hzl : z < s.heap.objs.size := Heap.lt_size hz
    have n1 : i < its.toArray.size := by
      have := (List.getElem?_eq_some_iff.mp hu).1
      simpa using this
    have n2 : i < its2.toArray.size := by
      have := (List.getElem?_eq_some_iff.mp hu2).1
      simpa using this
    have hh : X.A.in1.handled = none := I.ok.hd hc
    refine wpAny_pyNext_zipD2_item (sep_of D) (drawsK hh i1 a D.l1i1 its.toArray k1) (drawsK hh i2 b D.l2i2 its2.toArray k2) hz hTI hTO ⟨h1, p⟩ ⟨h2, p2⟩ n1 n2 fun v1 v2 h' tk e1 e2 z' TO' h1' h2' hT hsz hk => ?_
    obtain rfl : u = v1 := by
      have e1' : its[i]? = some v1 := by simpa using e1
      rw [hu] at e1'; exact Option.some.inj e1'
    obtain rfl : u2 = v2 := by
      have e2' : its2[i]? = some v2 := by simpa using e2
      rw [hu2] at e2'; exact Option.some.inj e2'
    refine ⟨_, rfl, wpAny_letOwnedTupleGo_zip (s := { s with heap := h', toks := tk }) z' fun h'' z'' sb => ?_⟩
    have hT2 : h''.get? s.heap.objs.size = some { cls := .type "tuple", data := .seq #[u, u2] } := (sb.2 _ (Nat.ne_of_gt hzl)).trans hT
    have new : ObjOk X.prog X.w (upd H s.heap.objs.size (.tup [x, y])) h'' s.heap.objs.size (.tup [x, y]) :=
      ⟨by show 2 ≤ sizeLine; decide, [u, u2], .cons ru (.cons ru2 .nil), ⟨_, hT2, rfl, _, rfl⟩⟩
    have I1 : Inv X pins σ (upd H s.heap.objs.size (.tup [x, y])) { s with heap := h'', toks := tk } :=
      I.turnedNew (t' := tk) (ch := [z, TI, TO, i1, i2]) (fun c o hb q => (sb.2 c (fun q' => hb (by simp [q']))).trans (hk c o (fun q' => hb (by simp [q'])) (fun q' => hb (by simp [q'])) (fun q' => hb (by simp [q'])) (fun q' => hb (by simp [q'])) q)) hf (Nat.le_refl _) new
    refine ⟨.ref s.heap.objs.size, _, I1, rfl, ⟨_, x, y, rfl, I.hok.fresh (Nat.le_refl _), rfl, fun l hl => by rw [sqK_inj I hl hqx]; exact hx, fun l hl => by rw [sqK_inj I hl hqy]; exact hy⟩, ⟨z'', ?_, ⟨u, u2, ?_⟩, ?_, ?_⟩, fun c hcm => ?_⟩
    · exact (sb.2 _ D.TIz).trans (hk _ _ D.TIz D.TITO D.TIi1 D.TIi2 hTI)
    · exact (sb.2 _ D.TOz).trans TO'
    · exact iterK_at h1'.1 fun o q => (sb.2 _ D.i1z).trans q
    · exact iterK_at h2'.1 fun o q => (sb.2 _ D.i2z).trans q
    · have hlt : c < s.heap.objs.size := by
        have e' : c = z ∨ c = TI ∨ c = TO ∨ c = i1 ∨ c = i2 := by simpa using hcm
        rcases e' with q | q | q | q | q
        · rw [q]; exact hzl
        · rw [q]; exact Heap.lt_size hTI
        · rw [q]; exact Heap.lt_size hTO
        · rw [q]; obtain ⟨_, e1, _⟩ := iterK_obj h1; exact Heap.lt_size e1
        · rw [q]; obtain ⟨_, e2, _⟩ := iterK_obj h2; exact Heap.lt_size e2
      rw [upd_ne (Nat.ne_of_lt hlt)]
      exact (hf c hcm).1
  done := by
    intro X hP hw hK hc i pins s σ H E I hf st hg
    subst hP hw hK
    obtain ⟨hz, hTI, ⟨x0, y0, hTO⟩, h1, h2⟩ := st
    obtain ⟨xs, ys, hqx, hqy, m1, m2, hend⟩ := hg
    obtain ⟨its, rv, p, _⟩ := inv_sq I hqx
    obtain ⟨its2, rv2, p2, _⟩ := inv_sq I hqy
    have l1 := rv.length
    have l2 := rv2.length
    have hh : X.A.in1.handled = none := I.ok.hd hc
    refine wpAny_pyNext_zipD2_end (i := i) (sep_of D) (drawsK hh i1 a D.l1i1 its.toArray k1) (drawsK hh i2 b D.l2i2 its2.toArray k2) hz hTI hTO ⟨h1, p⟩ ⟨h2, p2⟩ (by simp; omega) (by simp; omega) (by simp; omega) fun h' tk hk => ⟨rfl, I.turnedL (t' := tk) (ch := [z, TI, TO, i1, i2]) (fun c o hb q =>
      hk c o (fun q' => hb (by simp [q'])) (fun q' => hb (by simp [q'])) (fun q' => hb (by simp [q'])) (fun q' => hb (by simp [q'])) q) hf⟩
  self := fun A i s Q E st h => wpAny_pyIter_zip st.1 h
def iZipK (K : PySem.W.Frag) (ta : TA) : TI := fun σ H R => ta σ H fun vs H1 => ∃ k1 k2 a b xs ys, vs = [.ref a, .ref b] ∧ SqK K H1 a xs k1 ∧ SqK K H1 b ys k2 ∧ R (ItzK K k1 k2 a b) H1
theorem pi_zipK {X : Cx} {e e2 : Expr} {ta : TA} {p pos tpos : Pos} {elts : List Expr} {kk : Nat} (hg : Gl X "zip") (hm : X.mg "zip" = none) (ha : PA X [e, e2] ta)
    (hs : starEach [e, e2] X.env = (false, eval e X.env) :: starEach [e2] X.env := by rfl) (hpl : (backTo pos (starEach [e2] X.env)).any (·.1) = false := by rfl) :
    PI X (.Tuple elts kk tpos) (.Call (.Name "zip" p) [e, e2] [] pos) (iZipK X.K ta) := by
  refine ⟨fun pins s σ H R I h => ?_⟩
  refine Call_ (ld_blt I hg hm PyProof.Rows.boot_zip (PyProof.Rows.callWith_type1 (thn (ha.run pos pins s σ H _ I h) fun us s1 ⟨vs, H1, I1, r1, q1⟩ => ?_) hs hpl))
  obtain ⟨k1, k2, a, b, xs, ys, ex, hqx, hqy, q⟩ := q1
  subst ex
  cases r1 with
  | cons r rr =>
    cases rr with
    | cons r' rr =>
      cases rr
      cases r
      cases r'
      have fresh5 : ∀ c, c ∈ [s1.heap.objs.size + 4, s1.heap.objs.size + 2, s1.heap.objs.size + 3, s1.heap.objs.size, s1.heap.objs.size + 1] → FpOk X pins H1 c := fun c hcm => by
        have e' : c = s1.heap.objs.size + 4 ∨ c = s1.heap.objs.size + 2 ∨ c = s1.heap.objs.size + 3 ∨ c = s1.heap.objs.size ∨ c = s1.heap.objs.size + 1 := by simpa using hcm
        have hle : s1.heap.objs.size ≤ c := by
          rcases e' with z | z | z | z | z
          · rw [z]; exact Nat.le_add_right _ _
          · rw [z]; exact Nat.le_add_right _ _
          · rw [z]; exact Nat.le_add_right _ _
          · rw [z]; exact Nat.le_refl _
          · rw [z]; exact Nat.le_add_right _ _
        exact I1.fpOk hle (I1.hok.fresh hle)
      obtain ⟨its, rv, p1, l1⟩ := inv_sq I1 hqx
      obtain ⟨its2, rv2, p2, l2⟩ := inv_sq I1 hqy
      refine zip_begins2 (beginsK a its.toArray k1) (beginsK b its2.toArray k2) p1 p2 fun h' hz hTI hTO h1 h2 hsz hk => wpAny_pyIter_zip hz ?_
      have I2 : Inv X pins σ H1 { s1 with heap := h' } := I1.kept (t' := s1.toks) hk
      exact ⟨s1.heap.objs.size + 4, [s1.heap.objs.size + 4, s1.heap.objs.size + 2, s1.heap.objs.size + 3, s1.heap.objs.size, s1.heap.objs.size + 1], _, _, H1, rfl, I2, turn_zipK k1 k2 (PySem.W.ktu_apart s1.heap.objs.size a b l1 l2), ⟨hz, hTI, ⟨_, _, hTO⟩, iterK0 h1, iterK0 h2⟩, fresh5, q⟩
/-! ### enumerate -/
def IteK (K : PySem.W.Frag) (k : Bool) (a : Addr) : It :=
  ⟨fun i H => ∃ (xs : List V) (x : V), SqK K H a xs k ∧ xs[i]? = some x, fun i H v H' => ∃ T x, v = .ref T ∧ H T = none ∧ H' = upd H T (.tup [.int (i : Nat), x]) ∧ ∀ xs, SqK K H a xs k → xs[i]? = some x, fun i H => ∃ xs : List V, SqK K H a xs k ∧ i = xs.length⟩
theorem turn_enumK {P : Program} {w : World} {K : PySem.W.Frag} {elts : List Expr} {kk : Nat} {tpos : Pos} (k : Bool) (a e it : Addr) (hae : a ≠ e) (hai : a ≠ it) :
    Turn P w K (.Tuple elts kk tpos) (IteK K k a) [e, it] e (fun i h => (∃ old, IsEnum h e it ((i : Nat) : Int) old) ∧ IterK h it a i k ∧ e ≠ it) where
  mem := by simp
  obj := fun i h st b hb => by
    obtain ⟨⟨old, he⟩, hi, _⟩ := st
    have e' : b = e ∨ b = it := by simpa using hb
    rcases e' with z | z
    · rw [z]; exact ⟨_, he, fun v q => nomatch q⟩
    · rw [z]; exact iterK_obj hi
  keep := fun i h h' st k => let ⟨⟨old, he⟩, hi, hne⟩ := st; ⟨⟨old, k e (by simp) _ he⟩, iterK_at hi fun o q => k it (by simp) o q, hne⟩
  item := by
    intro X hP hw hK hc i pins s σ H E I hf st hg
    subst hP hw hK
    obtain ⟨⟨old, he⟩, hit, hne⟩ := st
    obtain ⟨xs, x, hq, hx⟩ := hg
    obtain ⟨its, rv, p, hz⟩ := inv_sq I hq
    obtain ⟨u, hu, ru⟩ := rv.get hx
    have hel : e < s.heap.objs.size := Heap.lt_size he
    have hil : it < s.heap.objs.size := by obtain ⟨_, q, _⟩ := iterK_obj hit; exact Heap.lt_size q
    have n1 : i < its.toArray.size := by
      have := (List.getElem?_eq_some_iff.mp hu).1
      simpa using this
    have hh : X.A.in1.handled = none := I.ok.hd hc
    refine wpAny_pyNext_enum_itemD (drawsK hh it a hai its.toArray k) he ⟨hit, p⟩ n1 hne (by simp only [List.mem_cons, List.not_mem_nil, or_false, not_or]; exact ⟨hne, hae.symm⟩) fun v1 h' tk e1 ho hit' hT hsz hk => ?_
    obtain rfl : u = v1 := by
      have e1' : its[i]? = some v1 := by simpa using e1
      rw [hu] at e1'; exact Option.some.inj e1'
    refine ⟨_, rfl, wpAny_letOwnedTupleGo_enum (s := { s with heap := h', toks := tk + 1 }) ho fun h'' he' sb => ?_⟩
    have hT2 : h''.get? s.heap.objs.size = some { cls := .type "tuple", data := .seq #[.int i tk, u] } := (sb.2 _ (Nat.ne_of_gt hel)).trans hT
    have new : ObjOk X.prog X.w (upd H s.heap.objs.size (.tup [.int (i : Nat), x])) h'' s.heap.objs.size (.tup [.int (i : Nat), x]) :=
      ⟨by show 2 ≤ sizeLine; decide, [.int i tk, u], .cons ⟨_, rfl⟩ (.cons ru .nil), ⟨_, hT2, rfl, _, rfl⟩⟩
    have I1 : Inv X pins σ (upd H s.heap.objs.size (.tup [.int (i : Nat), x])) { s with heap := h'', toks := tk + 1 } :=
      I.turnedNew (ch := [e, it]) (fun b ob hb q => (sb.2 b (fun z => hb (by simp [z]))).trans (hk b ob (fun z => hb (by simp [z])) (fun z => hb (by simp [z])) q)) hf (Nat.le_refl _) new
    refine ⟨.ref s.heap.objs.size, _, I1, rfl, ⟨_, x, rfl, I.hok.fresh (Nat.le_refl _), rfl, fun ys hy => by rw [sqK_inj I hy hq]; exact hx⟩, ⟨⟨u, ?_⟩, iterK_at hit'.1 fun o q => (sb.2 it (Ne.symm hne)).trans q, hne⟩, fun b hb => ?_⟩
    · have e1 : ((i + 1 : Nat) : Int) = (i : Int) + 1 := by omega
      rw [e1]; exact he'
    · have hb' : b < s.heap.objs.size := by
        have e' : b = e ∨ b = it := by simpa using hb
        rcases e' with z | z
        · rw [z]; exact hel
        · rw [z]; exact hil
      rw [upd_ne (Nat.ne_of_lt hb')]
      exact (hf b hb).1
  done := by
    intro X hP hw hK hc i pins s σ H E I hf st hg
    subst hP hw hK
    obtain ⟨⟨old, he⟩, hit, hne⟩ := st
    obtain ⟨xs, hq, hx⟩ := hg
    obtain ⟨its, rv, p, hz⟩ := inv_sq I hq
    obtain ⟨f0, f1, f2, f3, f4, f5⟩ := hf it (by simp)
    have hl := rv.length
    have hh : X.A.in1.handled = none := I.ok.hd hc
    have hi : i = its.toArray.size := by simp; omega
    subst hi
    exact wpAny_pyNext_enum_endD (drawsK hh it a hai its.toArray k) he ⟨hit, p⟩ fun h' eb => ⟨rfl, I.turned (t' := s.toks) (fun b o hb q => eb b o hb q) f0 f1 f3 f4 f5⟩
  self := fun A i s Q E st h => let ⟨⟨_, he⟩, _⟩ := st; wpAny_pyIter_enum he h
theorem meets_enumerate_newB1 {v : Value} {o : Obj} {H : Heap → Prop} (B : Begins v o H) :
    Meets (Builtin.«enumerate.__new__» ⟨[.type "enumerate", v], []⟩) (fun _ R s => H s.heap ∧
      R (.ok (.ret (.ref (s.heap.push o).objs.size))) { s with heap := (s.heap.push o).push { cls := .type "enumerate", data := .fields #[.none, .bool false, .ref s.heap.objs.size, rawInt 0, .none, .none] } }) :=
  .of_wp fun prog w A R s h => by
    obtain ⟨hp, g, d, tk, os⟩ := s; obtain ⟨h1, h⟩ := h
    have hsub := sub_enumerate
    have q1 : ∀ {A' : Around} {E : Value → Shared → Prop} {Q : Value → Shared → Prop}, Q (.ref hp.objs.size) ⟨hp.push o, g, d, tk, os⟩ → wpAny (model prog w) A' (pyIter v) Q E ⟨hp, g, d, tk, os⟩ :=
      fun q => B.iter prog w _ _ ⟨hp, g, d, tk, os⟩ _ h1 q
    wp_walk using q1
    refine wpAny_stack_any fun st => wpAny_pure ?_
    split
    · rename_i c _ _ _ _ _
      cases (c == Value.type "enumerate")
      · wp_walk using q1
        exact ⟨_, rfl, h⟩
      · wp_walk using q1
        exact ⟨_, rfl, h⟩
    · wp_walk using q1
      exact ⟨_, rfl, h⟩
theorem enum_begins1 {prog : Program} {w : World} {A : Around} {E : Value → Shared → Prop} {s : Shared} {v : Value} {o : Obj} {H : Heap → Prop} {Q : Value → Shared → Prop} (B : Begins v o H) (h1 : H s.heap)
    (h : ∀ h', IsEnum h' (s.heap.objs.size + 1) s.heap.objs.size 0 .none → h'.get? s.heap.objs.size = some o → h'.objs.size = s.heap.objs.size + 2 →
      (∀ b o, s.heap.get? b = some o → h'.get? b = some o) → Q (.ref (s.heap.objs.size + 1)) { s with heap := h' }) :
    wpAny (model prog w) A (call (.type "enumerate") [v]) Q E s := by
  refine callType_new F.called_enumerate (by decide) (F.typeCall_enumerate_1 _) (F.newCall_enumerate_1 _) (fun obj => F.args_object_init_2 obj _) F.entry_enumerate_new
    (meets_enumerate_newB1 B) ⟨h1, ?_⟩
  have hz : (s.heap.push o).objs.size = s.heap.objs.size + 1 := Heap.size_push ..
  show _ ∧ _
  rw [hz]
  have he : IsEnum ((s.heap.push o).push { cls := .type "enumerate", data := .fields #[.none, .bool false, .ref s.heap.objs.size, rawInt 0, .none, .none] }) (s.heap.objs.size + 1) s.heap.objs.size 0 .none := by
    have := Heap.get?_push_size (s.heap.push o) (o := { cls := .type "enumerate", data := .fields #[.none, .bool false, .ref s.heap.objs.size, rawInt 0, .none, .none] }) rfl
    rw [hz] at this; exact this
  refine ⟨⟨_, he, rfl⟩, h _ he (Heap.get?_push_of_some _ (Heap.get?_push_size _ B.free)) (by rw [Heap.size_push, hz]) fun b o x => Heap.get?_push_of_some _ (Heap.get?_push_of_some _ x)⟩
def iEnumK (K : PySem.W.Frag) (ta : TA) : TI := fun σ H R => ta σ H fun vs H1 => ∃ k a xs, vs = [.ref a] ∧ SqK K H1 a xs k ∧ R (IteK K k a) H1
theorem pi_enumK {X : Cx} {e : Expr} {ta : TA} {p pos tpos : Pos} {elts : List Expr} {kk : Nat} (hg : Gl X "enumerate") (hm : X.mg "enumerate" = none) (ha : PA X [e] ta) (hs : starEach [e] X.env = [(false, eval e X.env)] := by rfl) :
    PI X (.Tuple elts kk tpos) (.Call (.Name "enumerate" p) [e] [] pos) (iEnumK X.K ta) := by
  refine ⟨fun pins s σ H R I h => ?_⟩
  refine Call_ (ld_blt I hg hm boot_enumerate (PyProof.Rows.callWith_type1 (thn (ha.run pos pins s σ H _ I h) fun us s1 ⟨vs, H1, I1, r1, q1⟩ => ?_) hs rfl))
  obtain ⟨k, a, xs, ex, hq, q⟩ := q1
  subst ex
  cases r1 with
  | cons r rr =>
    cases rr
    cases r
    obtain ⟨its, rv, p', la⟩ := inv_sq I1 hq
    refine enum_begins1 (beginsK a its.toArray k) p' fun h' he hit hsz hk => wpAny_pyIter_enum he ?_
    have I2 : Inv X pins σ H1 { s1 with heap := h' } := I1.kept (t' := s1.toks) hk
    refine ⟨s1.heap.objs.size + 1, [s1.heap.objs.size + 1, s1.heap.objs.size], _, _, H1, rfl, I2, turn_enumK k a (s1.heap.objs.size + 1) s1.heap.objs.size (Nat.ne_of_lt (Nat.lt_succ_of_lt la)) (Nat.ne_of_lt la), ⟨⟨.none, he⟩, iterK0 hit, Nat.succ_ne_self _⟩, fun b hb => ?_, q⟩
    have e' : b = s1.heap.objs.size + 1 ∨ b = s1.heap.objs.size := by simpa using hb
    have hle : s1.heap.objs.size ≤ b := by
      rcases e' with z | z
      · rw [z]; exact Nat.le_add_right _ _
      · rw [z]; exact Nat.le_refl _
    exact I1.fpOk hle (I1.hok.fresh hle)
end VL

set_option Elab.async false
set_option linter.all false
set_option maxRecDepth 100000
set_option maxHeartbeats 1000000
/-! VLo: zip, enumerate, list.index, None in xs, a written dict's get, a field filled by a loop. -/
namespace VL
open PySem PySem.Spec PyProof.Rows L2
section
variable {K : PySem.W.Frag} {cl : Nat → Addr} {X : Cx} {σ σ1 : L2.St} {H S H1 S1 H' S' : Hp} {env env1 env' : Env'} {pos : Pos} {tg : Expr}
def seqD : D → Option (List D)
  | .lst xs => some xs
  | .tup xs => some xs
  | .fl xs => some xs
  | _ => none
theorem seqD_rep {d : D} {v : V} {xs : List D} (r : Rep K cl S d v) (h : seqD d = some xs) : ∃ k a vs, v = .ref a ∧ SqK K S a vs k ∧ Reps K cl S xs vs := by
  unfold seqD at h
  split at h
  · cases h
    obtain ⟨a, vs, e, q, r⟩ := r
    exact ⟨true, a, vs, e, .of q, r⟩
  · cases h
    obtain ⟨a, vs, e, q, r⟩ := r
    exact ⟨false, a, vs, e, q, r⟩
  · cases h
    obtain ⟨a, vs, e, q, r⟩ := r
    exact ⟨true, a, vs, e, q, r⟩
  · cases h
theorem SqK.up (e : Sub S H) {a : Addr} {vs : List V} : ∀ {k : Bool}, SqK K S a vs k → SqK K H a vs k
  | true, h => e.l h
  | false, h => e.t h
theorem new_tup' {a : Addr} {vs : List V} {ds : List D} (hs : Sub S H) (hp : H a = none) (r : Reps K cl S ds vs) : Gr H S (upd H a (.tup vs)) (upd S a (.tup vs)) ∧ Rep K cl (upd S a (.tup vs)) (.tup ds) (.ref a) := new_tup hs hp r
theorem iter_zip {k1 k2 : Bool} {a b : Addr} {vs us : List V} {xs ys : List D} (h1 : SqK K S a vs k1) (r1 : Reps K cl S xs vs) (h2 : SqK K S b us k2) (r2 : Reps K cl S ys us) : Iter K cl S (List.zipWith (fun x y => D.tup [x, y]) xs ys) (ItzK K k1 k2 a b) := fun i Hc Sc e1 e2 => by
  have q1 : SqK K Hc a vs k1 := h1.up (e1.comp e2)
  have q2 : SqK K Hc b us k2 := h2.up (e1.comp e2)
  have l1 := r1.len
  have l2 := r2.len
  refine ⟨fun d hd => ?_, fun hn => ?_⟩
  · rw [List.getElem?_zipWith] at hd
    cases hx : xs[i]? with
    | none => rw [hx] at hd; cases hd
    | some x =>
      cases hy : ys[i]? with
      | none => rw [hx, hy] at hd; cases hd
      | some y =>
        rw [hx, hy] at hd
        have hd' : D.tup [x, y] = d := Option.some.inj hd
        subst hd'
        obtain ⟨v, hv, rv⟩ := r1.get hx
        obtain ⟨u, hu, ru⟩ := r2.get hy
        refine ⟨⟨vs, us, v, u, q1, q2, hv, hu⟩, ?_⟩
        rintro w H' ⟨T, v', u', rfl, hT, rfl, f1, f2⟩
        have ev := Option.some.inj ((f1 vs q1).symm.trans hv)
        have eu := Option.some.inj ((f2 us q2).symm.trans hu)
        subst ev eu
        obtain ⟨g, n⟩ := new_tup' e2 hT (show Reps K cl Sc [x, y] [v', u'] from ⟨v', [u'], rfl, rv.mono e1, u', [], rfl, ru.mono e1, rfl⟩)
        exact ⟨_, g, n⟩
  · rw [List.length_zipWith] at hn
    exact ⟨vs, us, q1, q2, by omega, by omega, by omega⟩
def iZp (fa fb : Ev) : Iv := fun env => match fz fa env with
  | some (.val d, e1) => match fz fb e1 with
    | some (.val d2, e2) => match seqD d, seqD d2 with
      | some xs, some ys => some (List.zipWith (fun x y => D.tup [x, y]) xs ys, e2)
      | _, _ => none
    | _ => none
  | _ => none
theorem ix_zip {a b : Expr} {fa fb : Ev} {p tpos : Pos} {elts : List Expr} {kk : Nat} (hg : Gl X "zip") (hm : X.mg "zip" = none) (ha : EX X cl a fa) (hb : EX X cl b fb)
    (hs : starEach [a, b] X.env = (false, eval a X.env) :: starEach [b] X.env := by rfl) (hs2 : starEach [b] X.env = (false, eval b X.env) :: starEach [] X.env := by rfl) (hpl : (backTo pos (starEach [b] X.env)).any (·.1) = false := by rfl) : IX X cl (.Tuple elts kk tpos) (.Call (.Name "zip" p) [a, b] [] pos) (iZp fa fb) :=
  pi_mono (pi_zipK hg hm (pa_cons (ex_fz ha) (pa_cons (ex_fz hb) pa_nil hs2) hs) hs hpl) fun σ H R ⟨S, env, ds, env', s, w, q⟩ => by
    unfold iZp at w
    split at w
    · rename_i d e1 w1
      split at w
      · rename_i d2 e2 w2
        split at w
        · rename_i xs ys w3 w4
          cases w
          refine ⟨S, env, _, e1, s, w1, fun v H1 S1 s1 f1 b1 => ⟨S1, e1, _, _, s1, w2, fun u H2 S2 s2 f2 b2 => ?_⟩⟩
          have b1' : Rep X.K cl S2 d v := Rep.mono f2.mono b1
          obtain ⟨k1, a, vs, rfl, q1, r1⟩ := seqD_rep b1' w3
          obtain ⟨k2, b, us, rfl, q2, r2⟩ := seqD_rep (show Rep X.K cl S2 d2 u from b2) w4
          exact ⟨k1, k2, a, b, vs, us, rfl, q1.up s2.sub, q2.up s2.sub, q _ H2 S2 s2 (f1.trans f2) (iter_zip q1 r1 q2 r2)⟩
        · cases w
      · cases w
    · cases w
def enumD : Nat → List D → List D
  | _, [] => []
  | i, x :: xs => .tup [.int (i : Nat), x] :: enumD (i + 1) xs
theorem enumD_len : ∀ {i : Nat} {xs : List D}, (enumD i xs).length = xs.length
  | _, [] => rfl
  | i, _ :: xs => congrArg (· + 1) (enumD_len (i := i + 1) (xs := xs))
theorem enumD_get : ∀ {j : Nat} {xs : List D} {i : Nat}, (enumD j xs)[i]? = (xs[i]?).map fun x => .tup [.int ((j + i : Nat) : Int), x]
  | _, [], _ => rfl
  | j, x :: xs, 0 => rfl
  | j, x :: xs, i + 1 => by
    show (enumD (j + 1) xs)[i]? = (xs[i]?).map _
    rw [enumD_get]
    congr 1
    funext y
    rw [show j + 1 + i = j + (i + 1) by omega]
theorem iter_enum {k : Bool} {a : Addr} {vs : List V} {xs : List D} (h1 : SqK K S a vs k) (r1 : Reps K cl S xs vs) : Iter K cl S (enumD 0 xs) (IteK K k a) := fun i Hc Sc e1 e2 => by
  have q1 : SqK K Hc a vs k := h1.up (e1.comp e2)
  have l1 := r1.len
  refine ⟨fun d hd => ?_, fun hn => ?_⟩
  · rw [enumD_get] at hd
    obtain ⟨x, hx, hd'⟩ := Option.map_eq_some_iff.mp hd
    subst hd'
    obtain ⟨v, hv, rv⟩ := r1.get hx
    refine ⟨⟨vs, v, q1, hv⟩, ?_⟩
    rintro w H' ⟨T, v', rfl, hT, rfl, f1⟩
    have ev := Option.some.inj ((f1 vs q1).symm.trans hv)
    subst ev
    rw [Nat.zero_add]
    obtain ⟨g, n⟩ := new_tup' e2 hT (show Reps K cl Sc [.int (i : Nat), x] [.int (i : Nat), v'] from ⟨.int (i : Nat), [v'], rfl, rfl, v', [], rfl, rv.mono e1, rfl⟩)
    exact ⟨_, g, n⟩
  · rw [enumD_len] at hn
    exact ⟨vs, q1, by omega⟩
def iEn (fa : Ev) : Iv := fun env => match fz fa env with
  | some (.val d, e1) => match seqD d with
    | some xs => some (enumD 0 xs, e1)
    | none => none
  | _ => none
theorem ix_enum {a : Expr} {fa : Ev} {p tpos : Pos} {elts : List Expr} {kk : Nat} (hg : Gl X "enumerate") (hm : X.mg "enumerate" = none) (ha : EX X cl a fa)
    (hs : starEach [a] X.env = (false, eval a X.env) :: starEach [] X.env := by rfl) (hs2 : starEach [a] X.env = [(false, eval a X.env)] := by rfl) : IX X cl (.Tuple elts kk tpos) (.Call (.Name "enumerate" p) [a] [] pos) (iEn fa) :=
  pi_mono (pi_enumK hg hm (pa_cons (ex_fz ha) pa_nil hs) hs2) fun σ H R ⟨S, env, ds, env', s, w, q⟩ => by
    unfold iEn at w
    split at w
    · rename_i d e1 w1
      split at w
      · rename_i xs w3
        cases w
        refine ⟨S, env, _, _, s, w1, fun v H1 S1 s1 f1 b1 => ?_⟩
        obtain ⟨k1, a, vs, rfl, q1, r1⟩ := seqD_rep (show Rep X.K cl S1 d v from b1) w3
        exact ⟨k1, a, vs, rfl, q1.up s1.sub, q _ H1 S1 s1 f1 (iter_enum q1 r1)⟩
      · cases w
    · cases w
/-! ### xs.index(i), of ints -/
def idxI (k : Int) : List Int → Option Nat
  | [] => none
  | i :: r => if i = k then some 0 else (idxI k r).map (· + 1)
theorem idxI_some {k : Int} : ∀ {ns : List Int} {j : Nat}, idxI k ns = some j → ns[j]? = some k ∧ ∀ (m : Nat) (z : Int), m < j → ns[m]? = some z → z ≠ k
  | [], _, h => by cases h
  | i :: r, j, h => by
    unfold idxI at h
    split at h
    · rename_i e
      cases h
      exact ⟨by rw [e]; rfl, fun m z hm => by omega⟩
    · rename_i e
      obtain ⟨j', h1, h2⟩ := Option.map_eq_some_iff.mp h
      subst h2
      obtain ⟨a, b⟩ := idxI_some h1
      refine ⟨a, fun m z hm hz => ?_⟩
      cases m with
      | zero => cases hz; exact e
      | succ m => exact b m z (by omega) hz
def eIndex (fo f : Ev) : Ev := fun env => match fz fo env with
  | some (.val (.lst xs), e1) => match fz f e1 with
    | some (.val (.int k), e2) => match intsD xs with
      | some ns => (idxI k ns).map fun j => (.val (.int (j : Nat)), e2)
      | none => none
    | _ => none
  | _ => none
theorem all_flat (ns : List Int) : (ns.map V.int).all flatV = true := by
  rw [List.all_map]
  exact List.all_eq_true.mpr fun _ _ => rfl
theorem ex_index {o e : Expr} {fo fe : Ev} {apos cpos : Pos} (ho : EX X cl o fo) (he : EX X cl e fe) (hbase : attributeBase o "index" X.env (eval o X.env) = eval o X.env := by rfl)
    (hfew : ((backTo cpos (starEach [e] X.env)).all (fun x => !x.1) && (backToKw cpos (keywordEach [] X.env)).all (fun x => x.1.isSome) && decide ([e].length + ([] : List Keyword).length + (if ([] : List Keyword).isEmpty then 0 else 1) < 30)) = true := by rfl)
    (hline : (apos.endLine == cpos.line) = true := by rfl) (hs : starEach [e] X.env = (false, eval e X.env) :: starEach [] X.env := by rfl) (hpl : (backTo cpos (starEach [] X.env)).any (·.1) = false := by rfl) : EX X cl (.Call (.Attribute o "index" apos) [e] [] cpos) (eIndex fo fe) :=
  pe_mono (pe_bm PySem.F.plainAttrs_list PySem.F.slot_list_index PySem.F.type_list_index mt_index (ex_fz ho) (pa_cons (ex_fz he) pa_nil hs) hbase hfew hline hs hpl) fun σ H Q ⟨S, env, bv, env', s, w, q⟩ => by
    unfold eIndex at w
    split at w
    · rename_i xs e1 w1
      split at w
      · rename_i k e2 w2
        split at w
        · rename_i ns w3
          obtain ⟨j, w4, w5⟩ := Option.map_eq_some_iff.mp w
          cases w5
          refine ⟨S, env, _, e1, s, w1, fun v H1 S1 s1 f1 b1 => ?_⟩
          obtain ⟨a, vs, rfl, h1, r1⟩ := b1
          refine ⟨.inl ⟨rfl, vs, .of (s1.sub _ _ h1)⟩, S1, e1, _, _, s1, w2, fun u H2 S2 s2 f2 b2 => ?_⟩
          cases (show u = V.int k from b2)
          obtain ⟨i1, i2⟩ := idxI_some w4
          have ev := ints_rep r1 w3
          subst ev
          refine ⟨a, _, .int k, j, .int k, rfl, rfl, .of (s2.sub _ _ (f2.mono _ _ h1)), rfl, all_flat ns, by rw [List.getElem?_map, i1]; rfl, ?_, fun m z' hm hz => ?_, q _ H2 S2 s2 (f1.trans f2) rfl⟩
          · show (k == k) = true
            exact beq_self_eq_true k
          · rw [List.getElem?_map] at hz
            obtain ⟨z, hz1, hz2⟩ := Option.map_eq_some_iff.mp hz
            subst hz2
            show (z == k) = false
            exact beq_eq_false_iff_ne.mpr (i2 m z hm hz1)
        · cases w
      · cases w
    · cases w
/-! ### None in xs, of instances and None -/
def nonOr (c : Nat) : D → Bool
  | .non => true
  | .ins c' _ => decide (c' = c)
  | _ => false
def dNoneIn (c : Nat) : D → D → Option Bv
  | .non, .lst xs => if xs.all (nonOr c) = true then some (.val (.bl (xs.any D.isN))) else none
  | _, _ => none
theorem none_key {c : Nat} (h1 : PySem.W.mroIn K (cl c) (.type "object") = some true) (h2 : PySem.W.findIn K (.ref (cl c)) "__eq__" = some (some (.builtin "object.__eq__"))) (hs : Sub S H) : ∀ {xs : List D} {us : List V}, Reps K cl S xs us → xs.all (nonOr c) = true → (∀ z ∈ us, NoneOr K H z) ∧ us.any isNon = xs.any D.isN
  | [], us, r, _ => by cases (show us = [] from r); exact ⟨fun z hz => (by cases hz), rfl⟩
  | x :: xs, _, ⟨v, t, e, r1, r2⟩, ha => by
    subst e
    rw [List.all_cons, Bool.and_eq_true] at ha
    obtain ⟨i1, i2⟩ := none_key h1 h2 hs r2 ha.2
    have hx : NoneOr K H v ∧ isNon v = x.isN := by
      have ha1 := ha.1
      unfold nonOr at ha1
      split at ha1
      · cases (show v = V.non from r1); exact ⟨.inl rfl, rfl⟩
      · rename_i c' fs
        have hc : c' = c := of_decide_eq_true ha1
        subst hc
        obtain ⟨a, dx, gs, rfl, hh, _⟩ := r1
        exact ⟨.inr ⟨a, _, dx, gs, rfl, hs _ _ hh, h1, h2⟩, rfl⟩
      · cases ha1
    refine ⟨fun z hz => ?_, ?_⟩
    · rcases List.mem_cons.mp hz with z1 | z1
      · subst z1; exact hx.1
      · exact i1 z z1
    · rw [List.any_cons, List.any_cons, hx.2, i2]
theorem ln_noneIn {c : Nat} (h1 : PySem.W.mroIn K (cl c) (.type "object") = some true) (h2 : PySem.W.findIn K (.ref (cl c)) "__eq__" = some (some (.builtin "object.__eq__"))) : Link2 K cl (rNoneIn K false) (dNoneIn c) := fun H S d e v u bv Q hs hd he w q => by
  unfold dNoneIn at w
  split at w
  · rename_i xs
    split at w
    · rename_i ha
      cases w
      obtain ⟨b, us, rfl, hb, r⟩ := he
      obtain ⟨k1, k2⟩ := none_key h1 h2 hs r ha
      refine ⟨b, us, hd, rfl, .of hb, k1, ?_⟩
      show Q (.bl (us.any isNon)) H
      rw [k2]
      exact q _ H S (Gr.same hs) rfl
    · cases w
  · cases w
/-! ### d.get(x), d a written dict of the module -/
def eGet (kvs : List (Str × D)) (f : Ev) : Ev := fun env => match fz f env with
  | some (.val (.str x), e1) => (kvs.lookup x).map fun d => (.val d, e1)
  | _ => none
/-- the written dict at d holds kvs (at least) -/
def DictHas (K : PySem.W.Frag) (cl : Nat → Addr) (w : World) (d : Addr) (kvs : List (Str × D)) : Prop := (∃ es n, KDict K w d es n) ∧ ∀ x y, kvs.lookup x = some y → ∃ u v, PySem.W.nsIn K d x = some (some u) ∧ RelV v u ∧ ∀ S, Rep K cl S y v
theorem ex_get {o e : Expr} {fe : Ev} {apos cpos : Pos} {d : Addr} {kvs : List (Str × D)} (D : DictHas X.K cl X.w d kvs) (ho : PE X o (tC (.ref d))) (he : EX X cl e fe) (m : M1 X o "get" apos e cpos) : EX X cl (.Call (.Attribute o "get" apos) [e] [] cpos) (eGet kvs fe) := by
  obtain ⟨⟨es, n, KD⟩, kv⟩ := D
  refine ⟨fun pins s σ H Q I h => ?_⟩
  obtain ⟨S, env, bv, env', s0, w, q⟩ := h
  unfold eGet at w
  split at w
  · rename_i x e1 w1
    obtain ⟨y, w2, w3⟩ := Option.map_eq_some_iff.mp w
    cases w3
    refine wpAny_Call_method m.base m.few m.line PySem.F.plainAttrs_dict PySem.F.slot_dict_get PySem.F.type_dict_get (thn (ho.run pins s σ H (fun v H' => v = .ref d ∧ H' = H) I ⟨rfl, rfl⟩) fun u s1 ⟨v0, H1, I1, rx, ev, eH⟩ => ?_)
    subst ev eH
    obtain rfl : u = Value.ref d := rx
    have hm0 := PySem.W.mapOf_K (prog := X.prog) (w := X.w) I1.kIn KD.at_ KD.lit
    refine ⟨hm0.typeIs, fun b z => ?_, ?_⟩
    · cases z
      exact ⟨_, I1.kIn _ _ KD.at_, rfl⟩
    · rw [m.trees]
      have hfz := (ex_fz he).run pins s1 σ H1 (fun v H' => v = .str x ∧ ∃ S', SOk X.K cl σ H' S' env' ∧ Fr σ env H1 S σ env' H' S') I1 ⟨S, env, _, env', s0, w1, fun v H' S' s' f' b' => ⟨b', S', s', f'⟩⟩
      refine Calls.callWith_builtin rfl (Calls.evalArgs_plain (Calls.spliced_cons (thn hfz fun iv s2 ⟨y2, H2, I2, ry, ey, S2, s2', f2⟩ => Calls.spliced_nil ?_)))
      subst ey
      obtain ⟨t, rfl⟩ : ∃ t, iv = Value.str x t := ry
      obtain ⟨u0, v1, n1, r1, rd⟩ := kv x y w2
      have hm := PySem.W.mapOf_K (prog := X.prog) (w := X.w) I2.kIn KD.at_ KD.lit
      refine call_meetsIn PySem.F.slot_dict_get hm.typeIs PySem.F.entry_dict_get (PySem.F.args_dict_get_2 _ _) (meets_dict_get (strKind X.prog X.w) d (strKind_is X.prog X.w x t) KD.low) ⟨_, hm, ?_⟩
      rw [PySem.W.find_K KD.at_ n1]
      exact ⟨v1, H2, I2.tok _, r1, q v1 H2 S2 s2' f2 (rd S2)⟩
  · cases w
end
end VL

set_option Elab.async false
set_option linter.all false
set_option maxRecDepth 100000
set_option maxHeartbeats 1000000
/-! VLp: self.x = [] and a loop that appends to self.x. -/
namespace VL
open PySem PySem.Spec PyProof.Rows L2
/-- slot 0: an instance whose field x is the raw value v -/
def rawAt (x : Str) (c : Nat) (v : V) (env : Env') : Option (List (Str × D)) := match (env[0]? : Option Sl) with
  | some (.par (.ins c' fs)) => if c' = c then match fs.lookup x with
      | some (.raw u) => if u = v then some fs else none
      | _ => none
    else none
  | _ => none
theorem rawAt_some {x : Str} {c : Nat} {v : V} {env : Env'} {fs : List (Str × D)} (h : rawAt x c v env = some fs) : env[0]? = some (.par (.ins c fs)) ∧ fs.lookup x = some (.raw v) := by
  unfold rawAt at h
  split at h
  · rename_i c' fs' e
    split at h
    · rename_i hc
      subst hc
      split at h
      · rename_i u q
        split at h
        · rename_i hu
          subst hu
          cases h
          exact ⟨e, q⟩
        · cases h
      · cases h
    · cases h
  · cases h
def fldL (x : Str) (c : Nat) (v : V) (t : Tg) (fe : Ev) : List D → Env' → Option (List D × Env')
  | [], env => some ([], env)
  | d :: ds, env => match asg t d env with
    | some e1 => match rawAt x c v e1 with
      | some _ => match fz fe e1 with
        | some (.val y, e2) => match rawAt x c v e2 with
          | some _ => (fldL x c v t fe ds e2).map fun p => (y :: p.1, p.2)
          | none => none
        | _ => none
      | none => none
    | none => none
def sFLv (x : Str) (c : Nat) (t : Tg) (fi : Iv) (fe : Ev) (v : V) : Env' → Option Env' := fun env => match (env[0]? : Option Sl) with
  | some (.par (.ins c' fs)) => if c' = c ∧ fs.length < 1000 then match fi (env.set 0 (.par (.ins c (putD x (.raw v) fs)))) with
      | some (ds, e1) => if ds.length ≤ sizeLine then match rawAt x c v e1 with
          | some _ => match fldL x c v t fe ds e1 with
            | some (ys, e2) => (rawAt x c v e2).map fun fs2 => e2.set 0 (.par (.ins c (putD x (.lst ys) fs2)))
            | none => none
          | none => none
        else none
      | none => none
    else none
  | _ => none
open Classical in
noncomputable def sFL (x : Str) (c : Nat) (t : Tg) (fi : Iv) (fe : Ev) : Sm := fun env => if h : ∃ r, ∀ v, sFLv x c t fi fe v env = some r then some (.nx, choose h) else none
theorem sFL_of {x : Str} {c : Nat} {t : Tg} {fi : Iv} {fe : Ev} {env r : Env'} (h : ∀ v, sFLv x c t fi fe v env = some r) : sFL x c t fi fe env = some (.nx, r) := by
  unfold sFL
  have hx : ∃ r, ∀ v, sFLv x c t fi fe v env = some r := ⟨r, h⟩
  rw [dif_pos hx]
  have a := Classical.choose_spec hx .non
  rw [h .non] at a
  rw [← Option.some.inj a]
theorem sFL_some {x : Str} {c : Nat} {t : Tg} {fi : Iv} {fe : Ev} {env : Env'} {r : Out × Env'} (h : sFL x c t fi fe env = some r) : ∃ e, r = (.nx, e) ∧ ∀ v, sFLv x c t fi fe v env = some e := by
  unfold sFL at h
  split at h
  · rename_i hx
    cases h
    exact ⟨_, rfl, Classical.choose_spec hx⟩
  · cases h
theorem putF_same {x : Str} {v : V} : ∀ {gs : List (Str × V)}, gs.lookup x = some v → putF x v gs = gs
  | [], h => by cases h
  | (y, u) :: r, h => by
    rw [List.lookup_cons] at h
    unfold putF
    by_cases hx : y = x
    · rw [if_pos hx]
      have hb : (x == y) = true := by rw [hx]; exact beq_self_eq_true x
      rw [hb] at h
      cases h
      rfl
    · rw [if_neg hx]
      have hb : (x == y) = false := beq_eq_false_iff_ne.mpr fun z => hx z.symm
      rw [hb] at h
      rw [putF_same h]
theorem upd_same_fn {H : Hp} {a : Addr} {o : HO} (h : H a = some o) : upd H a o = H := funext fun b => by
  by_cases hb : b = a
  · subst hb; rw [upd_same, h]
  · rw [upd_ne hb]
section
variable {K : PySem.W.Frag} {cl : Nat → Addr} {X : Cx} {σ σ1 : L2.St} {H S H1 S1 H' S' : Hp} {env env1 env' : Env'} {pos pos1 : Pos} {tg : Expr}
/-- at the end of the loop: the list is let stay -/
theorem fld_end {x : Str} {c : Nat} {b : Addr} {S1 : Hp} {σc : L2.St} {ec : Env'} {Hc Sc : Hp} {acc : List D} {av : List V} {fs2 : List (Str × D)} (hb : H b = none) (m : Mid K cl σ env H S S1 b σc ec Hc Sc acc av) (hr : rawAt x c (.ref b) ec = some fs2) :
    ∃ S', SOk K cl σc Hc S' (ec.set 0 (.par (.ins c (putD x (.lst acc) fs2)))) ∧ Fr σ env H S σc (ec.set 0 (.par (.ins c (putD x (.lst acc) fs2)))) Hc S' := by
  obtain ⟨e0, el⟩ := rawAt_some hr
  obtain ⟨a, ea, hS, dx, gs, hv, rF⟩ := m.ok.own 0 _ _ e0 rfl
  have hab : a ≠ b := fun z => m.nown (by subst z; exact ⟨0, _, _, e0, rfl, ea⟩)
  obtain ⟨v, l1, l2⟩ := rF.look el
  have l2' : v = .ref b := l2
  subst l2'
  have s2 := m.ok.shareNew (a := b) (m := .lst acc) ⟨m.free, av, m.at_, m.reps⟩ m.at_ m.nown
  have f2 : Fr σ env H S σc ec Hc (upd Sc b (.lst av)) := by
    refine ⟨m.fr.keep, m.fr.mono.comp (Sub.upd m.free), fun y o h h2 h3 => ?_, m.fr.back, m.fr.par⟩
    rw [upd_ne (fun z => by subst z; rw [hb] at h; cases h)]
    exact m.fr.priv y o h h2 h3
  have r2 : Rep K cl (upd Sc b (.lst av)) (.lst acc) (.ref b) := ⟨b, av, rfl, upd_same, m.reps.mono (Sub.upd m.free)⟩
  have rF2 : RepF K cl (upd Sc b (.lst av)) (putD x (.lst acc) fs2) gs := by
    have := (rF.mono (Sub.upd (o := .lst av) m.free)).put (f := x) r2
    rw [putF_same l1] at this
    exact this
  have hS2 : upd Sc b (.lst av) a = none := by rw [upd_ne hab]; exact hS
  obtain ⟨z1, z2⟩ := s2.mutate (m' := .ins c (putD x (.lst acc) fs2)) (o := .ins (cl c) dx gs) e0 rfl ea ⟨hS2, dx, gs, upd_same, rF2⟩
  rw [upd_same_fn hv] at z1 z2
  exact ⟨_, z1, f2.trans z2⟩
theorem bx_fld {x : Str} {c : Nat} {t : Tg} {fi : Iv} {fe : Ev} {fr : Sm} {o1 o2 iter e : Expr} {rest : List Stmt} {p1 p2 lp apos cpos epos : Pos} (hC : Cls X.K (cl c)) (hn : NoAttr X.K (cl c) x) (ho1 : PE X o1 (tVar 0)) (ho2 : PE X o2 (tVar 0))
    (hp : PassesOwn (model X.prog X.w) X.A X.env X.xe) (hc : X.calm = true) (hi : IX X cl tg iter fi) (hg : GX X cl tg t) (he : EX X cl e fe) (hr : BX X cl rest fr)
    (hs1 : swapsWith (.List [] lp) (some (.Attribute o1 x p1)) pos1.line X.env = pure false := by rfl) (hb2 : attributeBase o2 x X.env (eval o2 X.env) = eval o2 X.env := by rfl)
    (hbase : attributeBase (.Attribute o2 x p2) "append" X.env (eval (.Attribute o2 x p2) X.env) = eval (.Attribute o2 x p2) X.env := by rfl)
    (hfew : ((backTo cpos (starEach [e] X.env)).all (fun x => !x.1) && (backToKw cpos (keywordEach [] X.env)).all (fun x => x.1.isSome) && decide ([e].length + ([] : List Keyword).length + (if ([] : List Keyword).isEmpty then 0 else 1) < 30)) = true := by rfl)
    (hline : (apos.endLine == cpos.line) = true := by rfl) (hs : starEach [e] X.env = (false, eval e X.env) :: starEach [] X.env := by rfl) (hpl : (backTo cpos (starEach [] X.env)).any (·.1) = false := by rfl)
    (hsw : swapsWith (.Call (.Attribute (.Attribute o2 x p2) "append" apos) [e] [] cpos) none epos.line X.env = pure false := by rfl)
    (hfs : ∀ x, foldedSetIterable iter X.env x = pure x := by intro _; rfl) :
    BX X cl (.Assign [.Attribute o1 x p1] (.List [] lp) pos1 :: .For tg iter [.Expr (.Call (.Attribute (.Attribute o2 x p2) "append" apos) [e] [] cpos) epos] [] pos :: rest) (sSeq (sFL x c t fi fe) fr) :=
  pss_mono (pss_cons (ps_fld ho1 (pe_lst pa_nil) hs1) (pss_cons (ps_for hp hc hi hg (pss_cons (ps_expr (pe_bm PySem.F.plainAttrs_list PySem.F.slot_list_append PySem.F.type_list_append mt_append (pe_fld ho2 hb2) (pa_cons (ex_fz he) pa_nil hs) hbase hfew hline hs hpl) hsw) pss_nil) hfs) hr)) fun D σ H ⟨S, env, out, env', s, w, p⟩ => by
    have w' : ∃ e1, sFL x c t fi fe env = some (.nx, e1) ∧ fr e1 = some (out, env') := by
      unfold sSeq at w
      split at w
      · rename_i e1 w1
        exact ⟨e1, w1, w⟩
      · rename_i r n
        obtain ⟨e, q, _⟩ := sFL_some w
        cases q
        exact absurd w (n _)
    obtain ⟨er, w0, wr⟩ := w'
    obtain ⟨er', q, wv⟩ := sFL_some w0
    cases q
    refine ⟨Nat.zero_le _, fun b hb => ?_⟩
    have wb := wv (.ref b)
    unfold sFLv at wb
    split at wb
    · rename_i c' fs e0
      split at wb
      · rename_i hcl
        obtain ⟨rfl, hlen⟩ := hcl
        split at wb
        · rename_i ds e1 w1
          split at wb
          · rename_i hdl
            split at wb
            · rename_i fs1 w2
              split at wb
              · rename_i ys e2 w3
                obtain ⟨fs2, w4, w5⟩ := Option.map_eq_some_iff.mp wb
                subst w5
                obtain ⟨a, ea, hS, dx, gs, hv, rF⟩ := s.own 0 _ _ e0 rfl
                have hab : a ≠ b := fun z => by subst z; rw [hv] at hb; cases hb
                have Sb : S b = none := by
                  cases z : S b with
                  | none => rfl
                  | some o => rw [s.sub b o z] at hb; cases hb
                have nb : ¬ Owned σ env b := fun z => by
                  obtain ⟨o, ho⟩ := s.there z
                  rw [hb] at ho; cases ho
                have s1 := s.poke (o := .lst []) Sb nb
                have f1 : Fr σ env H S σ env (upd H b (.lst [])) S := Fr.poke Fr.same (.inr hb)
                obtain ⟨z1, z2⟩ := s1.mutate (m' := .ins c' (putD x (.raw (.ref b)) fs)) (o := .ins (cl c') dx (putF x (.ref b) gs)) e0 rfl ea ⟨hS, dx, _, upd_same, rF.put (d := .raw (.ref b)) (v := .ref b) (show Rep X.K cl S (.raw (.ref b)) (.ref b) from rfl)⟩
                refine ⟨.ref a, ea, a, _, dx, gs, rfl, by rw [upd_ne hab]; exact hv, hC, hn, by rw [← rF.len]; exact hlen, ?_⟩
                have f2 := f1.trans z2
                have nb2 : ¬ Owned σ (env.set 0 (.par (.ins c' (putD x (.raw (.ref b)) fs)))) b := fun z => (z2.back b z).elim nb fun z => by
                  rw [upd_same] at z; cases z
                have m0 : Mid X.K cl σ env H S S b σ (env.set 0 (.par (.ins c' (putD x (.raw (.ref b)) fs)))) (upd (upd H b (.lst [])) a (.ins (cl c') dx (putF x (.ref b) gs))) S [] [] :=
                  ⟨z1, f2, Sub.rfl', nb2, Sb, (upd_ne (Ne.symm hab)).trans upd_same, rfl⟩
                refine ⟨S, _, ds, e1, z1, w1, fun J H4 S4 s4 f4 it => ?_⟩
                have m4 := m0.go s4 f4
                have m4' : Mid X.K cl σ env H S S4 b σ e1 H4 S4 [] [] := ⟨m4.ok, m4.fr, Sub.rfl', m4.nown, m4.free, m4.at_, m4.reps⟩
                refine ⟨fun i k σc Hc => ∃ Sc ec acc av, k = ds.length - i ∧ i ≤ ds.length ∧ Mid X.K cl σ env H S S4 b σc ec Hc Sc acc av ∧ acc.length ≤ i ∧ ∃ r, fldL x c' (.ref b) t fe (ds.drop i) ec = some (r, e2) ∧ ys = acc ++ r,
                  ⟨_, S4, e1, [], [], rfl, Nat.zero_le _, m4', Nat.le_refl _, ys, w3, rfl⟩, ?_⟩
                rintro i k σc Hc ⟨Sc, ec, acc, av, rfl, hi, mc, la, r, wr2, er2⟩
                obtain ⟨ia, ib⟩ := it i Hc Sc mc.sub mc.ok.sub
                cases hd : ds[i]? with
                | none =>
                  rw [drop_none hd] at wr2
                  cases wr2
                  rw [List.append_nil] at er2
                  subst er2
                  obtain ⟨Sf, y1, y2⟩ := fld_end hb mc w4
                  exact .inl ⟨ib (endL hd hi), tSm_go y2 y1 wr p⟩
                | some d =>
                  rw [drop_some hd] at wr2
                  have hlt : i < ds.length := (List.getElem?_eq_some_iff.mp hd).1
                  obtain ⟨go, yl⟩ := ia d hd
                  refine .inr ⟨go, fun σ' H' => ∃ Sc ec acc av, Mid X.K cl σ env H S S4 b σ' ec H' Sc acc av ∧ acc.length ≤ i + 1 ∧ ∃ r, fldL x c' (.ref b) t fe (ds.drop (i + 1)) ec = some (r, e2) ∧ ys = acc ++ r, ?_, ?_⟩
                  · rintro σ' H' ⟨Sn, en, acn, avn, a1, a2, a3⟩
                    exact ⟨_, by omega, Sn, en, acn, avn, rfl, hlt, a1, a2, a3⟩
                  · intro xv H' hy
                    obtain ⟨S', gr, rx⟩ := yl xv H' hy
                    have mg := mc.go (mc.ok.gr gr) (mc.ok.fr gr)
                    have wr3 : (match asg t d ec with
                      | some e1 => match rawAt x c' (.ref b) e1 with
                        | some _ => match fz fe e1 with
                          | some (.val y, e2) => match rawAt x c' (.ref b) e2 with
                            | some _ => (fldL x c' (.ref b) t fe (ds.drop (i + 1)) e2).map fun p => (y :: p.1, p.2)
                            | none => none
                          | _ => none
                        | none => none
                      | none => none) = some (r, e2) := wr2
                    split at wr3
                    · rename_i e3 u3
                      split at wr3
                      · rename_i fs3 u4
                        split at wr3
                        · rename_i y e5 u5
                          split at wr3
                          · rename_i fs5 u6
                            obtain ⟨pr, u7, u8⟩ := Option.map_eq_some_iff.mp wr3
                            obtain ⟨r', e7⟩ := pr
                            cases u8
                            refine ⟨S', ec, d, e3, mg.ok, rx, u3, fun σ3 H3 S3 s3 f3 _ => ?_⟩
                            have m3 := mg.go s3 f3
                            obtain ⟨q0, ql⟩ := rawAt_some u4
                            obtain ⟨a3, ea3, hS3, dx3, gs3, hv3, rF3⟩ := s3.own 0 _ _ q0 rfl
                            obtain ⟨v3, l1, l2⟩ := rF3.look ql
                            have l2' : v3 = .ref b := l2
                            subst l2'
                            refine ⟨.ref a3, ea3, a3, _, dx3, gs3, .ref b, rfl, hv3, hC, hn, l1, .inl ⟨rfl, av, .of m3.at_⟩, S3, e3, _, e5, s3, u5, fun yv H5 S5 s5 f5 b5 => ?_⟩
                            have m5 := m3.go s5 f5
                            have lav : av.length = acc.length := m5.reps.len.symm
                            refine ⟨b, av, yv, rfl, rfl, m5.at_, by omega, ?_⟩
                            exact ⟨S5, e5, acc ++ [y], av ++ [yv], m5.add (.inr hb) b5, by rw [List.length_append]; simp; exact la, r', u7, by rw [List.append_assoc]; exact er2⟩
                          · cases wr3
                        · cases wr3
                      · cases wr3
                    · cases wr3
              · cases wb
            · cases wb
          · cases wb
        · cases wb
      · cases wb
    · cases wb
end
end VL

set_option Elab.async false
set_option linter.all false
set_option maxRecDepth 100000
set_option maxHeartbeats 1000000
/-! VLq: the law's own call, its promise for where no repr runs around. -/
namespace VL
open PySem PySem.Spec PyProof.Rows L2
theorem nilmem {b : Addr} : ¬ b ∈ ([] : List Addr) := by simp
section
variable {P : Program} {w : World} {K : PySem.W.Frag} {mg gb : Str → Option Value} {k : Nat} {g a : Addr} {fd : FuncData} {y : Str} {sp : Sp} {s : Shared} {us : List Value} {zs : List Int}
/-- from an abstract heap with the script alone, or with nothing -/
theorem own_core (kin : K.In s.heap) (gm : s.heap.Ns mainGlobals mg) (gbn : s.heap.Ns builtinsNs gb) (boot : ∀ x : Str, x ≠ "__name__" → gb x = bootBuiltins x) (lim : s.heap.NoLimit) (nog : s.gens = #[])
    (la : s.heap.get? a = some { cls := .type "list", data := .seq us.toArray }) (rm : Room k callerA) (F : ∀ base : Heap, K.In base → base.Ns mainGlobals mg → GFn P w K mg base k g fd [y] sp) (bnd : ∀ (t : Shared) (u : Value), BindsTo t fd ⟨[u], []⟩ [(y, u)])
    {H : Hp} (only : Only H) (start : sp [.ref a] H (fun v _ => v = .bl true) E0) (hk : HOk P w H s.heap) (lone : ∀ b, H b ≠ none → b = a) (apart : H a ≠ none → K.lookup a = none) :
    codeAny (model P w) callerA (.call (.ref g) ⟨[.ref a], []⟩) (fun r t => r = .ok (.ret (.bool true)) ∧ OldK s.heap t.heap ∧ t.os = s.os ∧ AllBare t.gens) s := by
  have dictfree : ∀ {b : Addr} {o : Obj} {es : Array DictEntry} {ep : Nat}, s.heap.get? b = some o → o.data = .dict es ep → H b = none := by
    intro b o es ep ho hd
    by_cases z : H b = none
    · exact z
    · rw [lone b z, la] at ho
      cases ho
      exact absurd (show Data.seq us.toArray _ = Data.dict es ep from hd) nofun
  have keepNs : ∀ {b : Addr} {m : Str → Option Value}, s.heap.Ns b m → (hidT s.heap H).Ns b m := by
    rintro b m ⟨o, es, ep, ho, hd, r⟩
    exact ⟨o, es, ep, hidT_get ho (dictfree ho hd), hd, r⟩
  have kin' : K.In (hidT s.heap H) := by
    intro b o hb
    refine hidT_get (kin b o hb) ?_
    by_cases z : H b = none
    · exact z
    · have e := lone b z
      rw [e] at hb z
      rw [apart z] at hb
      cases hb
  obtain ⟨lm, l1, l2⟩ := lim
  have md : Mod K mg (hidT s.heap H) := ⟨kin', keepNs gm, ⟨gb, keepNs gbn, boot⟩, lm, keepNs l1, l2⟩
  have env : Env0 P w K mg (hidT s.heap H) callerA [] s H := ⟨rfl, md, fun _ _ q => of_hidT q, Nat.le_of_eq (hidT_size _ _), trivial, fun _ q => (nilmem q).elim, hk, .of_eq nog⟩
  have run := (F _ kin' (keepNs gm)).run callerA [] s H ⟨[.ref a], []⟩ [.ref a] [.ref a] _ E0 rfl rm env (bnd s (.ref a)) (.cons rfl .nil) start
  refine codeAny_mono run ?_
  intro r t post
  match r, post with
  | .error e, post => exact post.elim
  | .ok .next, post => exact post.elim
  | .ok .brk, post => exact post.elim
  | .ok .cont, post => exact post.elim
  | .ok (.ret u), ⟨v, Hn, sameOs, bareG, untouched, hkn, rel, isT⟩ =>
    cases (show v = .bl true from isT)
    cases (show u = Value.bool true from rel)
    refine ⟨rfl, OldK.of_keep ?_, sameOs, bareG⟩
    intro b o ho
    rcases only b with z | ⟨ob, xs, z⟩
    · exact untouched.keep b o ho z (fun q => (nilmem q).elim) (by simp)
    · have before := (hk b _ z).1
      rw [ho] at before
      cases before
      exact (hkn b _ (untouched.frzs b _ _ z)).1
/-- the law is called -/
theorem own_call (kin : K.In s.heap) (gm : s.heap.Ns mainGlobals mg) (gbn : s.heap.Ns builtinsNs gb) (boot : ∀ x : Str, x ≠ "__name__" → gb x = bootBuiltins x) (lim : s.heap.NoLimit) (nog : s.gens = #[])
    (la : s.heap.get? a = some { cls := .type "list", data := .seq us.toArray }) (itz : IntsAre us zs) (short : zs.length ≤ sizeLine) (rm : Room k callerA) (F : ∀ base : Heap, K.In base → base.Ns mainGlobals mg → GFn P w K mg base k g fd [y] sp)
    (bnd : ∀ (t : Shared) (u : Value), BindsTo t fd ⟨[u], []⟩ [(y, u)]) (start : ∀ H : Hp, Only H → SqL K H a (zs.map V.int) → sp [.ref a] H (fun v _ => v = .bl true) E0) :
    codeAny (model P w) callerA (.call (.ref g) ⟨[.ref a], []⟩) (fun r t => r = .ok (.ret (.bool true)) ∧ OldK s.heap t.heap ∧ t.os = s.os ∧ AllBare t.gens) s := by
  have vs := vals_ints itz
  have ln := itz.length
  by_cases own : K.lookup a = none
  · have at_a : (fun b => if b = a then some (HO.frz { cls := .type "list", data := .seq us.toArray } (.lst (zs.map V.int))) else none) a = some (HO.frz { cls := .type "list", data := .seq us.toArray } (.lst (zs.map V.int))) := if_pos rfl
    have off : ∀ b, b ≠ a → (fun b => if b = a then some (HO.frz { cls := .type "list", data := .seq us.toArray } (.lst (zs.map V.int))) else none) b = none := fun b n => if_neg n
    have only : Only (fun b => if b = a then some (HO.frz { cls := .type "list", data := .seq us.toArray } (.lst (zs.map V.int))) else none) := by
      intro b
      by_cases e : b = a
      · rw [e]; exact .inr ⟨_, _, at_a⟩
      · exact .inl (off b e)
    refine own_core kin gm gbn boot lim nog la rm F bnd only (start _ only (.inl (.inr ⟨_, at_a⟩))) ?_ (fun b z => ?_) fun _ => own
    · intro b u z
      by_cases e : b = a
      · rw [e] at z ⊢
        have z2 := at_a.symm.trans z
        cases z2
        exact ⟨la, by rw [List.length_map]; exact short, us, _, vs, la⟩
      · exact nomatch (off b e).symm.trans z
    · by_cases e : b = a
      · exact e
      · exact (z (off b e)).elim
  · cases kl : K.lookup a with
    | none => exact (own kl).elim
    | some o =>
      have same := kin a o kl
      rw [la] at same
      cases same
      have only : Only (fun _ => none) := fun _ => .inl rfl
      have empty : ∀ (b : Addr) (u : HO), (none : Option HO) = some u → False := fun _ _ z => nomatch z
      exact own_core kin gm gbn boot lim nog la rm F bnd only (start _ only (.inr ⟨_, us.toArray, _, kl, rfl, rfl, rfl, by rw [List.size_toArray, ln]; exact short, by simpa using vs⟩)) (fun b u z => (empty b u z).elim) (fun b z => (z rfl).elim) fun z => (z rfl).elim
end
/-- what a head leaves of a law -/
theorem own_walk {l : PySem.W.OpenLaw} {n k : Nat} {q : Program} {loose : List Str} {XP : (Str → Option Value) → Heap → Prop} {YP : World → Heap → Prop} {d : DefRec} {y : Str}
    (many : l.most = some n) (few : n ≤ sizeLine) (nodef : d.params.defaults = []) (rm : Room k callerA)
    (F : ∀ (w : World) (mg : Str → Option Value) (g : Addr) (h : Heap), YP w h → h.Ns mainGlobals mg → mg d.name = some (.ref g) →
      ∃ (K : PySem.W.Frag) (fd : FuncData) (sp : Sp), K.In h ∧ (∀ (t : Shared) (u : Value), BindsTo t fd ⟨[u], []⟩ [(y, u)]) ∧
        (∀ (H : Hp) (a : Addr) (zs : List Int), zs.length ≤ n → SqL K H a (zs.map V.int) → sp [.ref a] H (fun v _ => v = .bl true) E0) ∧
        ∀ base : Heap, K.In base → base.Ns mainGlobals mg → GFn l.prog w K mg base k g fd [y] sp) :
    PySem.W.WalkO q loose XP YP l.row.toRowW d [] (fun f vs => PySem.call f vs) := by
  refine Att.attach_call many nodef ?_
  intro w s0 s1 mg gb g o pm cd doc a us zs G Y ho hd hcd hmg la itz short nog
  obtain ⟨K, fd, sp, kin, bnd, start, run⟩ := F w mg g _ Y G.T.g hmg
  exact own_call kin G.T.g G.T.b G.T.builtins G.T.nolimit nog la itz (Nat.le_trans short few) rm run bnd fun H _ hq => start H a zs short hq
end VL

set_option Elab.async false
set_option linter.all false
set_option maxRecDepth 100000
set_option maxHeartbeats 1000000
/-! VLr: expressions that only read; callees, by name. -/
namespace VL
open PySem PySem.Spec PyProof.Rows L2
/-! ### all is lent, nothing is kept but a flat value -/
def Sl.lend : Sl → Sl
  | .own m => .val m.toD
  | .par m => .val m.toD
  | l => l
def scalD : D → Bool
  | .non => true
  | .bl _ => true
  | .int _ => true
  | .str _ => true
  | _ => false
def pureE (f : Ev) : Ev := fun env => match f (env.map Sl.lend) with
  | some (.val d, _) => if scalD d = true then some (.val d, env) else none
  | _ => none
section
variable {K : PySem.W.Frag} {cl : Nat → Addr} {X : Cx} {σ : L2.St} {H S H' S' : Hp} {env env' : Env'}
theorem scal_rep {d : D} {v : V} (h : scalD d = true) (r : Rep K cl S d v) (S' : Hp) : Rep K cl S' d v := by
  cases d with
  | non => exact r
  | bl b => exact r
  | int i => exact r
  | str x => exact r
  | _ => cases h
open Classical in
/-- what stays, and what is lent -/
noncomputable def lendS (σ : L2.St) (env : Env') (H S : Hp) : Hp := fun b => if Owned σ env b then H b else S b
theorem lend_own (σ : L2.St) (env : Env') (b : Addr) : ¬ Owned σ (env.map Sl.lend) b := fun ⟨i, l, m, h1, h2, _⟩ => by
  rw [List.getElem?_map] at h1
  obtain ⟨l0, _, e⟩ := Option.map_eq_some_iff.mp h1
  subst e
  cases l0 <;> cases h2
theorem SOk.lend (s : SOk K cl σ H S env) : SOk K cl σ H (lendS σ env H S) (env.map Sl.lend) ∧ Sub S (lendS σ env H S) := by
  have up : Sub S (lendS σ env H S) := fun b o h => by
    unfold lendS
    by_cases n : Owned σ env b
    · rw [s.priv n] at h; cases h
    · rw [if_neg n]; exact h
  refine ⟨⟨fun b o h => ?_, by rw [List.length_map]; exact s.len, fun i d h => ?_, fun i l m h h2 => ?_, fun i j l l' m m' a h1 h2 _ _ h5 _ => ?_⟩, up⟩
  · unfold lendS at h
    by_cases n : Owned σ env b
    · rw [if_pos n] at h; exact h
    · rw [if_neg n] at h; exact s.sub b o h
  · rw [List.getElem?_map] at h
    obtain ⟨l0, e0, e⟩ := Option.map_eq_some_iff.mp h
    cases l0 with
    | no => cases e
    | val d' =>
      cases e
      obtain ⟨v, q, r⟩ := s.val i _ e0
      exact ⟨v, q, r.mono up⟩
    | own m =>
      cases e
      obtain ⟨a, q, o⟩ := s.own i _ m e0 rfl
      have on : Owned σ env a := ⟨i, _, m, e0, rfl, q⟩
      refine ⟨.ref a, q, ?_⟩
      cases m with
      | lst xs =>
        obtain ⟨_, vs, hv, r⟩ := o
        exact ⟨a, vs, rfl, by unfold lendS; rw [if_pos on]; exact hv, r.mono up⟩
      | ins c fs =>
        obtain ⟨_, dx, gs, hv, r⟩ := o
        exact ⟨a, dx, gs, rfl, by unfold lendS; rw [if_pos on]; exact hv, r.mono up⟩
    | par m =>
      cases e
      obtain ⟨a, q, o⟩ := s.own i _ m e0 rfl
      have on : Owned σ env a := ⟨i, _, m, e0, rfl, q⟩
      refine ⟨.ref a, q, ?_⟩
      cases m with
      | lst xs =>
        obtain ⟨_, vs, hv, r⟩ := o
        exact ⟨a, vs, rfl, by unfold lendS; rw [if_pos on]; exact hv, r.mono up⟩
      | ins c fs =>
        obtain ⟨_, dx, gs, hv, r⟩ := o
        exact ⟨a, dx, gs, rfl, by unfold lendS; rw [if_pos on]; exact hv, r.mono up⟩
  · rw [List.getElem?_map] at h
    obtain ⟨l0, _, e⟩ := Option.map_eq_some_iff.mp h
    subst e
    cases l0 <;> cases h2
  · rw [List.getElem?_map] at h1
    obtain ⟨l0, _, e⟩ := Option.map_eq_some_iff.mp h1
    subst e
    cases l0 <;> cases h2
theorem ex_pure {e : Expr} {f : Ev} (h : EX X cl e f) : EX X cl e (pureE f) := pe_mono h fun σ H Q ⟨S, env, bv, env', s, w, q⟩ => by
  unfold pureE at w
  split at w
  · rename_i d e1 w1
    split at w
    · rename_i hd
      cases w
      obtain ⟨s2, up⟩ := s.lend
      refine ⟨_, _, _, e1, s2, w1, fun v H' S' s' f' b' => ?_⟩
      have keep : Sub H H' := fun b o hb => f'.keep b o hb (lend_own σ env b)
      have g : Gr H S H' S := ⟨keep, Sub.rfl', s.sub.comp keep, fun _ _ _ h => h⟩
      exact q v H' S (s.gr g) (s.fr g) (scal_rep hd b' S)
    · cases w
  · cases w
end
/-! ### callees -/
section
variable {P : Program} {w : World} {K : PySem.W.Frag} {mg : Str → Option Value} {base : Heap} {cl : Nat → Addr}
/-- the def x of the module takes n values -/
structure CalF (P : Program) (w : World) (K : PySem.W.Frag) (mg : Str → Option Value) (base : Heap) (cl : Nat → Addr) (k : Nat) (x : Str) (n : Nat) (M : List D → Option Bv) : Prop where
  at_ : ∃ f fd ps, mg x = some (.ref f) ∧ PySem.W.keepIn K (.ref f) = true ∧ Binds K fd ps [] ∧ FnOk P w K mg base CX0 k f fd ps (spV K cl n M)
structure CalG (P : Program) (w : World) (K : PySem.W.Frag) (mg : Str → Option Value) (base : Heap) (cl : Nat → Addr) (k : Nat) (x : Str) (n : Nat) (M : List D → Option Bv) : Prop where
  at_ : ∃ f fd ps, mg x = some (.ref f) ∧ PySem.W.keepIn K (.ref f) = true ∧ Binds K fd ps [] ∧ GFn P w K mg base k f fd ps (spV K cl n M)
/-- .. it may change its first argument -/
structure CalI (P : Program) (w : World) (K : PySem.W.Frag) (mg : Str → Option Value) (base : Heap) (cl : Nat → Addr) (k : Nat) (x : Str) (n : Nat) (M : MO → List D → Option (Bv × MO)) : Prop where
  at_ : ∃ f fd ps, mg x = some (.ref f) ∧ PySem.W.keepIn K (.ref f) = true ∧ Binds K fd ps [] ∧ FnOk P w K mg base CX0 k f fd ps (spI K cl n M)
structure CalJ (P : Program) (w : World) (K : PySem.W.Frag) (mg : Str → Option Value) (base : Heap) (cl : Nat → Addr) (k : Nat) (x : Str) (n : Nat) (M : MO → List D → Option (Bv × MO)) : Prop where
  at_ : ∃ f fd ps, mg x = some (.ref f) ∧ PySem.W.keepIn K (.ref f) = true ∧ Binds K fd ps [] ∧ GFn P w K mg base k f fd ps (spI K cl n M)
/-- a method of the class c -/
structure CalM (P : Program) (w : World) (K : PySem.W.Frag) (mg : Str → Option Value) (base : Heap) (cl : Nat → Addr) (k : Nat) (c : Nat) (x : Str) (n : Nat) (M : List D → Option Bv) : Prop where
  at_ : ∃ f fd ps, Meth K (cl c) x f ∧ Binds K fd ps [] ∧ FnOk P w K mg base CX0 k f fd ps (spV K cl n M)
  cls : Cls K (cl c)
/-- the class c, its __init__ -/
structure CalC (P : Program) (w : World) (K : PySem.W.Frag) (mg : Str → Option Value) (base : Heap) (cl : Nat → Addr) (k : Nat) (c : Nat) (x : Str) (n : Nat) (M : MO → List D → Option (Bv × MO)) : Prop where
  at_ : ∃ f fd ps, mg x = some (.ref (cl c)) ∧ Mk K (cl c) f ∧ Binds K fd ps [] ∧ FnOk P w K mg base CX0 k f fd ps (spI K cl n M)
end
section
variable {X : Cx} {cl : Nat → Addr} {j k n c : Nat} {x : Str} {p pos apos : Pos} {o e : Expr} {es : List Expr} {g : Evs} {fo : Ev} {M : List D → Option Bv} {M2 : MO → List D → Option (Bv × MO)}
theorem ex_f (C : CalF X.prog X.w X.K X.mg X.base cl j x n M) (hr : Room k X.A) (hj : j ≤ k) (hn : ∀ ds bv, M ds = some bv → ds.length = n) (hg : Gl X x) (ha : AX X cl (e :: es) g)
    (hdb : (x == ("__debug__" : Str)) = false := by decide) (h1 : starEach (e :: es) X.env = (false, eval e X.env) :: starEach es X.env := by rfl) (h2 : (backTo pos (starEach es X.env)).any (·.1) = false := by rfl) : EX X cl (.Call (.Name x p) (e :: es) [] pos) (eCall M g) := by
  obtain ⟨f, fd, ps, m, kp, b, F⟩ := C.at_
  exact ex_call (RunOk.of F (hr.mono hj) b) hn hg m kp ha hdb h1 h2
theorem ex_g (C : CalG X.prog X.w X.K X.mg X.base cl j x n M) (hG : X.A.guards = some []) (hr : Room k X.A) (hj : j ≤ k) (hn : ∀ ds bv, M ds = some bv → ds.length = n) (hg : Gl X x) (ha : AX X cl (e :: es) g)
    (hdb : (x == ("__debug__" : Str)) = false := by decide) (h1 : starEach (e :: es) X.env = (false, eval e X.env) :: starEach es X.env := by rfl) (h2 : (backTo pos (starEach es X.env)).any (·.1) = false := by rfl) : EX X cl (.Call (.Name x p) (e :: es) [] pos) (eCall M g) := by
  obtain ⟨f, fd, ps, m, kp, b, F⟩ := C.at_
  exact ex_call (RunOk.ofG F hG (hr.mono hj) b) hn hg m kp ha hdb h1 h2
theorem ex_i (C : CalI X.prog X.w X.K X.mg X.base cl j x n M2) (hr : Room k X.A) (hj : j ≤ k) (hn : ∀ m ds r, M2 m ds = some r → ds.length + 1 = n) (hg : Gl X x) (ha : AX X cl (e :: es) g)
    (hdb : (x == ("__debug__" : Str)) = false := by decide) (h1 : starEach (e :: es) X.env = (false, eval e X.env) :: starEach es X.env := by rfl) (h2 : (backTo pos (starEach es X.env)).any (·.1) = false := by rfl) : EX X cl (.Call (.Name x p) (e :: es) [] pos) (eCallI M2 g) := by
  obtain ⟨f, fd, ps, m, kp, b, F⟩ := C.at_
  exact ex_callI (RunOk.of F (hr.mono hj) b) hn hg m kp ha hdb h1 h2
theorem ex_j (C : CalJ X.prog X.w X.K X.mg X.base cl j x n M2) (hG : X.A.guards = some []) (hr : Room k X.A) (hj : j ≤ k) (hn : ∀ m ds r, M2 m ds = some r → ds.length + 1 = n) (hg : Gl X x) (ha : AX X cl (e :: es) g)
    (hdb : (x == ("__debug__" : Str)) = false := by decide) (h1 : starEach (e :: es) X.env = (false, eval e X.env) :: starEach es X.env := by rfl) (h2 : (backTo pos (starEach es X.env)).any (·.1) = false := by rfl) : EX X cl (.Call (.Name x p) (e :: es) [] pos) (eCallI M2 g) := by
  obtain ⟨f, fd, ps, m, kp, b, F⟩ := C.at_
  exact ex_callI (RunOk.ofG F hG (hr.mono hj) b) hn hg m kp ha hdb h1 h2
theorem ex_m {pl : Sem Bool} (C : CalM X.prog X.w X.K X.mg X.base cl j c x n M) (hr : Room k X.A) (hj : j ≤ k) (hn : ∀ ds bv, M ds = some bv → ds.length = n) (he : EX X cl o fo) (ha : AX X cl (e :: es) g)
    (hst : starEach (e :: es) X.env = (false, eval e X.env) :: starEach es X.env := by rfl) (hpl : (backTo pos (starEach es X.env)).any (·.1) = false := by rfl)
    (ht : eval (.Call (.Attribute o x apos) (e :: es) [] pos) X.env = (do
      let ov ← eval o X.env
      standAt apos.atName
      let (f, first) ← holding [ov] (getMethod ov x pl)
      callWith pos f first (backTo pos (starEach (e :: es) X.env)) (backToKw pos (keywordEach [] X.env))) := by rfl) : EX X cl (.Call (.Attribute o x apos) (e :: es) [] pos) (eMeth c x M fo g) := by
  obtain ⟨f, fd, ps, m, b, F⟩ := C.at_
  exact ex_meth C.cls m F hn (hr.mono hj) b he ha hst hpl ht
theorem ex_m0 {pl : Sem Bool} (C : CalM X.prog X.w X.K X.mg X.base cl j c x n M) (hr : Room k X.A) (hj : j ≤ k) (hn : ∀ ds bv, M ds = some bv → ds.length = n) (he : EX X cl o fo)
    (ht : eval (.Call (.Attribute o x apos) [] [] pos) X.env = (do
      let ov ← eval o X.env
      standAt apos.atName
      let (f, first) ← holding [ov] (getMethod ov x pl)
      callWith pos f first (backTo pos (starEach [] X.env)) (backToKw pos (keywordEach [] X.env))) := by rfl) : EX X cl (.Call (.Attribute o x apos) [] [] pos) (eMeth c x M fo aNil) := by
  obtain ⟨f, fd, ps, m, b, F⟩ := C.at_
  exact ex_meth0 C.cls m F hn (hr.mono hj) b he ht
theorem ex_c (C : CalC X.prog X.w X.K X.mg X.base cl j c x n M2) (hr : Room k X.A) (hj : j + 1 ≤ k) (hn : ∀ m ds r, M2 m ds = some r → ds.length + 1 = n) (hg : Gl X x) (ha : AX X cl (e :: es) g)
    (hdb : (x == ("__debug__" : Str)) = false := by decide) (he : starEach (e :: es) X.env = (false, eval e X.env) :: starEach es X.env := by rfl) (hpl : (backTo pos (starEach es X.env)).any (·.1) = false := by rfl) : EX X cl (.Call (.Name x p) (e :: es) [] pos) (eMk c M2 g) := by
  obtain ⟨f, fd, ps, m, mk, b, F⟩ := C.at_
  exact ex_mk mk F hn (hr.mono hj) hg m b ha hdb he hpl
theorem ex_globI {i : Int} (h : ∃ u, X.mg x = some u ∧ RelV (.int i) u) (hg : Gl X x) (hd : (x == ("__debug__" : Str)) = false := by decide) : EX X cl (.Name x pos) (fC (.int i)) := by
  obtain ⟨u, m, r⟩ := h
  exact ex_glob hg m r (fun _ => rfl) hd
theorem hu64 {k : Nat} {A : Around} (r : Room k A) : A.units + 64 < cLine := by have := r.un; omega
theorem hu65 {k : Nat} {A : Around} (r : Room k A) : A.units + 65 < cLine := by have := r.un; omega
theorem hu100 {k : Nat} {A : Around} (r : Room k A) : A.units + 100 < cLine := by have := r.un; omega
end
end VL

set_option Elab.async false
set_option linter.all false
set_option maxRecDepth 100000
set_option maxHeartbeats 1000000
/-! VLs: blocks checked by computing; the built-ins' names. -/
namespace VL
open PySem PySem.Spec PyProof.Rows L2
def kfn (k : Scope) : Bool := match k.kind with
  | .function => true
  | _ => false
def isFree (y : NameKind) : Bool := match y with
  | .free => true
  | _ => false
def isLC (y : NameKind) : Bool := match y with
  | .local => true
  | .cell => true
  | _ => false
def cellOr (o : Option NameKind) : Bool := match o with
  | some .cell => true
  | some .free => true
  | _ => false
def blkB (N : List Str) (sc scope : Scope) (own : List (Str × Nat)) : Bool :=
  kfn scope && (scope.names.all (fun y => decide (scope.names.lookup y.1 = some y.2)) && (own.all (fun p => decide (N[p.2]? = some p.1)) && (scope.names.all (fun y => !isFree y.2 || cellOr (sc.names.lookup y.1)) && scope.names.all fun y => !isLC y.2 || (decide (y.1 ∈ own.map (·.1)) || !decide (y.1 ∈ N)))))
theorem blk_ok {N : List Str} {sc scope : Scope} {own : List (Str × Nat)} (h : blkB N sc scope own = true) : BlkOk N sc scope own := by
  unfold blkB at h
  simp only [Bool.and_eq_true] at h
  obtain ⟨h1, h2, h3, h4, h5⟩ := h
  refine ⟨?_, fun y hy => of_decide_eq_true (List.all_eq_true.mp h2 y hy), fun p hp => of_decide_eq_true (List.all_eq_true.mp h3 p hp), fun y hy e => ?_, fun y hy e => ?_⟩
  · unfold kfn at h1
    split at h1
    · assumption
    · cases h1
  · have q := List.all_eq_true.mp h4 y hy
    rw [e] at q
    unfold cellOr at q
    generalize sc.names.lookup y.1 = o at q ⊢
    match o, q with
    | some .cell, _ => exact .inl rfl
    | some .free, _ => exact .inr rfl
  · have q := List.all_eq_true.mp h5 y hy
    have lc : isLC y.2 = true := by rcases e with e | e <;> rw [e] <;> rfl
    rw [lc] at q
    simp only [Bool.not_true, Bool.false_or, Bool.or_eq_true, decide_eq_true_eq, Bool.not_eq_true', decide_eq_false_iff_not] at q
    exact q
theorem bt_len : bootBuiltins "len" = some (.builtin "len") := by decide +kernel
theorem bt_abs : bootBuiltins "abs" = some (.builtin "abs") := by decide +kernel
theorem bt_sum : bootBuiltins "sum" = some (.builtin "sum") := by decide +kernel
theorem bt_all : bootBuiltins "all" = some (.builtin "all") := by decide +kernel
theorem bt_any : bootBuiltins "any" = some (.builtin "any") := by decide +kernel
theorem bt_max : bootBuiltins "max" = some (.builtin "max") := by decide +kernel
theorem bt_min : bootBuiltins "min" = some (.builtin "min") := by decide +kernel
theorem bt_divmod : bootBuiltins "divmod" = some (.builtin "divmod") := by decide +kernel
theorem bt_repr : bootBuiltins "repr" = some (.builtin "repr") := by decide +kernel
theorem bt_isinstance : bootBuiltins "isinstance" = some (.builtin "isinstance") := by decide +kernel
theorem bt_tuple : bootBuiltins "tuple" = some (.type "tuple") := by decide +kernel
theorem bt_list : bootBuiltins "list" = some (.type "list") := by decide +kernel
theorem bt_int : bootBuiltins "int" = some (.type "int") := by decide +kernel
theorem bt_bool : bootBuiltins "bool" = some (.type "bool") := by decide +kernel
theorem bt_str : bootBuiltins "str" = some (.type "str") := by decide +kernel
/-! ### list(range(n)) -/
theorem reps_from {K : PySem.W.Frag} {cl : Nat → Addr} {S : Hp} : ∀ (n : Nat) (lo : Int), Reps K cl S (fromN lo 1 n) ((List.range n).map fun i => V.int (lo + (i : Nat)))
  | 0, _ => rfl
  | n + 1, lo => by
    rw [List.range_succ_eq_map, List.map_cons, List.map_map]
    refine ⟨.int lo, _, by rw [show lo + ((0 : Nat) : Int) = lo by omega], rfl, ?_⟩
    have := reps_from (K := K) (cl := cl) (S := S) n (lo + 1)
    have e : ((fun i : Nat => V.int (lo + (i : Nat))) ∘ Nat.succ) = fun i : Nat => V.int (lo + 1 + (i : Nat)) := funext fun i => by
      show V.int (lo + ((i + 1 : Nat) : Int)) = _
      rw [show lo + ((i + 1 : Nat) : Int) = lo + 1 + (i : Nat) by omega]
    rw [e]
    exact this
def eLR (f : Evs) : Ev := fun env => match f env with
  | some ([.val (.int j)], e) => if 0 ≤ j ∧ j ≤ 16777216 then some (.new (.lst (fromN 0 1 j.toNat)), e) else none
  | _ => none
theorem ex_lr {X : Cx} {cl : Nat → Addr} {a : Expr} {f : Ev} {p p2 pos pos2 : Pos} (hg : Gl X "list") (hm : X.mg "list" = none) (hg2 : Gl X "range") (hm2 : X.mg "range" = none) (ha : EX X cl a f) (hc : X.calm = true)
    (na : starEach [a] X.env = (false, eval a X.env) :: starEach [] X.env := by rfl) (nb : starEach [.Call (.Name "range" p2) [a] [] pos2] X.env = (false, eval (.Call (.Name "range" p2) [a] [] pos2) X.env) :: starEach [] X.env := by rfl) :
    EX X cl (.Call (.Name "list" p) [.Call (.Name "range" p2) [a] [] pos2] [] pos) (eLR (aCons f aNil)) :=
  pe_mono (pe_listRg hc hg hm (prg_1 hg2 hm2 (ex_fzn ha) na) nb) fun σ H Q ⟨S, env, bv, env', s, w, q⟩ => by
    unfold eLR at w
    split at w
    · rename_i j e1 w1
      split at w
      · rename_i hj
        cases w
        obtain ⟨b, cs, e2, w2, w3, w4⟩ := aCons_some w1
        cases w3
        cases w4
        refine tE_fzn s w2 fun v H1 S1 s1 f1 b1 => ?_
        refine ⟨j, b1, .of_le (Int.le_refl 0) hj.2 (by omega) hj.1, fun l hl => ?_⟩
        have e0 : rgV 0 j = (List.range j.toNat).map fun i => V.int (0 + (i : Nat)) := by unfold rgV; rw [Int.sub_zero]
        obtain ⟨g, n⟩ := new_lst s1.sub hl (reps_from j.toNat 0)
        rw [e0]
        exact q _ _ _ (s1.gr g) (f1.trans (s1.fr g)) (n.ok s1 f1)
      · cases w
    · cases w
end VL

set_option Elab.async false
set_option linter.all false
set_option maxRecDepth 100000
set_option maxHeartbeats 1000000
/-! Gd: what each def makes of plain data (printed by gen.py). -/
namespace VL
open PySem PySem.Spec PyProof.Rows L2
noncomputable def b__law_source : Sm :=
  (sRet (eLst (aCons (fz (e2 dMod (eN dInt (aCons (fVar 0) aNil)) (fC (.int 2147483629)))) (aCons (fz (eIf (tO (tb (e2 dLt (fVar 0) (fC (.int 0)))) (tb (e2 dGe (fVar 0) (e2 dPow (fC (.int 10)) (fC (.int 18)))))) (eN dAbs (aCons (fVar 0) aNil)) (fC (.int 0)))) (aCons (fz (fC (.int 0))) aNil)))))
noncomputable def m__law_source : List D → Option Bv := runV 1 1 b__law_source
noncomputable def b__law_cell : Sm :=
  (sSeq (sIf (tb (e2 dLt (fVar 1) (eN dLen (aCons (fVar 0) aNil)))) (sRet (e2 dIx (fVar 0) (fVar 1))) sNx)
  (sSeq (sSet 2 (e2 dAdd (e2 dMul (e2 dMul (fC (.int 40503)) (e2 dAdd (fVar 1) (fC (.int 3)))) (e2 dAdd (fVar 1) (fC (.int 11)))) (fC (.int 617))))
  (sSeq (sFor (.nm 3) (iSq (eSl (fVar 0) pNone (pSome (fC (.int 4))))) (sSet 2 (e2 dMod (eN dInt (aCons (e2 dAdd (e2 dAdd (e2 dMul (fVar 2) (fC (.int 69621))) (e2 dMod (eN dInt (aCons (fVar 3) aNil)) (fC (.int 2147483549)))) (fC (.int 29))) aNil)) (fC (.int 2147483549)))))
  (sRet (fVar 2)))))
noncomputable def m__law_cell : List D → Option Bv := runV 4 2 b__law_cell
noncomputable def b__law_draw : Sm :=
  (sSeq (sIx 0 (fC (.int 2)) (e2 dAdd (e2 dIx (fVar 0) (fC (.int 2))) (fC (.int 1))))
  (sSeq (sIx 0 (fC (.int 0)) (e2 dMod (eN dInt (aCons (e2 dAdd (e2 dAdd (e2 dMul (e2 dIx (fVar 0) (fC (.int 0))) (fC (.int 48271))) (e2 dMul (e2 dIx (fVar 0) (fC (.int 2))) (fC (.int 2099)))) (fC (.int 97))) aNil)) (fC (.int 2147483629))))
  (sSeq (sIf (tb (e2 dGt (e2 dIx (fVar 0) (fC (.int 1))) (fC (.int 0)))) (sSeq (sAsg (.tp [(.ix 0 1), (.nm 2)]) (eN dDivmod (aCons (e2 dIx (fVar 0) (fC (.int 1))) (aCons (fVar 1) aNil))))
  (sRet (fVar 2))) sNx)
  (sSeq (sSet 3 (eN dInt (aCons (e2 dIx (fVar 0) (fC (.int 0))) aNil)))
  (sSeq (sSet 4 (e2 dMod (eN dInt (aCons (e2 dAdd (e2 dAdd (e2 dMul (fVar 3) (fVar 3)) (e2 dMul (fC (.int 3)) (fVar 3))) (e2 dIx (fVar 0) (fC (.int 2)))) aNil)) (fC (.int 2147483587))))
  (sRet (e2 dMod (eN dInt (aCons (e2 dFdiv (fVar 4) (fC (.int 128))) aNil)) (fVar 1))))))))
noncomputable def m__law_draw : MO → List D → Option (Bv × MO) := runI 5 2 b__law_draw
noncomputable def b__law_number : Sm :=
  (sRet (e2 dSub (eCallI m__law_draw (aCons (fVar 0) (aCons (fz (e2 dAdd (e2 dMul (fC (.int 2)) (fVar 1)) (fC (.int 1)))) aNil))) (fVar 1)))
noncomputable def m__law_number : MO → List D → Option (Bv × MO) := runI 2 2 b__law_number
noncomputable def b__law_row : Sm :=
  (sRet (eN dTuple (aCons (eComp [3] (.nm 3) (iRan1 (aCons (fVar 1) aNil)) tYs (eCallI m__law_number (aCons (fVar 0) (aCons (fz (fVar 2)) aNil)))) aNil)))
noncomputable def m__law_row : MO → List D → Option (Bv × MO) := runI 4 3 b__law_row
noncomputable def b__law_image : Sm :=
  (sRet (eComp [3] (.nm 3) (iSq (fVar 0)) tYs (eN dSum (aCons (eComp [2] (.nm 2) (iRan1 (aCons (eN dLen (aCons (fVar 1) aNil)) aNil)) tYs (e2 dMul (e2 dIx (fVar 3) (fVar 2)) (e2 dIx (fVar 1) (fVar 2)))) aNil))))
noncomputable def m__law_image : List D → Option Bv := runV 4 2 b__law_image
noncomputable def b__law_rule : Sm :=
  (sSeq (sPar [3, 4] (sCons (eCallI m__law_draw (aCons (fVar 0) (aCons (fz (fVar 1)) aNil))) (sCons (e2 dSub (fC (.int 1)) (e2 dMul (fC (.int 2)) (eCallI m__law_draw (aCons (fVar 0) (aCons (fz (fC (.int 2))) aNil))))) sNil)))
  (sSeq (sSet 5 (eN dList (aCons (eCallI m__law_row (aCons (fVar 0) (aCons (fz (fVar 1)) (aCons (fz (fVar 2)) aNil)))) aNil)))
  (sSeq (sIx 5 (fVar 3) (fVar 4))
  (sSeq (sSet 6 (eLst aNil))
  (sSeq (sFor (.nm 7) (iSq (fVar 5)) (sSeq (sSet 8 (eN dList (aCons (eCallI m__law_row (aCons (fVar 0) (aCons (fz (fVar 1)) (aCons (fz (fVar 2)) aNil)))) aNil)))
  (sSeq (sIx 8 (fVar 3) (fC (.int 0)))
  (sSeq (sIx 8 (fVar 3) (pureE (e2 dMul (fVar 4) (e2 dSub (fVar 7) (e2 dIx (eCall m__law_image (aCons (fz (eLst (aCons (fz (fVar 8)) aNil))) (aCons (fz (fVar 5)) aNil))) (fC (.int 0)))))))
  (sApp 6 (eN dTuple (aCons (fVar 8) aNil)))))))
  (sSeq (sSet 9 (eN dTuple (aCons (eComp [10] (.nm 10) (iRan1 (aCons (fVar 1) aNil)) tYs (eCallI m__law_row (aCons (fVar 0) (aCons (fz (fVar 1)) (aCons (fz (fVar 2)) aNil))))) aNil)))
  (sRet (eTup (aCons (fz (eN dTuple (aCons (fVar 6) aNil))) (aCons (fz (fVar 9)) (aCons (fz (eN dTuple (aCons (fVar 5) aNil))) (aCons (fz (eCallI m__law_row (aCons (fVar 0) (aCons (fz (fVar 1)) (aCons (fz (fVar 2)) aNil))))) aNil))))))))))))
noncomputable def m__law_rule : MO → List D → Option (Bv × MO) := runI 11 3 b__law_rule
noncomputable def b__law_small : Sm :=
  (sSeq (sIf (tb (e2 dEq (eCallI m__law_draw (aCons (fVar 0) (aCons (fz (fC (.int 2))) aNil))) (fC (.int 0)))) (sRet (eCallI m__law_rule (aCons (fVar 0) (aCons (fz (fVar 1)) (aCons (fz (fVar 2)) aNil))))) sNx)
  (sSeq (sSet 3 (eComp [4] (.nm 4) (iRan1 (aCons (fVar 1) aNil)) tYs (eCallI m__law_draw (aCons (fVar 0) (aCons (fz (fVar 1)) aNil)))))
  (sSeq (sSet 5 (eN dTuple (aCons (eComp [7] (.nm 7) (iSq (fVar 3)) tYs (eN dTuple (aCons (eComp [6] (.nm 6) (iRan1 (aCons (fVar 1) aNil)) tYs (eN dInt (aCons (e2 dEq (fVar 6) (fVar 7)) aNil))) aNil))) aNil)))
  (sSeq (sSet 8 (eN dTuple (aCons (eComp [7] (.nm 7) (iRan1 (aCons (fVar 1) aNil)) tYs (eN dTuple (aCons (eComp [6] (.nm 6) (iRan1 (aCons (fVar 1) aNil)) tYs (eN dInt (aCons (e2 dEq (fVar 6) (fVar 7)) aNil))) aNil))) aNil)))
  (sRet (eTup (aCons (fz (fVar 8)) (aCons (fz (fVar 5)) (aCons (fz (eCallI m__law_row (aCons (fVar 0) (aCons (fz (fVar 1)) (aCons (fz (fC (.int 2))) aNil))))) (aCons (fz (eCallI m__law_row (aCons (fVar 0) (aCons (fz (fVar 1)) (aCons (fz (fC (.int 2))) aNil))))) aNil))))))))))
noncomputable def m__law_small : MO → List D → Option (Bv × MO) := runI 9 3 b__law_small
noncomputable def b__law_digits : Sm :=
  (sSeq (sPar [1, 2] (sCons (eLst aNil) (sCons (fVar 0) sNil)))
  (sSeq (sWhile (tb (e2 dGt (fVar 2) (fC (.int 0)))) (sSeq (sApp 1 (e2 dMod (eN dInt (aCons (fVar 2) aNil)) (fC (.int 2))))
  (sSet 2 (e2 dFdiv (fVar 2) (fC (.int 2))))))
  (sRet (e1 dRev (fVar 1)))))
noncomputable def m__law_digits : List D → Option Bv := runV 3 1 b__law_digits
noncomputable def b__law_lines : Sm :=
  (sSeq (sSet 2 (eN dList (aCons (e2 dIx (fVar 0) (fC (.int 2))) aNil)))
  (sSeq (sFor (.nm 3) (iSq (eCall m__law_digits (aCons (fz (fVar 1)) aNil))) (sSet 2 (eCall m__law_image (aCons (fz (e2 dIx (fVar 0) (fVar 3))) (aCons (fz (fVar 2)) aNil)))))
  (sRet (fVar 2))))
noncomputable def m__law_lines : List D → Option Bv := runV 4 2 b__law_lines
noncomputable def b__law_joint : Sm :=
  (sSeq (sSet 2 (eLst aNil))
  (sSeq (sFor (.nm 3) (iSq (fVar 0)) (sSet 2 (e2 dAdd (fVar 2) (eCall m__law_lines (aCons (fz (fVar 3)) (aCons (fz (fVar 1)) aNil))))))
  (sRet (fVar 2))))
noncomputable def m__law_joint : List D → Option Bv := runV 4 2 b__law_joint
noncomputable def b__law_divisor : Sm :=
  (sSeq (sPar [2, 3] (sCons (eN dAbs (aCons (fVar 0) aNil)) (sCons (eN dAbs (aCons (fVar 1) aNil)) sNil)))
  (sSeq (sWhile (tb (e2 dGt (fVar 3) (fC (.int 0)))) (sPar [2, 3] (sCons (fVar 3) (sCons (e2 dMod (eN dInt (aCons (fVar 2) aNil)) (fVar 3)) sNil))))
  (sRet (fVar 2))))
noncomputable def m__law_divisor : List D → Option Bv := runV 4 2 b__law_divisor
noncomputable def b__law_thin : Sm :=
  (sSeq (sSet 1 (fC (.int 0)))
  (sSeq (sFor (.nm 2) (iSq (fVar 0)) (sSet 1 (eCall m__law_divisor (aCons (fz (fVar 1)) (aCons (fz (fVar 2)) aNil)))))
  (sRet (eIf (tb (e2 dGt (fVar 1) (fC (.int 1)))) (eComp [2] (.nm 2) (iSq (fVar 0)) tYs (e2 dFdiv (fVar 2) (fVar 1))) (fVar 0)))))
noncomputable def m__law_thin : List D → Option Bv := runV 3 1 b__law_thin
noncomputable def b__law_cleared : Sm :=
  (sSeq (sFor (.tp [(.nm 2), (.nm 3)]) (iSq (fVar 1)) (sIf (tb (e2 dNe (e2 dIx (fVar 0) (fVar 2)) (fC (.int 0)))) (sSeq (sPar [4, 5] (sCons (e2 dIx (fVar 3) (fVar 2)) (sCons (e2 dIx (fVar 0) (fVar 2)) sNil)))
  (sSet 0 (eCall m__law_thin (aCons (fz (eComp [6] (.nm 6) (iRan1 (aCons (eN dLen (aCons (fVar 0) aNil)) aNil)) tYs (e2 dSub (e2 dMul (fVar 4) (e2 dIx (fVar 0) (fVar 6))) (e2 dMul (fVar 5) (e2 dIx (fVar 3) (fVar 6)))))) aNil)))) sNx))
  (sRet (fVar 0)))
noncomputable def m__law_cleared : List D → Option Bv := runV 7 2 b__law_cleared
noncomputable def b__law_fraction : Sm :=
  (sSeq (sSet 2 (e2 dMul (eCall m__law_divisor (aCons (fz (fVar 0)) (aCons (fz (fVar 1)) aNil))) (eIf (tb (e2 dGt (fVar 1) (fC (.int 0)))) (fC (.int 1)) (e1 dNeg (fC (.int 1))))))
  (sRet (eTup (aCons (fz (e2 dFdivN (fVar 0) (fVar 2))) (aCons (fz (e2 dFdivN (fVar 1) (fVar 2))) aNil)))))
noncomputable def m__law_fraction : List D → Option Bv := runV 3 2 b__law_fraction
noncomputable def b__law_factors : Sm :=
  (sSeq (sSet 2 (eN dLen (aCons (fVar 1) aNil)))
  (sSeq (sSet 3 (eCall m__law_cleared (aCons (fz (e2 dAdd (e2 dAdd (eN dList (aCons (fVar 1) aNil)) (e2 dMul (eLst (aCons (fz (fC (.int 0))) aNil)) (fVar 2))) (eLst (aCons (fz (fC (.int 1))) aNil)))) (aCons (fz (fVar 0)) aNil))))
  (sSeq (sIf (tb (e2 dNe (eSl (fVar 3) pNone (pSome (fVar 2))) (e2 dMul (eLst (aCons (fz (fC (.int 0))) aNil)) (fVar 2)))) (sRet (fC .non)) sNx)
  (sRet (eN dTuple (aCons (eComp [4] (.nm 4) (iRan1 (aCons (eN dLen (aCons (fVar 0) aNil)) aNil)) tYs (eCall m__law_fraction (aCons (fz (e1 dNeg (e2 dIx (fVar 3) (e2 dAdd (fVar 2) (fVar 4))))) (aCons (fz (e2 dIx (fVar 3) (e2 dMul (fC (.int 2)) (fVar 2)))) aNil)))) aNil))))))
noncomputable def m__law_factors : List D → Option Bv := runV 5 2 b__law_factors
noncomputable def b__law_kept : Sm :=
  (sSeq (sSet 2 (eN dLen (aCons (fVar 1) aNil)))
  (sSeq (sSet 3 (eCall m__law_cleared (aCons (fz (e2 dAdd (eN dList (aCons (fVar 1) aNil)) (eComp [4] (.nm 4) (iRan1 (aCons (e2 dAdd (fVar 2) (fC (.int 1))) aNil)) tYs (eN dInt (aCons (e2 dEq (fVar 4) (eN dLen (aCons (fVar 0) aNil))) aNil))))) (aCons (fz (fVar 0)) aNil))))
  (sSeq (sSet 5 (eComp [4] (.nm 4) (iRan1 (aCons (fVar 2) aNil)) (tb (e2 dNe (e2 dIx (fVar 3) (fVar 4)) (fC (.int 0)))) (fVar 4)))
  (sRet (e2 dAdd (fVar 0) (eLst (aCons (fz (eTup (aCons (fz (e2 dIx (fVar 5) (fC (.int 0)))) (aCons (fz (fVar 3)) aNil)))) aNil)))))))
noncomputable def m__law_kept : List D → Option Bv := runV 6 2 b__law_kept
noncomputable def b__law_drawn_row : Sm :=
  (sSeq (sSet 5 (eCallI m__law_draw (aCons (fVar 0) (aCons (fz (fC (.int 12))) aNil))))
  (sSeq (sIf (tO (tb (e2 dEq (fVar 5) (fC (.int 0)))) (tA (tb (e2 dLt (fVar 5) (fC (.int 9)))) (tA (tb (e2 dNotN (fVar 4) (fC .non))) (tb (e2 dGe (fVar 3) (fVar 4)))))) (sRet (fC .non)) sNx)
  (sSeq (sPar [6, 7] (sCons (eLst aNil) (sCons (eLst aNil) sNil)))
  (sSeq (sFor (.nm 8) (iSq (fVar 2)) (sSeq (sSet 9 (eCall m__law_joint (aCons (fz (fVar 1)) (aCons (fz (fVar 8)) aNil))))
  (sIf (tA (tO (tb (e2 dLe (fVar 8) (fVar 3))) (tb (e2 dEq (fVar 5) (fC (.int 1))))) (tb (e2 dIsN (eCall m__law_factors (aCons (fz (fVar 6)) (aCons (fz (fVar 9)) aNil))) (fC .non)))) (sSeq (sSet 6 (eCall m__law_kept (aCons (fz (fVar 6)) (aCons (fz (fVar 9)) aNil))))
  (sApp 7 (fVar 8))) sNx)))
  (sSeq (sSet 10 (eCall m__law_factors (aCons (fz (fVar 6)) (aCons (fz (eCall m__law_joint (aCons (fz (fVar 1)) (aCons (fz (fVar 3)) aNil)))) aNil))))
  (sSeq (sIf (tO (tb (e2 dIsN (fVar 10) (fC .non))) (tb (e2 dEq (fVar 5) (fC (.int 2))))) (sSeq (sSet 11 (eLst (aCons (fz (eTup (aCons (fz (fC (.int 0))) (aCons (fz (fC (.int 1))) aNil)))) (aCons (fz (eTup (aCons (fz (fC (.int 1))) (aCons (fz (fC (.int 1))) aNil)))) (aCons (fz (eTup (aCons (fz (e1 dNeg (fC (.int 1)))) (aCons (fz (fC (.int 1))) aNil)))) (aCons (fz (eTup (aCons (fz (fC (.int 1))) (aCons (fz (fC (.int 2))) aNil)))) (aCons (fz (eTup (aCons (fz (fC (.int 2))) (aCons (fz (fC (.int 1))) aNil)))) aNil)))))))
  (sRet (eN dTuple (aCons (eComp [8] (.nm 8) (iSq (fVar 2)) tYs (e2 dIx (fVar 11) (eCallI m__law_draw (aCons (fVar 0) (aCons (fz (fC (.int 5))) aNil))))) aNil)))) sNx)
  (sRet (eN dTuple (aCons (eComp [8] (.nm 8) (iSq (fVar 2)) tYs (eIf (tb (e2 dIn (fVar 8) (fVar 7))) (e2 dIx (fVar 10) (eIndex (fVar 7) (fVar 8))) (eTup (aCons (fz (fC (.int 0))) (aCons (fz (fC (.int 1))) aNil))))) aNil)))))))))
noncomputable def m__law_drawn_row : MO → List D → Option (Bv × MO) := runI 12 5 b__law_drawn_row
noncomputable def b__law_paper : Sm :=
  (sSeq (sSet 3 (eComp [4] (.nm 4) (iRan1 (aCons (fC (.int 10)) aNil)) (tO (tb (e2 dLt (eCallI m__law_draw (aCons (fVar 0) (aCons (fz (fC (.int 5))) aNil))) (fC (.int 2)))) (tA (tb (e2 dLt (fVar 4) (fC (.int 2)))) (tb (e2 dGt (eCallI m__law_draw (aCons (fVar 0) (aCons (fz (fC (.int 4))) aNil))) (fC (.int 0)))))) (fVar 4)))
  (sSeq (sIf (tA (tb (e2 dNotN (fVar 2) (fC .non))) (tb (e2 dGt (eCallI m__law_draw (aCons (fVar 0) (aCons (fz (fC (.int 4))) aNil))) (fC (.int 0))))) (sSet 3 (eComp [4] (.nm 4) (iSq (fVar 3)) (tb (e2 dLt (fVar 4) (fVar 2))) (fVar 4))) sNx)
  (sSeq (sSet 5 (eLst aNil))
  (sSeq (sFor (.nm 4) (iSq (fVar 3)) (sSeq (sSet 6 (eComp [7] (.nm 7) (iRan1 (aCons (fC (.int 2)) aNil)) tYs (eCallI m__law_drawn_row (aCons (fVar 0) (aCons (fz (fVar 1)) (aCons (fz (fVar 3)) (aCons (fz (e2 dAdd (e2 dMul (fC (.int 2)) (fVar 4)) (fVar 7))) (aCons (fz (fVar 2)) aNil))))))))
  (sApp 5 (eN dTuple (aCons (fVar 6) aNil)))))
  (sRet (eTup (aCons (fz (eN dTuple (aCons (fVar 3) aNil))) (aCons (fz (eN dTuple (aCons (fVar 5) aNil))) aNil))))))))
noncomputable def m__law_paper : MO → List D → Option (Bv × MO) := runI 8 3 b__law_paper
noncomputable def b__law_plain : Sm :=
  (sSeq (sSet 1 (eComp [4] (.nm 4) (iSq (eSl (fVar 0) pNone (pSome (fC (.int 2))))) tYs (eN dTuple (aCons (eComp [3] (.nm 3) (iSq (fVar 4)) tYs (eN dTuple (aCons (eComp [2] (.nm 2) (iSq (fVar 3)) tYs (eTup (aCons (fz (fVar 2)) (aCons (fz (fC (.int 1))) aNil)))) aNil))) aNil))))
  (sRet (eTup (aCons (fz (e2 dIx (fVar 1) (fC (.int 0)))) (aCons (fz (e2 dIx (fVar 1) (fC (.int 1)))) (aCons (fz (e2 dIx (fVar 0) (fC (.int 2)))) (aCons (fz (eN dTuple (aCons (eComp [2] (.nm 2) (iSq (e2 dIx (fVar 0) (fC (.int 3)))) tYs (eTup (aCons (fz (fVar 2)) (aCons (fz (fC (.int 1))) aNil)))) aNil))) aNil)))))))
noncomputable def m__law_plain : List D → Option Bv := runV 5 1 b__law_plain
noncomputable def b__law_makes : Sm :=
  (sSeq (sSet 3 (fC (.int 1)))
  (sSeq (sFor (.tp [(.nm 4), (.nm 5)]) (iSq (fVar 0)) (sSet 3 (e2 dMul (fVar 3) (fVar 5))))
  (sSeq (sSet 6 (eComp [4, 5] (.tp [(.nm 4), (.nm 5)]) (iSq (fVar 0)) tYs (e2 dMul (fVar 4) (e2 dFdiv (fVar 3) (fVar 5)))))
  (sSeq (sFor (.nm 7) (iRan1 (aCons (eN dLen (aCons (fVar 2) aNil)) aNil)) (sIf (tb (e2 dNe (eN dSum (aCons (eComp [8] (.nm 8) (iRan1 (aCons (eN dLen (aCons (fVar 0) aNil)) aNil)) tYs (e2 dMul (e2 dIx (fVar 6) (fVar 8)) (e2 dIx (e2 dIx (fVar 1) (fVar 8)) (fVar 7)))) aNil)) (e2 dMul (fVar 3) (e2 dIx (fVar 2) (fVar 7))))) (sRet (fC (.bl false))) sNx))
  (sRet (fC (.bl true)))))))
noncomputable def m__law_makes : List D → Option Bv := runV 9 3 b__law_makes
noncomputable def b__law_is_span : Sm :=
  (sSeq (sAsg (.tp [(.nm 3), (.nm 4)]) (fVar 1))
  (sSeq (sSet 5 (eComp [6] (.nm 6) (iSq (fVar 3)) tYs (eCall m__law_joint (aCons (fz (fVar 0)) (aCons (fz (fVar 6)) aNil)))))
  (sSeq (sFor (.nm 7) (iRan1 (aCons (eN dLen (aCons (fVar 3) aNil)) aNil)) (sFor (.nm 8) (iRan1 (aCons (fC (.int 2)) aNil)) (sSeq (sPar [9, 10] (sCons (e2 dAdd (e2 dMul (fC (.int 2)) (e2 dIx (fVar 3) (fVar 7))) (fVar 8)) (sCons (e2 dIx (e2 dIx (fVar 4) (fVar 7)) (fVar 8)) sNil)))
  (sIf (tb (e2 dIsN (fVar 10) (fC .non))) (sIf (tO (tb (e2 dIsN (fVar 2) (fC .non))) (tb (e2 dLt (fVar 9) (fVar 2)))) (sRet (fC (.bl false))) sNx) (sIf (tN (tb (eCall m__law_makes (aCons (fz (fVar 10)) (aCons (fz (fVar 5)) (aCons (fz (eCall m__law_joint (aCons (fz (fVar 0)) (aCons (fz (fVar 9)) aNil)))) aNil)))))) (sRet (fC (.bl false))) (sIf (tb (e2 dNe (eComp [11] (.nm 11) (iRan1 (aCons (eN dLen (aCons (fVar 10) aNil)) aNil)) (tA (tb (e2 dGt (e2 dIx (fVar 3) (fVar 11)) (fVar 9))) (tb (e2 dNe (e2 dIx (e2 dIx (fVar 10) (fVar 11)) (fC (.int 0))) (fC (.int 0))))) (fVar 11)) (eLst aNil))) (sRet (fC (.bl false))) sNx))))))
  (sRet (eO (e2 dIn (fC (.int 0)) (fVar 3)) (eO (e2 dEq (fVar 2) (fC (.int 0))) (e2 dEq (eCall m__law_joint (aCons (fz (fVar 0)) (aCons (fz (fC (.int 0))) aNil))) (e2 dMul (eLst (aCons (fz (fC (.int 0))) aNil)) (eN dLen (aCons (eCall m__law_joint (aCons (fz (fVar 0)) (aCons (fz (fC (.int 0))) aNil))) aNil))))))))))
noncomputable def m__law_is_span : List D → Option Bv := runV 12 3 b__law_is_span
noncomputable def b__law_at : Sm :=
  (sRet (e2 dIx (eCall m__law_image (aCons (fz (eLst (aCons (fz (e2 dIx (fVar 0) (fC (.int 3)))) aNil))) (aCons (fz (eCall m__law_lines (aCons (fz (fVar 0)) (aCons (fz (fVar 1)) aNil)))) aNil))) (fC (.int 0))))
noncomputable def m__law_at : List D → Option Bv := runV 2 2 b__law_at
noncomputable def b__law_sums : Sm :=
  (sRet (eComp [3] (.nm 3) (iSq (fVar 2)) tYs (e2 dAdd (e2 dMul (e2 dIx (fVar 1) (fC (.int 0))) (eCall m__law_at (aCons (fz (e2 dIx (fVar 0) (fC (.int 0)))) (aCons (fz (fVar 3)) aNil)))) (e2 dMul (e2 dIx (fVar 1) (fC (.int 1))) (eCall m__law_at (aCons (fz (e2 dIx (fVar 0) (fC (.int 1)))) (aCons (fz (fVar 3)) aNil)))))))
noncomputable def m__law_sums : List D → Option Bv := runV 4 3 b__law_sums
noncomputable def b_is_integer : Sm :=
  (sRet (eA (eN dIsi (aCons (fVar 0) (aCons (fC (.ty "int")) aNil))) (eNot (eN dIsi (aCons (fVar 0) (aCons (fC (.ty "bool")) aNil))))))
noncomputable def m_is_integer : List D → Option Bv := runV 1 1 b_is_integer
noncomputable def b_are_integers : Sm :=
  (sRet (eA (eN dIsi (aCons (fVar 0) (aCons (fC (.ty "tuple")) aNil))) (eA (e2 dEq (eN dLen (aCons (fVar 0) aNil)) (fVar 1)) (eN dAll (aCons (eComp [2] (.nm 2) (iSq (fVar 0)) tYs (eCall m_is_integer (aCons (fz (fVar 2)) aNil))) aNil)))))
noncomputable def m_are_integers : List D → Option Bv := runV 3 2 b_are_integers
noncomputable def b_divisor_of : Sm :=
  (sSeq (sPar [2, 3] (sCons (eN dAbs (aCons (fVar 0) aNil)) (sCons (eN dAbs (aCons (fVar 1) aNil)) sNil)))
  (sSeq (sWhile (tb (e2 dGt (fVar 3) (fC (.int 0)))) (sPar [2, 3] (sCons (fVar 3) (sCons (e2 dMod (fVar 2) (fVar 3)) sNil))))
  (sRet (fVar 2))))
noncomputable def m_divisor_of : List D → Option Bv := runV 4 2 b_divisor_of
noncomputable def b_is_fraction : Sm :=
  (sRet (eA (eCall m_are_integers (aCons (fz (fVar 0)) (aCons (fz (fC (.int 2))) aNil))) (eA (e2 dGt (e2 dIx (fVar 0) (fC (.int 1))) (fC (.int 0))) (e2 dEq (eCall m_divisor_of (aCons (fz (e2 dIx (fVar 0) (fC (.int 0)))) (aCons (fz (e2 dIx (fVar 0) (fC (.int 1)))) aNil))) (fC (.int 1))))))
noncomputable def m_is_fraction : List D → Option Bv := runV 1 1 b_is_fraction
noncomputable def b_are_fractions : Sm :=
  (sRet (eA (eN dIsi (aCons (fVar 0) (aCons (fC (.ty "tuple")) aNil))) (eA (e2 dEq (eN dLen (aCons (fVar 0) aNil)) (fVar 1)) (eN dAll (aCons (eComp [2] (.nm 2) (iSq (fVar 0)) tYs (eCall m_is_fraction (aCons (fz (fVar 2)) aNil))) aNil)))))
noncomputable def m_are_fractions : List D → Option Bv := runV 3 2 b_are_fractions
noncomputable def b_common_bottom : Sm :=
  (sSeq (sSet 1 (fC (.int 1)))
  (sSeq (sFor (.tp [(.nm 2), (.nm 3)]) (iSq (fVar 0)) (sSet 1 (e2 dMul (e2 dFdiv (fVar 1) (eCall m_divisor_of (aCons (fz (fVar 1)) (aCons (fz (fVar 3)) aNil)))) (fVar 3))))
  (sRet (fVar 1))))
noncomputable def m_common_bottom : List D → Option Bv := runV 4 1 b_common_bottom
noncomputable def b_times_bottom : Sm :=
  (sRet (eComp [2, 3] (.tp [(.nm 2), (.nm 3)]) (iSq (fVar 0)) tYs (e2 dMul (fVar 2) (e2 dFdiv (fVar 1) (fVar 3)))))
noncomputable def m_times_bottom : List D → Option Bv := runV 4 2 b_times_bottom
noncomputable def b_Plain_init : Sm :=
  (sSeq (sAsg (.tp [(.nm 2), (.nm 3), (.nm 4), (.nm 5)]) (fVar 1))
  (sSeq (sFldS 0 0 ("bottoms" : PySem.Str) (eComp [8] (.nm 8) (iSq (eTup (aCons (fz (fVar 2)) (aCons (fz (fVar 3)) aNil)))) tYs (eCall m_common_bottom (aCons (fz (eComp2 [6, 7] [7] (.nm 6) (iSq (fVar 8)) tYs (iSq (fVar 6)) (.nm 7) tYs (fVar 7))) aNil))))
  (sSeq (sFL ("sides" : PySem.Str) 0 (.tp [(.nm 8), (.nm 9)]) (iZp (eTup (aCons (fz (fVar 2)) (aCons (fz (fVar 3)) aNil))) (eFld 0 ("bottoms" : PySem.Str) (fVar 0))) (eComp [6] (.nm 6) (iSq (fVar 8)) tYs (eCall m_times_bottom (aCons (fz (fVar 6)) (aCons (fz (fVar 9)) aNil)))))
  (sSeq (sFldS 0 0 ("starts" : PySem.Str) (eN dList (aCons (fVar 4) aNil)))
  (sSeq (sFldS 0 0 ("under" : PySem.Str) (eCall m_common_bottom (aCons (fz (fVar 5)) aNil)))
  (sFldS 0 0 ("row" : PySem.Str) (eCall m_times_bottom (aCons (fz (fVar 5)) (aCons (fz (eFld 0 ("under" : PySem.Str) (fVar 0))) aNil)))))))))
noncomputable def m_Plain_init : MO → List D → Option (Bv × MO) := runI 10 2 b_Plain_init
noncomputable def b_lowest : Sm :=
  (sSeq (sSet 2 (fVar 1))
  (sSeq (sFor (.nm 3) (iSq (fVar 0)) (sSet 2 (eCall m_divisor_of (aCons (fz (fVar 2)) (aCons (fz (fVar 3)) aNil)))))
  (sRet (eTup (aCons (fz (eComp [3] (.nm 3) (iSq (fVar 0)) tYs (e2 dFdiv (fVar 3) (fVar 2)))) (aCons (fz (e2 dFdiv (fVar 1) (fVar 2))) aNil))))))
noncomputable def m_lowest : List D → Option Bv := runV 4 2 b_lowest
noncomputable def b_sum_by : Sm :=
  (sRet (eN dSum (aCons (eComp [2, 3] (.tp [(.nm 2), (.nm 3)]) (iZp (fVar 0) (fVar 1)) tYs (e2 dMul (fVar 2) (fVar 3))) aNil)))
noncomputable def m_sum_by : List D → Option Bv := runV 4 2 b_sum_by
noncomputable def b_Plain_later : Sm :=
  (sSeq (sAsg (.tp [(.nm 3), (.nm 4)]) (fVar 1))
  (sRet (eCall m_lowest (aCons (fz (eComp [5] (.nm 5) (iSq (e2 dIx (eFld 0 ("sides" : PySem.Str) (fVar 0)) (fVar 2))) tYs (eCall m_sum_by (aCons (fz (fVar 5)) (aCons (fz (fVar 3)) aNil))))) (aCons (fz (e2 dMul (fVar 4) (e2 dIx (eFld 0 ("bottoms" : PySem.Str) (fVar 0)) (fVar 2)))) aNil)))))
noncomputable def m_Plain_later : List D → Option Bv := runV 6 3 b_Plain_later
noncomputable def b_Plain_fits : Sm :=
  (sRet (e2 dEq (eMeth 0 ("later" : PySem.Str) m_Plain_later (fVar 0) (aCons (fz (eTup (aCons (fz (eFld 0 ("starts" : PySem.Str) (fVar 0))) (aCons (fz (fC (.int 1))) aNil)))) (aCons (fz (fC (.int 0))) aNil))) (eCall m_lowest (aCons (fz (eFld 0 ("starts" : PySem.Str) (fVar 0))) (aCons (fz (fC (.int 1))) aNil)))))
noncomputable def m_Plain_fits : List D → Option Bv := runV 1 1 b_Plain_fits
noncomputable def b_plain_in : Sm :=
  (sSeq (sIf (tO (tN (tb (eN dIsi (aCons (fVar 0) (aCons (fC (.ty "tuple")) aNil))))) (tb (e2 dNe (eN dLen (aCons (fVar 0) aNil)) (fC (.int 4))))) (sRet (fC .non)) sNx)
  (sSeq (sAsg (.tp [(.nm 1), (.nm 2), (.nm 3), (.nm 4)]) (fVar 0))
  (sSeq (sIf (tO (tN (tb (eN dIsi (aCons (fVar 3) (aCons (fC (.ty "tuple")) aNil))))) (tb (e2 dGt (eN dLen (aCons (fVar 3) aNil)) (fC (.int 100))))) (sRet (fC .non)) sNx)
  (sSeq (sSet 5 (eN dLen (aCons (fVar 3) aNil)))
  (sSeq (sIf (tO (tN (tb (eCall m_are_integers (aCons (fz (fVar 3)) (aCons (fz (fVar 5)) aNil))))) (tN (tb (eCall m_are_fractions (aCons (fz (fVar 4)) (aCons (fz (fVar 5)) aNil)))))) (sRet (fC .non)) sNx)
  (sSeq (sFor (.nm 6) (iSq (eTup (aCons (fz (fVar 1)) (aCons (fz (fVar 2)) aNil)))) (sIf (tO (tN (tb (eN dIsi (aCons (fVar 6) (aCons (fC (.ty "tuple")) aNil))))) (tO (tb (e2 dNe (eN dLen (aCons (fVar 6) aNil)) (fVar 5))) (tN (tb (eN dAll (aCons (eComp [7] (.nm 7) (iSq (fVar 6)) tYs (eCall m_are_fractions (aCons (fz (fVar 7)) (aCons (fz (fVar 5)) aNil)))) aNil)))))) (sRet (fC .non)) sNx))
  (sSeq (sSet 8 (eMk 0 m_Plain_init (aCons (fz (fVar 0)) aNil)))
  (sRet (eIf (tb (eMeth 0 ("fits" : PySem.Str) m_Plain_fits (fVar 8) aNil)) (fVar 8) (fC .non))))))))))
noncomputable def m_plain_in : List D → Option Bv := runV 9 1 b_plain_in
noncomputable def b_plains_in : Sm :=
  (sSeq (sIf (tO (tN (tb (eN dIsi (aCons (fVar 0) (aCons (fC (.ty "tuple")) aNil))))) (tN (tb (eCh dLe dLe (fC (.int 1)) (eN dLen (aCons (fVar 0) aNil)) (fC (.int 6)))))) (sRet (fC .non)) sNx)
  (sSeq (sSet 1 (eComp [2] (.nm 2) (iSq (fVar 0)) tYs (eCall m_plain_in (aCons (fz (fVar 2)) aNil))))
  (sRet (eIf (tb (e2 (dNoneIn 0) (fC .non) (fVar 1))) (fC .non) (fVar 1)))))
noncomputable def m_plains_in : List D → Option Bv := runV 3 1 b_plains_in
noncomputable def b_are_ascending : Sm :=
  (sSeq (sIf (tO (tN (tb (eN dIsi (aCons (fVar 0) (aCons (fC (.ty "tuple")) aNil))))) (tN (tb (eN dAll (aCons (eComp [1] (.nm 1) (iSq (fVar 0)) tYs (eA (eCall m_is_integer (aCons (fz (fVar 1)) aNil)) (e2 dGe (fVar 1) (fC (.int 0))))) aNil))))) (sRet (fC (.bl false))) sNx)
  (sRet (eN dAll (aCons (eComp [2] (.nm 2) (iRan1 (aCons (e2 dSub (eN dLen (aCons (fVar 0) aNil)) (fC (.int 1))) aNil)) tYs (e2 dLt (e2 dIx (fVar 0) (fVar 2)) (e2 dIx (fVar 0) (e2 dAdd (fVar 2) (fC (.int 1)))))) aNil))))
noncomputable def m_are_ascending : List D → Option Bv := runV 3 1 b_are_ascending
noncomputable def b_Plain_point_at : Sm :=
  (sSeq (sPar [2, 3] (sCons (eLst aNil) (sCons (fVar 1) sNil)))
  (sSeq (sWhile (tb (e2 dGt (fVar 3) (fC (.int 0)))) (sSeq (sApp 2 (e2 dMod (fVar 3) (fC (.int 2))))
  (sSet 3 (e2 dFdiv (fVar 3) (fC (.int 2))))))
  (sSeq (sSet 4 (eCall m_lowest (aCons (fz (eFld 0 ("starts" : PySem.Str) (fVar 0))) (aCons (fz (fC (.int 1))) aNil))))
  (sSeq (sFor (.nm 5) (iSq (e1 dRev (fVar 2))) (sSet 4 (eMeth 0 ("later" : PySem.Str) m_Plain_later (fVar 0) (aCons (fz (fVar 4)) (aCons (fz (fVar 5)) aNil)))))
  (sRet (fVar 4))))))
noncomputable def m_Plain_point_at : List D → Option Bv := runV 6 2 b_Plain_point_at
noncomputable def b_makes : Sm :=
  (sSeq (sSet 3 (eCall m_common_bottom (aCons (fz (eComp [4, 5] (.tp [(.nm 4), (.nm 5)]) (iSq (fVar 1)) tYs (eTup (aCons (fz (fC (.int 1))) (aCons (fz (fVar 5)) aNil))))) aNil)))
  (sSeq (sSet 6 (eCall m_common_bottom (aCons (fz (fVar 0)) aNil)))
  (sSeq (sSet 7 (eCall m_times_bottom (aCons (fz (fVar 0)) (aCons (fz (fVar 6)) aNil))))
  (sSeq (sAsg (.tp [(.nm 4), (.nm 5)]) (fVar 2))
  (sSeq (sFor (.nm 8) (iRan1 (aCons (eN dLen (aCons (fVar 4) aNil)) aNil)) (sSeq (sSet 9 (eComp [10] (.nm 10) (iSq (fVar 1)) tYs (e2 dMul (e2 dIx (e2 dIx (fVar 10) (fC (.int 0))) (fVar 8)) (e2 dFdiv (fVar 3) (e2 dIx (fVar 10) (fC (.int 1)))))))
  (sIf (tb (e2 dNe (e2 dMul (eCall m_sum_by (aCons (fz (fVar 7)) (aCons (fz (fVar 9)) aNil))) (fVar 5)) (e2 dMul (e2 dMul (e2 dIx (fVar 4) (fVar 8)) (fVar 3)) (fVar 6)))) (sRet (fC (.bl false))) sNx)))
  (sRet (fC (.bl true))))))))
noncomputable def m_makes : List D → Option Bv := runV 11 3 b_makes
noncomputable def b_is_row : Sm :=
  (sSeq (sIf (tN (tb (eCall m_are_fractions (aCons (fz (fVar 0)) (aCons (fz (eN dLen (aCons (fVar 1) aNil))) aNil))))) (sRet (fC (.bl false))) sNx)
  (sSeq (sIf (tb (eN dAny (aCons (eComp [6, 7, 8] (.tp [(.nm 6), (.tp [(.nm 7), (.nm 8)])]) (iZp (fVar 1) (fVar 0)) tYs (eA (e2 dGt (fVar 6) (fVar 2)) (e2 dNe (fVar 7) (fC (.int 0))))) aNil))) (sRet (fC (.bl false))) sNx)
  (sRet (eN dAll (aCons (eComp [9, 10] (.tp [(.nm 9), (.nm 10)]) (iSq (fVar 3)) tYs (eCall m_makes (aCons (fz (fVar 0)) (aCons (fz (fVar 10)) (aCons (fz (eMeth 0 ("later" : PySem.Str) m_Plain_later (fVar 9) (aCons (fz (e2 dIx (fVar 10) (fVar 4))) (aCons (fz (fVar 5)) aNil)))) aNil))))) aNil)))))
noncomputable def m_is_row : List D → Option Bv := runV 11 6 b_is_row
noncomputable def b_begins_well : Sm :=
  (sSeq (sIf (tO (tb (e2 dIn (fC (.int 0)) (fVar 1))) (tb (e2 dEq (fVar 2) (fC (.int 0))))) (sRet (fC (.bl true))) sNx)
  (sRet (eN dAll (aCons (eComp2 [3, 4, 5] [5] (.tp [(.nm 3), (.nm 4)]) (iSq (fVar 0)) tYs (iSq (eFld 0 ("starts" : PySem.Str) (fVar 3))) (.nm 5) tYs (e2 dEq (fVar 5) (fC (.int 0)))) aNil))))
noncomputable def m_begins_well : List D → Option Bv := runV 6 3 b_begins_well
noncomputable def b_Plain_told_by : Sm :=
  (sSeq (sAsg (.tp [(.nm 2), (.nm 3)]) (fVar 1))
  (sSeq (sAsg (.tp [(.nm 4), (.nm 5)]) (eCall m_lowest (aCons (fz (eLst (aCons (fz (eCall m_sum_by (aCons (fz (eFld 0 ("row" : PySem.Str) (fVar 0))) (aCons (fz (fVar 2)) aNil)))) aNil))) (aCons (fz (e2 dMul (fVar 3) (eFld 0 ("under" : PySem.Str) (fVar 0)))) aNil))))
  (sRet (eTup (aCons (fz (e2 dIx (fVar 4) (fC (.int 0)))) (aCons (fz (fVar 5)) aNil))))))
noncomputable def m_Plain_told_by : List D → Option Bv := runV 6 2 b_Plain_told_by
noncomputable def b_span_in : Sm :=
  (sSeq (sIf (tO (tN (tb (eN dIsi (aCons (fVar 0) (aCons (fC (.ty "tuple")) aNil))))) (tb (e2 dNe (eN dLen (aCons (fVar 0) aNil)) (fC (.int 2))))) (sRet (fC .non)) sNx)
  (sSeq (sAsg (.tp [(.nm 3), (.nm 4)]) (fVar 0))
  (sSeq (sIf (tO (tN (tb (eCall m_are_ascending (aCons (fz (fVar 3)) aNil)))) (tb (e2 dGt (eN dLen (aCons (fVar 3) aNil)) (fC (.int 200))))) (sRet (fC .non)) sNx)
  (sSeq (sIf (tO (tN (tb (eN dIsi (aCons (fVar 4) (aCons (fC (.ty "tuple")) aNil))))) (tb (e2 dNe (eN dLen (aCons (fVar 4) aNil)) (eN dLen (aCons (fVar 3) aNil))))) (sRet (fC .non)) sNx)
  (sSeq (sIf (tN (tb (eN dAll (aCons (eComp [5] (.nm 5) (iSq (fVar 4)) tYs (eA (eN dIsi (aCons (fVar 5) (aCons (fC (.ty "tuple")) aNil))) (e2 dEq (eN dLen (aCons (fVar 5) aNil)) (fC (.int 2))))) aNil)))) (sRet (fC .non)) sNx)
  (sSeq (sSet 6 (eComp [8] (.nm 8) (iSq (fVar 1)) tYs (eTup (aCons (fz (fVar 8)) (aCons (fz (eComp [7] (.nm 7) (iSq (fVar 3)) tYs (eMeth 0 ("point_at" : PySem.Str) m_Plain_point_at (fVar 8) (aCons (fz (fVar 7)) aNil)))) aNil)))))
  (sSeq (sFor (.tp [(.nm 9), (.nm 7)]) (iEn (fVar 3)) (sFor (.nm 10) (iRan1 (aCons (fC (.int 2)) aNil)) (sSeq (sPar [11, 12] (sCons (e2 dAdd (e2 dMul (fC (.int 2)) (fVar 7)) (fVar 10)) (sCons (e2 dIx (e2 dIx (fVar 4) (fVar 9)) (fVar 10)) sNil)))
  (sSeq (sIf (tA (tb (e2 dIsN (fVar 12) (fC .non))) (tA (tb (e2 dNotN (fVar 2) (fC .non))) (tb (e2 dGe (fVar 11) (fVar 2))))) sCt sNx)
  (sIf (tN (tb (eCall m_is_row (aCons (fz (fVar 12)) (aCons (fz (fVar 3)) (aCons (fz (fVar 11)) (aCons (fz (fVar 6)) (aCons (fz (fVar 9)) (aCons (fz (fVar 10)) aNil))))))))) (sRet (fC .non)) sNx)))))
  (sSeq (sIf (tN (tb (eCall m_begins_well (aCons (fz (fVar 6)) (aCons (fz (fVar 3)) (aCons (fz (fVar 2)) aNil)))))) (sRet (fC .non)) sNx)
  (sRet (eComp [9, 7] (.tp [(.nm 9), (.nm 7)]) (iEn (fVar 3)) tYs (eTup (aCons (fz (fVar 7)) (aCons (fz (eComp [8, 13] (.tp [(.nm 8), (.nm 13)]) (iSq (fVar 6)) tYs (eMeth 0 ("told_by" : PySem.Str) m_Plain_told_by (fVar 8) (aCons (fz (e2 dIx (fVar 13) (fVar 9))) aNil)))) aNil)))))))))))))
noncomputable def m_span_in : List D → Option Bv := runV 14 3 b_span_in
noncomputable def b_shows_same : Sm :=
  (sSeq (sSet 3 (eCall m_plains_in (aCons (fz (eTup (aCons (fz (fVar 0)) (aCons (fz (fVar 1)) aNil)))) aNil)))
  (sSeq (sSet 4 (eIf (tb (e2 dIsN (fVar 3) (fC .non))) (fC .non) (eCall m_span_in (aCons (fz (fVar 2)) (aCons (fz (fVar 3)) (aCons (fz (fC .non)) aNil))))))
  (sRet (eA (e2 dNotN (fVar 4) (fC .non)) (eN dAll (aCons (eComp [5, 6] (.tp [(.nm 5), (.nm 6)]) (iSq (fVar 4)) tYs (e2 dEq (e2 dIx (fVar 6) (fC (.int 0))) (e2 dIx (fVar 6) (fC (.int 1))))) aNil))))))
noncomputable def m_shows_same : List D → Option Bv := runV 7 3 b_shows_same
noncomputable def b_are_apart : Sm :=
  (sSeq (sSet 2 (eComp [3] (.nm 3) (iSq (fVar 0)) tYs (eMeth 0 ("told_by" : PySem.Str) m_Plain_told_by (fVar 3) (aCons (fz (eMeth 0 ("point_at" : PySem.Str) m_Plain_point_at (fVar 3) (aCons (fz (fVar 1)) aNil))) aNil))))
  (sRet (e2 dNe (e2 dIx (fVar 2) (fC (.int 0))) (e2 dIx (fVar 2) (fC (.int 1))))))
noncomputable def m_are_apart : List D → Option Bv := runV 4 2 b_are_apart
noncomputable def b_shows_apart : Sm :=
  (sSeq (sSet 4 (eCall m_plains_in (aCons (fz (eTup (aCons (fz (fVar 0)) (aCons (fz (fVar 1)) aNil)))) aNil)))
  (sSeq (sIf (tO (tb (e2 dIsN (fVar 4) (fC .non))) (tO (tN (tb (eCall m_is_integer (aCons (fz (fVar 2)) aNil)))) (tN (tb (eCh dLe dLe (fC (.int 0)) (fVar 2) (fC (.int (10 ^ 300)))))))) (sRet (fC (.bl false))) sNx)
  (sRet (eA (e2 dEq (fVar 3) (eTup aNil)) (eCall m_are_apart (aCons (fz (fVar 4)) (aCons (fz (fVar 2)) aNil)))))))
noncomputable def m_shows_apart : List D → Option Bv := runV 5 4 b_shows_apart
noncomputable def b_shows_parting : Sm :=
  (sSeq (sIf (tN (tb (eCall m_shows_apart (aCons (fz (fVar 0)) (aCons (fz (fVar 1)) (aCons (fz (fVar 2)) (aCons (fz (eTup aNil)) aNil))))))) (sRet (fC (.bl false))) sNx)
  (sSeq (sSet 4 (eCall m_span_in (aCons (fz (fVar 3)) (aCons (fz (eCall m_plains_in (aCons (fz (eTup (aCons (fz (fVar 0)) (aCons (fz (fVar 1)) aNil)))) aNil))) (aCons (fz (fVar 2)) aNil)))))
  (sRet (eA (e2 dNotN (fVar 4) (fC .non)) (eN dAll (aCons (eComp [5, 6] (.tp [(.nm 5), (.nm 6)]) (iSq (fVar 4)) tYs (eA (e2 dLt (fVar 5) (fVar 2)) (e2 dEq (e2 dIx (fVar 6) (fC (.int 0))) (e2 dIx (fVar 6) (fC (.int 1)))))) aNil))))))
noncomputable def m_shows_parting : List D → Option Bv := runV 7 4 b_shows_parting
noncomputable def b_adds_to_nothing : Sm :=
  (sSeq (sPar [2, 3] (sCons (fC (.int 0)) (sCons (fC (.int 1)) sNil)))
  (sSeq (sFor (.tp [(.nm 4), (.tp [(.nm 5), (.nm 6)])]) (iZp (fVar 0) (fVar 1)) (sPar [2, 3] (sCons (e2 dAdd (e2 dMul (fVar 2) (fVar 6)) (e2 dMul (e2 dMul (fVar 4) (fVar 5)) (fVar 3))) (sCons (e2 dMul (fVar 3) (fVar 6)) sNil))))
  (sRet (e2 dEq (fVar 2) (fC (.int 0))))))
noncomputable def m_adds_to_nothing : List D → Option Bv := runV 7 2 b_adds_to_nothing
noncomputable def b_shows_relation : Sm :=
  (sSeq (sSet 3 (eCall m_plains_in (aCons (fz (fVar 0)) aNil)))
  (sSeq (sIf (tO (tb (e2 dIsN (fVar 3) (fC .non))) (tN (tb (eCall m_are_integers (aCons (fz (fVar 1)) (aCons (fz (eN dLen (aCons (fVar 3) aNil))) aNil)))))) (sRet (fC (.bl false))) sNx)
  (sSeq (sSet 4 (eCall m_span_in (aCons (fz (fVar 2)) (aCons (fz (fVar 3)) (aCons (fz (fC .non)) aNil)))))
  (sRet (eA (e2 dNotN (fVar 4) (fC .non)) (eN dAll (aCons (eComp [5, 6] (.tp [(.nm 5), (.nm 6)]) (iSq (fVar 4)) tYs (eCall m_adds_to_nothing (aCons (fz (fVar 1)) (aCons (fz (fVar 6)) aNil)))) aNil)))))))
noncomputable def m_shows_relation : List D → Option Bv := runV 7 3 b_shows_relation
noncomputable def b_accepts : Sm :=
  (sSeq (sIf (tO (tN (tb (eN dIsi (aCons (fVar 0) (aCons (fC (.ty "tuple")) aNil))))) (tO (tb (e2 dEq (fVar 0) (eTup aNil))) (tN (tb (eN dIsi (aCons (e2 dIx (fVar 0) (fC (.int 0))) (aCons (fC (.ty "str")) aNil))))))) (sRet (fC (.bl false))) sNx)
  (sSeq (sSet 2 (e2 dIx (fVar 0) (fC (.int 0))))
  (sSeq (sIf (tb (e2 dNe (eGet [(("same" : PySem.Str), .int 3), (("apart" : PySem.Str), .int 4), (("parting" : PySem.Str), .int 4), (("relation" : PySem.Str), .int 3), (("rests" : PySem.Str), .int 4), (("told" : PySem.Str), .int 3)] (fVar 2)) (eN dLen (aCons (fVar 0) aNil)))) (sRet (fC (.bl false))) sNx)
  (sSeq (sIf (tb (e2 dEq (fVar 2) (fC (.str ("same" : PySem.Str))))) (sRet (eCall m_shows_same (aCons (fz (e2 dIx (fVar 0) (fC (.int 1)))) (aCons (fz (e2 dIx (fVar 0) (fC (.int 2)))) (aCons (fz (fVar 1)) aNil))))) sNx)
  (sSeq (sIf (tb (e2 dEq (fVar 2) (fC (.str ("apart" : PySem.Str))))) (sRet (eCall m_shows_apart (aCons (fz (e2 dIx (fVar 0) (fC (.int 1)))) (aCons (fz (e2 dIx (fVar 0) (fC (.int 2)))) (aCons (fz (e2 dIx (fVar 0) (fC (.int 3)))) (aCons (fz (fVar 1)) aNil)))))) sNx)
  (sSeq (sIf (tb (e2 dEq (fVar 2) (fC (.str ("parting" : PySem.Str))))) (sRet (eCall m_shows_parting (aCons (fz (e2 dIx (fVar 0) (fC (.int 1)))) (aCons (fz (e2 dIx (fVar 0) (fC (.int 2)))) (aCons (fz (e2 dIx (fVar 0) (fC (.int 3)))) (aCons (fz (fVar 1)) aNil)))))) sNx)
  (sSeq (sIf (tb (e2 dEq (fVar 2) (fC (.str ("relation" : PySem.Str))))) (sRet (eCall m_shows_relation (aCons (fz (e2 dIx (fVar 0) (fC (.int 1)))) (aCons (fz (e2 dIx (fVar 0) (fC (.int 2)))) (aCons (fz (fVar 1)) aNil))))) sNx)
  (sSeq (sIf (tb (e2 dEq (fVar 2) (fC (.str ("rests" : PySem.Str))))) sNever sNx)
  sNever))))))))
noncomputable def m_accepts : List D → Option Bv := runV 3 2 b_accepts
noncomputable def b__law_span_right : Sm :=
  (sSeq (sPar [3, 4] (sCons (eCallI m__law_paper (aCons (fVar 0) (aCons (fz (fVar 1)) (aCons (fz (fC .non)) aNil)))) (sCons (eN dTuple (aCons (eComp [5] (.nm 5) (iSq (fVar 1)) tYs (eCall m__law_plain (aCons (fz (fVar 5)) aNil))) aNil)) sNil)))
  (sSeq (sSet 6 (eA (eCall m__law_is_span (aCons (fz (fVar 1)) (aCons (fz (fVar 3)) (aCons (fz (fC .non)) aNil)))) (e2 dEq (eComp [5] (.nm 5) (iSq (eCall m__law_sums (aCons (fz (fVar 1)) (aCons (fz (fVar 2)) (aCons (fz (e2 dIx (fVar 3) (fC (.int 0)))) aNil))))) (tb (e2 dNe (fVar 5) (fC (.int 0)))) (fVar 5)) (eLst aNil))))
  (sSeq (sIf (tA (tb (fVar 6)) (tb (e2 dNe (eCall m__law_sums (aCons (fz (fVar 1)) (aCons (fz (fVar 2)) (aCons (fz (eLR (aCons (fC (.int 16)) aNil))) aNil)))) (e2 dMul (eLst (aCons (fz (fC (.int 0))) aNil)) (fC (.int 16)))))) (sRet (fC (.bl false))) sNx)
  (sSeq (sSet 7 (eLst (aCons (fz (eCall m_accepts (aCons (fz (eTup (aCons (fz (fC (.str ("relation" : PySem.Str)))) (aCons (fz (fVar 4)) (aCons (fz (fVar 2)) aNil))))) (aCons (fz (fVar 3)) aNil)))) aNil)))
  (sSeq (sIf (tb (e2 dEq (fVar 2) (eTup (aCons (fz (fC (.int 1))) (aCons (fz (e1 dNeg (fC (.int 1)))) aNil))))) (sApp 7 (eCall m_accepts (aCons (fz (eTup (aCons (fz (fC (.str ("same" : PySem.Str)))) (aCons (fz (e2 dIx (fVar 4) (fC (.int 0)))) (aCons (fz (e2 dIx (fVar 4) (fC (.int 1)))) aNil))))) (aCons (fz (fVar 3)) aNil)))) sNx)
  (sRet (e2 dEq (eN dRepr (aCons (fVar 7) aNil)) (eN dRepr (aCons (e2 dMul (eLst (aCons (fz (fVar 6)) aNil)) (eN dLen (aCons (fVar 7) aNil))) aNil)))))))))
noncomputable def m__law_span_right : MO → List D → Option (Bv × MO) := runI 8 3 b__law_span_right
noncomputable def b__law_parting_right : Sm :=
  (sSeq (sSet 2 (eComp [3] (.nm 3) (iRan1 (aCons (fC (.int 16)) aNil)) (tb (e2 dNe (eCall m__law_sums (aCons (fz (fVar 1)) (aCons (fz (eTup (aCons (fz (fC (.int 1))) (aCons (fz (e1 dNeg (fC (.int 1)))) aNil)))) (aCons (fz (eLst (aCons (fz (fVar 3)) aNil))) aNil)))) (eLst (aCons (fz (fC (.int 0))) aNil)))) (fVar 3)))
  (sSeq (sSet 4 (eIf (tA (tb (e2 dNe (fVar 2) (eLst aNil))) (tb (e2 dGt (eCallI m__law_draw (aCons (fVar 0) (aCons (fz (fC (.int 3))) aNil))) (fC (.int 0))))) (e2 dIx (fVar 2) (fC (.int 0))) (eCallI m__law_draw (aCons (fVar 0) (aCons (fz (fC (.int 10))) aNil)))))
  (sSeq (sSet 5 (eCallI m__law_paper (aCons (fVar 0) (aCons (fz (fVar 1)) (aCons (fz (fVar 4)) aNil)))))
  (sSeq (sSet 6 (eA (eCall m__law_is_span (aCons (fz (fVar 1)) (aCons (fz (fVar 5)) (aCons (fz (fVar 4)) aNil)))) (eA (e2 dIn (fVar 4) (fVar 2)) (e2 dEq (eComp [3] (.nm 3) (iSq (e2 dIx (fVar 5) (fC (.int 0)))) (tb (e2 dGe (fVar 3) (fVar 4))) (fVar 3)) (eLst aNil)))))
  (sSeq (sSet 6 (eA (fVar 6) (e2 dEq (eComp [7] (.nm 7) (iSq (eCall m__law_sums (aCons (fz (fVar 1)) (aCons (fz (eTup (aCons (fz (fC (.int 1))) (aCons (fz (e1 dNeg (fC (.int 1)))) aNil)))) (aCons (fz (e2 dIx (fVar 5) (fC (.int 0)))) aNil))))) (tb (e2 dNe (fVar 7) (fC (.int 0)))) (fVar 7)) (eLst aNil))))
  (sSeq (sIf (tA (tb (fVar 6)) (tb (e2 dNe (fVar 4) (e2 dIx (fVar 2) (fC (.int 0)))))) (sRet (fC (.bl false))) sNx)
  (sSeq (sSet 7 (eTup (aCons (fz (fC (.str ("parting" : PySem.Str)))) (aCons (fz (eCall m__law_plain (aCons (fz (e2 dIx (fVar 1) (fC (.int 0)))) aNil))) (aCons (fz (eCall m__law_plain (aCons (fz (e2 dIx (fVar 1) (fC (.int 1)))) aNil))) (aCons (fz (fVar 4)) aNil))))))
  (sRet (e2 dEq (eN dRepr (aCons (eCall m_accepts (aCons (fz (fVar 7)) (aCons (fz (fVar 5)) aNil))) aNil)) (eN dRepr (aCons (fVar 6) aNil)))))))))))
noncomputable def m__law_parting_right : MO → List D → Option (Bv × MO) := runI 8 2 b__law_parting_right
noncomputable def b__law_right : Sm :=
  (sSeq (sSet 1 (eCallI m__law_small (aCons (fVar 0) (aCons (fz (e2 dAdd (fC (.int 1)) (eCallI m__law_draw (aCons (fVar 0) (aCons (fz (fC (.int 2))) aNil))))) (aCons (fz (e2 dAdd (fC (.int 1)) (eCallI m__law_draw (aCons (fVar 0) (aCons (fz (fC (.int 2))) aNil))))) aNil)))))
  (sSeq (sSet 2 (eCallI m__law_small (aCons (fVar 0) (aCons (fz (e2 dAdd (fC (.int 1)) (eCallI m__law_draw (aCons (fVar 0) (aCons (fz (fC (.int 2))) aNil))))) (aCons (fz (fC (.int 1))) aNil)))))
  (sSeq (sPar [3, 4] (sCons (eCallI m__law_draw (aCons (fVar 0) (aCons (fz (fC (.int 3))) aNil))) (sCons (eTup (aCons (fz (e2 dSub (eCallI m__law_draw (aCons (fVar 0) (aCons (fz (fC (.int 3))) aNil))) (fC (.int 1)))) (aCons (fz (e2 dSub (eCallI m__law_draw (aCons (fVar 0) (aCons (fz (fC (.int 3))) aNil))) (fC (.int 1)))) aNil))) sNil)))
  (sSeq (sIf (tb (e2 dEq (fVar 3) (fC (.int 0)))) (sSet 2 (fVar 1)) sNx)
  (sSeq (sIf (tb (e2 dEq (fVar 3) (fC (.int 1)))) (sSet 2 (eTup (aCons (fz (e2 dIx (fVar 1) (fC (.int 0)))) (aCons (fz (e2 dIx (fVar 1) (fC (.int 1)))) (aCons (fz (e2 dIx (fVar 1) (fC (.int 2)))) (aCons (fz (eCallI m__law_row (aCons (fVar 0) (aCons (fz (eN dLen (aCons (e2 dIx (fVar 1) (fC (.int 2))) aNil))) (aCons (fz (fC (.int 1))) aNil))))) aNil)))))) sNx)
  (sSeq (sSet 5 (eLst (aCons (fz (fVar 1)) (aCons (fz (fVar 2)) aNil))))
  (sSeq (sIf (tO (tN (tb (eCallI m__law_span_right (aCons (fVar 0) (aCons (fz (fVar 5)) (aCons (fz (eTup (aCons (fz (fC (.int 1))) (aCons (fz (e1 dNeg (fC (.int 1)))) aNil)))) aNil)))))) (tN (tb (eCallI m__law_span_right (aCons (fVar 0) (aCons (fz (fVar 5)) (aCons (fz (fVar 4)) aNil))))))) (sRet (fC (.bl false))) sNx)
  (sRet (eA (eCallI m__law_parting_right (aCons (fVar 0) (aCons (fz (fVar 5)) aNil))) (eCallI m__law_parting_right (aCons (fVar 0) (aCons (fz (fVar 5)) aNil))))))))))))
noncomputable def m__law_right : MO → List D → Option (Bv × MO) := runI 6 1 b__law_right
noncomputable def b_law : Sm :=
  (sSeq (sFor (.nm 1) (iRan1 (aCons (eN dMax2 (aCons (fC (.int 2)) (aCons (eN dMin2 (aCons (eN dLen (aCons (fVar 0) aNil)) (aCons (fC (.int 5)) aNil))) aNil))) aNil)) (sSeq (sSet 2 (eCall m__law_source (aCons (fz (eCall m__law_cell (aCons (fz (fVar 0)) (aCons (fz (fVar 1)) aNil)))) aNil)))
  (sIf (tN (tb (eN dAll (aCons (eComp [3] (.nm 3) (iRan1 (aCons (fC (.int 3)) aNil)) tYs (eCallI m__law_right (aCons (fVar 2) aNil))) aNil)))) (sRet (fC (.bl false))) sNx)))
  (sRet (fC (.bl true))))
noncomputable def m_law : List D → Option Bv := runV 4 1 b_law
end VL

set_option Elab.async false
set_option linter.all false
set_option maxRecDepth 100000
set_option maxHeartbeats 1000000
/-! Gt: what the bodies ask of the module. -/
namespace VL
open PySem PySem.Spec PyProof.Rows L2
def topS (i : Nat) : Stmt := PySem.Challenge.pw_halverules_k66_whole_accepted_claims_are.main.body.getD i (.Pass ⟨0, 0, 0, 0⟩)
structure Txt (w : World) (K : PySem.W.Frag) (mg : Str → Option Value) (cl : Nat → Addr) : Prop where
  f_abs : mg "abs" = none
  f_all : mg "all" = none
  f_any : mg "any" = none
  f_bool : mg "bool" = none
  f_divmod : mg "divmod" = none
  f_enumerate : mg "enumerate" = none
  f_int : mg "int" = none
  f_isinstance : mg "isinstance" = none
  f_len : mg "len" = none
  f_list : mg "list" = none
  f_max : mg "max" = none
  f_min : mg "min" = none
  f_range : mg "range" = none
  f_repr : mg "repr" = none
  f_str : mg "str" = none
  f_sum : mg "sum" = none
  f_tuple : mg "tuple" = none
  f_zip : mg "zip" = none
  g_LARGEST : ∃ u, mg "LARGEST" = some u ∧ RelV (.int (10 ^ 300)) u
  g_MOST_LINES : ∃ u, mg "MOST_LINES" = some u ∧ RelV (.int 100) u
  g_MOST_NUMBERS : ∃ u, mg "MOST_NUMBERS" = some u ∧ RelV (.int 200) u
  cls : Cls K (cl 0)
  mroO : PySem.W.mroIn K (cl 0) (.type "object") = some true
  eqO : PySem.W.findIn K (.ref (cl 0)) "__eq__" = some (some (.builtin "object.__eq__"))
  na_bottoms : NoAttr K (cl 0) "bottoms"
  na_row : NoAttr K (cl 0) "row"
  na_sides : NoAttr K (cl 0) "sides"
  na_starts : NoAttr K (cl 0) "starts"
  na_under : NoAttr K (cl 0) "under"
  d_SIZES : DictHas K cl w (cl 1) [(("same" : PySem.Str), D.int 3), (("apart" : PySem.Str), D.int 4), (("parting" : PySem.Str), D.int 4), (("relation" : PySem.Str), D.int 3), (("rests" : PySem.Str), D.int 4), (("told" : PySem.Str), D.int 3)]
  gd_SIZES : mg "SIZES" = some (.ref (cl 1))
end VL

set_option Elab.async false
set_option linter.all false
set_option maxRecDepth 100000
set_option maxHeartbeats 1000000
/-! the bodies bear their functions (printed by gen.py). -/
namespace VL
open PySem PySem.Spec PyProof.Rows L2
section
variable {P : Program} {w : World} {K : PySem.W.Frag} {mg : Str → Option Value} {base : Heap} {cl : Nat → Addr}
theorem sc__law_source : FnScope ["cell"] ["cell"] (defScope (topS 40)) := ⟨rfl, rfl, rfl, by decide +kernel, rfl, by decide +kernel, by decide +kernel⟩
theorem ok__law_source (T : Txt w K mg cl)  {f : Addr} {fd : FuncData} (F : FunD K "_law_source" "_law_source" (defArgs (topS 40)) (defBody (topS 40)) (defScope (topS 40)) [] [] f fd) :
    FnOk P w K mg base CX0 1 f fd ["cell"] (spV K cl 1 m__law_source) :=
  okV (N := ["cell"]) (ps := ["cell"]) (k := 0) (fb := b__law_source) F sc__law_source (by decide) fun cdv A outer s H E hr =>
  (bx_one (sx_ret (ex_lst (ax_cons (ex_fz (ex_op op_mod ln_mod (ex_callTy call_int1 ln_int rfl T.f_int bt_int (ax_cons (ex_of_var (pv 0)) ax_nil)) ex_int)) (ax_cons (ex_fz (ex_if (tx_w (wx_or (tx_cmp op_lt ln_cmp (ex_of_var (pv 0)) ex_int (nomark _)) (wx_or1 (tx_cmp op_ge ln_cmp (ex_of_var (pv 0)) (ex_op op_pow ln_pow ex_int ex_int) (nomark _))))) (ex_callB call_abs ln_abs rfl T.f_abs bt_abs (ax_cons (ex_of_var (pv 0)) ax_nil)) ex_int)) (ax_cons (ex_fz ex_int) ax_nil))))))
theorem sc__law_cell : FnScope ["cells", "spot", "state", "cell"] ["cells", "spot"] (defScope (topS 39)) := ⟨rfl, rfl, rfl, by decide +kernel, rfl, by decide +kernel, by decide +kernel⟩
theorem ok__law_cell (T : Txt w K mg cl)  {f : Addr} {fd : FuncData} (F : FunD K "_law_cell" "_law_cell" (defArgs (topS 39)) (defBody (topS 39)) (defScope (topS 39)) [] [] f fd) :
    FnOk P w K mg base CX0 1 f fd ["cells", "spot"] (spV K cl 2 m__law_cell) :=
  okV (N := ["cells", "spot", "state", "cell"]) (ps := ["cells", "spot"]) (k := 0) (fb := b__law_cell) F sc__law_cell (by decide) fun cdv A outer s H E hr =>
  (bx_cons (sx_if (tx_cmp op_lt ln_cmp (ex_of_var (pv 1)) (ex_callB call_len ln_len rfl T.f_len bt_len (ax_cons (ex_of_var (pv 0)) ax_nil)) (nomark _)) (bx_one (sx_ret (ex_ix ix_lt ln_ix (ex_of_var (pv 0)) (ex_of_var (pv 1)) (by intro _ _; rfl)))) bx_nil)
  (bx_cons (sx_set (i := 2) sc__law_cell.nd rfl (by first | exact Or.inl rfl | exact Or.inr rfl) (ex_op op_add3 ln_add (ex_op op_mul2 ln_mul (ex_op op_mul2 ln_mul ex_int (ex_op op_add3 ln_add (ex_of_var (pv 1)) ex_int)) (ex_op op_add3 ln_add (ex_of_var (pv 1)) ex_int)) ex_int))
  (bx_cons (sx_for PassesOwn.never rfl (ix_seq' (ex_slice (ex_of_var (pv 0)) px_none (px_some ex_int))) (gx_name (i := 3) sc__law_cell.nd rfl (by first | exact Or.inl rfl | exact Or.inr rfl)) (bx_one (sx_set (i := 2) sc__law_cell.nd rfl (by first | exact Or.inl rfl | exact Or.inr rfl) (ex_op op_mod ln_mod (ex_callTy call_int1 ln_int rfl T.f_int bt_int (ax_cons (ex_op op_add3 ln_add (ex_op op_add3 ln_add (ex_op op_mul2 ln_mul (ex_of_var (pv 2)) ex_int) (ex_op op_mod ln_mod (ex_callTy call_int1 ln_int rfl T.f_int bt_int (ax_cons (ex_of_var (pv 3)) ax_nil)) ex_int)) ex_int) ax_nil)) ex_int))))
  (bx_one (sx_ret (ex_of_var (pv 2)))))))
theorem sc__law_draw : FnScope ["source", "many", "digit", "state", "mixed"] ["source", "many"] (defScope (topS 41)) := ⟨rfl, rfl, rfl, by decide +kernel, rfl, by decide +kernel, by decide +kernel⟩
theorem ok__law_draw (T : Txt w K mg cl)  {f : Addr} {fd : FuncData} (F : FunD K "_law_draw" "_law_draw" (defArgs (topS 41)) (defBody (topS 41)) (defScope (topS 41)) [] [] f fd) :
    FnOk P w K mg base CX0 1 f fd ["source", "many"] (spI K cl 2 m__law_draw) :=
  okI (N := ["source", "many", "digit", "state", "mixed"]) (ps := ["source", "many"]) (k := 0) (fb := b__law_draw) F sc__law_draw (by decide) fun cdv A outer s H E hr =>
  (bx_cons (sx_ix (i := 0) (pv 0) ex_int (ex_op op_add3 ln_add (ex_ix ix_lt ln_ix (ex_of_var (pv 0)) ex_int (by intro _ _; rfl)) ex_int))
  (bx_cons (sx_ix (i := 0) (pv 0) ex_int (ex_op op_mod ln_mod (ex_callTy call_int1 ln_int rfl T.f_int bt_int (ax_cons (ex_op op_add3 ln_add (ex_op op_add3 ln_add (ex_op op_mul2 ln_mul (ex_ix ix_lt ln_ix (ex_of_var (pv 0)) ex_int (by intro _ _; rfl)) ex_int) (ex_op op_mul2 ln_mul (ex_ix ix_lt ln_ix (ex_of_var (pv 0)) ex_int (by intro _ _; rfl)) ex_int)) ex_int) ax_nil)) ex_int))
  (bx_cons (sx_if (tx_cmp op_gt ln_cmp (ex_ix ix_lt ln_ix (ex_of_var (pv 0)) ex_int (by intro _ _; rfl)) ex_int (nomark _)) (bx_cons (sx_asg (ex_callB call_divmod ln_divmod rfl T.f_divmod bt_divmod (ax_cons (ex_ix ix_lt ln_ix (ex_of_var (pv 0)) ex_int (by intro _ _; rfl)) (ax_cons (ex_of_var (pv 1)) ax_nil))) (gx_tup rfl (gxs_cons (gx_ix (i := 0) (pv 0) pe_int) (gxs_cons (gx_name (i := 2) sc__law_draw.nd rfl (by first | exact Or.inl rfl | exact Or.inr rfl)) gxs_nil))))
  (bx_one (sx_ret (ex_of_var (pv 2))))) bx_nil)
  (bx_cons (sx_set (i := 3) sc__law_draw.nd rfl (by first | exact Or.inl rfl | exact Or.inr rfl) (ex_callTy call_int1 ln_int rfl T.f_int bt_int (ax_cons (ex_ix ix_lt ln_ix (ex_of_var (pv 0)) ex_int (by intro _ _; rfl)) ax_nil)))
  (bx_cons (sx_set (i := 4) sc__law_draw.nd rfl (by first | exact Or.inl rfl | exact Or.inr rfl) (ex_op op_mod ln_mod (ex_callTy call_int1 ln_int rfl T.f_int bt_int (ax_cons (ex_op op_add3 ln_add (ex_op op_add3 ln_add (ex_op op_mul2 ln_mul (ex_of_var (pv 3)) (ex_of_var (pv 3))) (ex_op op_mul2 ln_mul ex_int (ex_of_var (pv 3)))) (ex_ix ix_lt ln_ix (ex_of_var (pv 0)) ex_int (by intro _ _; rfl))) ax_nil)) ex_int))
  (bx_one (sx_ret (ex_op op_mod ln_mod (ex_callTy call_int1 ln_int rfl T.f_int bt_int (ax_cons (ex_op op_fdivW ln_fdiv (ex_of_var (pv 4)) ex_int) ax_nil)) (ex_of_var (pv 1))))))))))
theorem sc__law_number : FnScope ["source", "wide"] ["source", "wide"] (defScope (topS 46)) := ⟨rfl, rfl, rfl, by decide +kernel, rfl, by decide +kernel, by decide +kernel⟩
theorem ok__law_number (T : Txt w K mg cl) (C__law_draw : CalI P w K mg base cl 1 "_law_draw" 2 m__law_draw) {f : Addr} {fd : FuncData} (F : FunD K "_law_number" "_law_number" (defArgs (topS 46)) (defBody (topS 46)) (defScope (topS 46)) [] [] f fd) :
    FnOk P w K mg base CX0 2 f fd ["source", "wide"] (spI K cl 2 m__law_number) :=
  okI (N := ["source", "wide"]) (ps := ["source", "wide"]) (k := 1) (fb := b__law_number) F sc__law_number (by decide) fun cdv A outer s H E hr =>
  (bx_one (sx_ret (ex_op op_sub ln_sub (ex_i C__law_draw hr (by decide) (fun _ _ _ h => runI_len h) rfl (ax_cons (ex_of_var (pv 0)) (ax_cons (ex_fz (ex_op op_add3 ln_add (ex_op op_mul2 ln_mul ex_int (ex_of_var (pv 1))) ex_int)) ax_nil))) (ex_of_var (pv 1)))))
theorem sc__law_row : FnScope ["source", "many", "wide", "j"] ["source", "many", "wide"] (defScope (topS 47)) := ⟨rfl, rfl, rfl, by decide +kernel, rfl, by decide +kernel, by decide +kernel⟩
theorem ok__law_row (T : Txt w K mg cl) (C__law_number : CalI P w K mg base cl 2 "_law_number" 2 m__law_number) {f : Addr} {fd : FuncData} (F : FunD K "_law_row" "_law_row" (defArgs (topS 47)) (defBody (topS 47)) (defScope (topS 47)) [] [] f fd) :
    FnOk P w K mg base CX0 3 f fd ["source", "many", "wide"] (spI K cl 3 m__law_row) :=
  okI (N := ["source", "many", "wide", "j"]) (ps := ["source", "many", "wide"]) (k := 2) (fb := b__law_row) F sc__law_row (by decide) fun cdv A outer s H E hr =>
  (bx_one (sx_ret (ex_callTy call_tuple_of ln_tuple rfl T.f_tuple bt_tuple (ax_cons (ex_comp rfl sc__law_row.nd (ix_range1 rfl T.f_range (ax_cons (ex_of_var (pv 1)) ax_nil)) (own := [(("j" : PySem.Str), 3)]) (blk_ok (by kernel_rfl)) (fun _ _ _ _ _ => (gx_name (i := 3) sc__law_row.nd rfl (by first | exact Or.inl rfl | exact Or.inr rfl))) (fun _ _ _ _ _ => ptx_nil) (fun _ _ _ _ _ => (ex_i C__law_number hr (by decide) (fun _ _ _ h => runI_len h) rfl (ax_cons (ex_of_var (pv 0)) (ax_cons (ex_fz (ex_of_var (pv 2))) ax_nil)))) (by decide)) ax_nil))))
theorem sc__law_image : FnScope ["rows", "worths", "j", "row"] ["rows", "worths"] (defScope (topS 42)) := ⟨rfl, rfl, rfl, by decide +kernel, rfl, by decide +kernel, by decide +kernel⟩
theorem ok__law_image (T : Txt w K mg cl)  {f : Addr} {fd : FuncData} (F : FunD K "_law_image" "_law_image" (defArgs (topS 42)) (defBody (topS 42)) (defScope (topS 42)) [] [] f fd) :
    FnOk P w K mg base CX0 1 f fd ["rows", "worths"] (spV K cl 2 m__law_image) :=
  okV (N := ["rows", "worths", "j", "row"]) (ps := ["rows", "worths"]) (k := 0) (fb := b__law_image) F sc__law_image (by decide) fun cdv A outer s H E hr =>
  (bx_one (sx_ret (ex_comp rfl sc__law_image.nd (ix_seq' (ex_of_var (pv 0))) (own := [(("row" : PySem.Str), 3)]) (blk_ok (by kernel_rfl)) (fun _ _ _ _ _ => (gx_name (i := 3) sc__law_image.nd rfl (by first | exact Or.inl rfl | exact Or.inr rfl))) (fun _ _ _ _ _ => ptx_nil) (fun _ _ _ _ _ => (ex_callB (cr_sum rfl) ln_sum rfl T.f_sum bt_sum (ax_cons (ex_comp rfl sc__law_image.nd (ix_range1 rfl T.f_range (ax_cons (ex_callB call_len ln_len rfl T.f_len bt_len (ax_cons (ex_of_var (pv 1)) ax_nil)) ax_nil)) (own := [(("j" : PySem.Str), 2)]) (blk_ok (by kernel_rfl)) (fun _ _ _ _ _ => (gx_name (i := 2) sc__law_image.nd rfl (by first | exact Or.inl rfl | exact Or.inr rfl))) (fun _ _ _ _ _ => ptx_nil) (fun _ _ _ _ _ => (ex_op op_mul2 ln_mul (ex_ix ix_lt ln_ix (ex_of_var (pv 3)) (ex_of_var (pv 2)) (by intro _ _; rfl)) (ex_ix ix_lt ln_ix (ex_of_var (pv 1)) (ex_of_var (pv 2)) (by intro _ _; rfl)))) (by decide)) ax_nil))) (by decide))))
theorem sc__law_rule : FnScope ["source", "many", "wide", "spot", "sign", "heads", "evens", "head", "row", "odds", "j"] ["source", "many", "wide"] (defScope (topS 48)) := ⟨rfl, rfl, rfl, by decide +kernel, rfl, by decide +kernel, by decide +kernel⟩
theorem ok__law_rule (T : Txt w K mg cl) (C__law_draw : CalI P w K mg base cl 1 "_law_draw" 2 m__law_draw) (C__law_row : CalI P w K mg base cl 3 "_law_row" 3 m__law_row) (C__law_image : CalF P w K mg base cl 1 "_law_image" 2 m__law_image) {f : Addr} {fd : FuncData} (F : FunD K "_law_rule" "_law_rule" (defArgs (topS 48)) (defBody (topS 48)) (defScope (topS 48)) [] [] f fd) :
    FnOk P w K mg base CX0 4 f fd ["source", "many", "wide"] (spI K cl 3 m__law_rule) :=
  okI (N := ["source", "many", "wide", "spot", "sign", "heads", "evens", "head", "row", "odds", "j"]) (ps := ["source", "many", "wide"]) (k := 3) (fb := b__law_rule) F sc__law_rule (by decide) fun cdv A outer s H E hr =>
  (bx_cons (by first | exact (sx_parT (is := [3, 4]) rfl (as_cons (ex_i C__law_draw hr (by decide) (fun _ _ _ h => runI_len h) rfl (ax_cons (ex_of_var (pv 0)) (ax_cons (ex_fz (ex_of_var (pv 1))) ax_nil))) (as_cons (ex_op op_sub ln_sub ex_int (ex_op op_mul2 ln_mul ex_int (ex_i C__law_draw hr (by decide) (fun _ _ _ h => runI_len h) rfl (ax_cons (ex_of_var (pv 0)) (ax_cons (ex_fz ex_int) ax_nil))))) as_nil)) (pgs_cons (pg_name (i := 3) sc__law_rule.nd rfl (by first | exact Or.inl rfl | exact Or.inr rfl)) (pgs_cons (pg_name (i := 4) sc__law_rule.nd rfl (by first | exact Or.inl rfl | exact Or.inr rfl)) pgs_nil)) rfl (by decide)) | exact (sx_par2 (i := 3) (j := 4) rfl sc__law_rule.nd rfl rfl (by decide) rfl rfl (as_cons (ex_i C__law_draw hr (by decide) (fun _ _ _ h => runI_len h) rfl (ax_cons (ex_of_var (pv 0)) (ax_cons (ex_fz (ex_of_var (pv 1))) ax_nil))) (as_cons (ex_op op_sub ln_sub ex_int (ex_op op_mul2 ln_mul ex_int (ex_i C__law_draw hr (by decide) (fun _ _ _ h => runI_len h) rfl (ax_cons (ex_of_var (pv 0)) (ax_cons (ex_fz ex_int) ax_nil))))) as_nil)) (by rfl)))
  (bx_cons (sx_set (i := 5) sc__law_rule.nd rfl (by first | exact Or.inl rfl | exact Or.inr rfl) (ex_callTy call_list_of ln_list rfl T.f_list bt_list (ax_cons (ex_i C__law_row hr (by decide) (fun _ _ _ h => runI_len h) rfl (ax_cons (ex_of_var (pv 0)) (ax_cons (ex_fz (ex_of_var (pv 1))) (ax_cons (ex_fz (ex_of_var (pv 2))) ax_nil)))) ax_nil)))
  (bx_cons (sx_ix (i := 5) (pv 5) (ex_of_var (pv 3)) (ex_of_var (pv 4)))
  (bx_cons (sx_set (i := 6) sc__law_rule.nd rfl (by first | exact Or.inl rfl | exact Or.inr rfl) (ex_lst ax_nil))
  (bx_cons (sx_for PassesOwn.never rfl (ix_seq' (ex_of_var (pv 5))) (gx_name (i := 7) sc__law_rule.nd rfl (by first | exact Or.inl rfl | exact Or.inr rfl)) (bx_cons (sx_set (i := 8) sc__law_rule.nd rfl (by first | exact Or.inl rfl | exact Or.inr rfl) (ex_callTy call_list_of ln_list rfl T.f_list bt_list (ax_cons (ex_i C__law_row hr (by decide) (fun _ _ _ h => runI_len h) rfl (ax_cons (ex_of_var (pv 0)) (ax_cons (ex_fz (ex_of_var (pv 1))) (ax_cons (ex_fz (ex_of_var (pv 2))) ax_nil)))) ax_nil)))
  (bx_cons (sx_ix (i := 8) (pv 8) (ex_of_var (pv 3)) ex_int)
  (bx_cons (sx_ix (i := 8) (pv 8) (ex_of_var (pv 3)) (ex_pure (ex_op op_mul2 ln_mul (ex_of_var (pv 4)) (ex_op op_sub ln_sub (ex_of_var (pv 7)) (ex_ix ix_lt ln_ix (ex_f C__law_image hr (by decide) (fun _ _ h => runV_len h) rfl (ax_cons (ex_fz (ex_lst (ax_cons (ex_fz (ex_of_var (pv 8))) ax_nil))) (ax_cons (ex_fz (ex_of_var (pv 5))) ax_nil))) ex_int (by intro _ _; rfl))))))
  (bx_one (sx_app (pv 6) (ex_callTy call_tuple_of ln_tuple rfl T.f_tuple bt_tuple (ax_cons (ex_of_var (pv 8)) ax_nil))))))))
  (bx_cons (sx_set (i := 9) sc__law_rule.nd rfl (by first | exact Or.inl rfl | exact Or.inr rfl) (ex_callTy call_tuple_of ln_tuple rfl T.f_tuple bt_tuple (ax_cons (ex_comp rfl sc__law_rule.nd (ix_range1 rfl T.f_range (ax_cons (ex_of_var (pv 1)) ax_nil)) (own := [(("j" : PySem.Str), 10)]) (blk_ok (by kernel_rfl)) (fun _ _ _ _ _ => (gx_name (i := 10) sc__law_rule.nd rfl (by first | exact Or.inl rfl | exact Or.inr rfl))) (fun _ _ _ _ _ => ptx_nil) (fun _ _ _ _ _ => (ex_i C__law_row hr (by decide) (fun _ _ _ h => runI_len h) rfl (ax_cons (ex_of_var (pv 0)) (ax_cons (ex_fz (ex_of_var (pv 1))) (ax_cons (ex_fz (ex_of_var (pv 2))) ax_nil))))) (by decide)) ax_nil)))
  (bx_one (sx_ret (ex_tup (ax_cons (ex_fz (ex_callTy call_tuple_of ln_tuple rfl T.f_tuple bt_tuple (ax_cons (ex_of_var (pv 6)) ax_nil))) (ax_cons (ex_fz (ex_of_var (pv 9))) (ax_cons (ex_fz (ex_callTy call_tuple_of ln_tuple rfl T.f_tuple bt_tuple (ax_cons (ex_of_var (pv 5)) ax_nil))) (ax_cons (ex_fz (ex_i C__law_row hr (by decide) (fun _ _ _ h => runI_len h) rfl (ax_cons (ex_of_var (pv 0)) (ax_cons (ex_fz (ex_of_var (pv 1))) (ax_cons (ex_fz (ex_of_var (pv 2))) ax_nil))))) ax_nil)))))))))))))
theorem sc__law_small : FnScope ["source", "many", "wide", "spots", "turn", "odds", "j", "spot", "evens"] ["source", "many", "wide"] (defScope (topS 57)) := ⟨rfl, rfl, rfl, by decide +kernel, rfl, by decide +kernel, by decide +kernel⟩
theorem ok__law_small (T : Txt w K mg cl) (C__law_draw : CalI P w K mg base cl 1 "_law_draw" 2 m__law_draw) (C__law_rule : CalI P w K mg base cl 4 "_law_rule" 3 m__law_rule) (C__law_row : CalI P w K mg base cl 3 "_law_row" 3 m__law_row) {f : Addr} {fd : FuncData} (F : FunD K "_law_small" "_law_small" (defArgs (topS 57)) (defBody (topS 57)) (defScope (topS 57)) [] [] f fd) :
    FnOk P w K mg base CX0 5 f fd ["source", "many", "wide"] (spI K cl 3 m__law_small) :=
  okI (N := ["source", "many", "wide", "spots", "turn", "odds", "j", "spot", "evens"]) (ps := ["source", "many", "wide"]) (k := 4) (fb := b__law_small) F sc__law_small (by decide) fun cdv A outer s H E hr =>
  (bx_cons (sx_if (tx_cmp (op_eqD (hu64 hr)) ln_eq (ex_i C__law_draw hr (by decide) (fun _ _ _ h => runI_len h) rfl (ax_cons (ex_of_var (pv 0)) (ax_cons (ex_fz ex_int) ax_nil))) ex_int (nomark _)) (bx_one (sx_ret (ex_i C__law_rule hr (by decide) (fun _ _ _ h => runI_len h) rfl (ax_cons (ex_of_var (pv 0)) (ax_cons (ex_fz (ex_of_var (pv 1))) (ax_cons (ex_fz (ex_of_var (pv 2))) ax_nil)))))) bx_nil)
  (bx_cons (by first | exact (sx_set (i := 3) sc__law_small.nd rfl (by first | exact Or.inl rfl | exact Or.inr rfl) (ex_comp rfl sc__law_small.nd (ix_range1 rfl T.f_range (ax_cons (ex_of_var (pv 1)) ax_nil)) (own := [(("turn" : PySem.Str), 4)]) (blk_ok (by kernel_rfl)) (fun _ _ _ _ _ => (gx_name (i := 4) sc__law_small.nd rfl (by first | exact Or.inl rfl | exact Or.inr rfl))) (fun _ _ _ _ _ => ptx_nil) (fun _ _ _ _ _ => (ex_i C__law_draw hr (by decide) (fun _ _ _ h => runI_len h) rfl (ax_cons (ex_of_var (pv 0)) (ax_cons (ex_fz (ex_of_var (pv 1))) ax_nil)))) (by decide))) | exact (sx_comp (i := 3) rfl sc__law_small.nd rfl rfl (by rfl) (ix_range1 rfl T.f_range (ax_cons (ex_of_var (pv 1)) ax_nil)) (own := [(("turn" : PySem.Str), 4)]) (blk_ok (by kernel_rfl)) (fun _ _ _ _ _ => (gx_name (i := 4) sc__law_small.nd rfl (by first | exact Or.inl rfl | exact Or.inr rfl))) (fun _ _ _ _ _ => ptx_nil) (fun _ _ _ _ _ => (ex_i C__law_draw hr (by decide) (fun _ _ _ h => runI_len h) rfl (ax_cons (ex_of_var (pv 0)) (ax_cons (ex_fz (ex_of_var (pv 1))) ax_nil)))) (by decide)))
  (bx_cons (sx_set (i := 5) sc__law_small.nd rfl (by first | exact Or.inl rfl | exact Or.inr rfl) (ex_callTy call_tuple_of ln_tuple rfl T.f_tuple bt_tuple (ax_cons (ex_comp rfl sc__law_small.nd (ix_seq' (ex_of_var (pv 3))) (own := [(("spot" : PySem.Str), 7)]) (blk_ok (by kernel_rfl)) (fun _ _ _ _ _ => (gx_name (i := 7) sc__law_small.nd rfl (by first | exact Or.inl rfl | exact Or.inr rfl))) (fun _ _ _ _ _ => ptx_nil) (fun _ _ _ _ _ => (ex_callTy call_tuple_of ln_tuple rfl T.f_tuple bt_tuple (ax_cons (ex_comp rfl sc__law_small.nd (ix_range1 rfl T.f_range (ax_cons (ex_of_var (pv 1)) ax_nil)) (own := [(("j" : PySem.Str), 6)]) (blk_ok (by kernel_rfl)) (fun _ _ _ _ _ => (gx_name (i := 6) sc__law_small.nd rfl (by first | exact Or.inl rfl | exact Or.inr rfl))) (fun _ _ _ _ _ => ptx_nil) (fun _ _ _ _ _ => (ex_callTy call_int1 ln_int rfl T.f_int bt_int (ax_cons (ex_cmp (op_eqD (hu64 hr)) ln_eq (ex_of_var (pv 6)) (ex_of_var (pv 7)) (nomark _)) ax_nil))) (by decide)) ax_nil))) (by decide)) ax_nil)))
  (bx_cons (sx_set (i := 8) sc__law_small.nd rfl (by first | exact Or.inl rfl | exact Or.inr rfl) (ex_callTy call_tuple_of ln_tuple rfl T.f_tuple bt_tuple (ax_cons (ex_comp rfl sc__law_small.nd (ix_range1 rfl T.f_range (ax_cons (ex_of_var (pv 1)) ax_nil)) (own := [(("spot" : PySem.Str), 7)]) (blk_ok (by kernel_rfl)) (fun _ _ _ _ _ => (gx_name (i := 7) sc__law_small.nd rfl (by first | exact Or.inl rfl | exact Or.inr rfl))) (fun _ _ _ _ _ => ptx_nil) (fun _ _ _ _ _ => (ex_callTy call_tuple_of ln_tuple rfl T.f_tuple bt_tuple (ax_cons (ex_comp rfl sc__law_small.nd (ix_range1 rfl T.f_range (ax_cons (ex_of_var (pv 1)) ax_nil)) (own := [(("j" : PySem.Str), 6)]) (blk_ok (by kernel_rfl)) (fun _ _ _ _ _ => (gx_name (i := 6) sc__law_small.nd rfl (by first | exact Or.inl rfl | exact Or.inr rfl))) (fun _ _ _ _ _ => ptx_nil) (fun _ _ _ _ _ => (ex_callTy call_int1 ln_int rfl T.f_int bt_int (ax_cons (ex_cmp (op_eqD (hu64 hr)) ln_eq (ex_of_var (pv 6)) (ex_of_var (pv 7)) (nomark _)) ax_nil))) (by decide)) ax_nil))) (by decide)) ax_nil)))
  (bx_one (sx_ret (ex_tup (ax_cons (ex_fz (ex_of_var (pv 8))) (ax_cons (ex_fz (ex_of_var (pv 5))) (ax_cons (ex_fz (ex_i C__law_row hr (by decide) (fun _ _ _ h => runI_len h) rfl (ax_cons (ex_of_var (pv 0)) (ax_cons (ex_fz (ex_of_var (pv 1))) (ax_cons (ex_fz ex_int) ax_nil))))) (ax_cons (ex_fz (ex_i C__law_row hr (by decide) (fun _ _ _ h => runI_len h) rfl (ax_cons (ex_of_var (pv 0)) (ax_cons (ex_fz (ex_of_var (pv 1))) (ax_cons (ex_fz ex_int) ax_nil))))) ax_nil)))))))))))
end
end VL

set_option Elab.async false
set_option linter.all false
set_option maxRecDepth 100000
set_option maxHeartbeats 1000000
/-! the bodies bear their functions (printed by gen.py). -/
namespace VL
open PySem PySem.Spec PyProof.Rows L2
section
variable {P : Program} {w : World} {K : PySem.W.Frag} {mg : Str → Option Value} {base : Heap} {cl : Nat → Addr}
theorem sc__law_digits : FnScope ["at", "found", "left"] ["at"] (defScope (topS 43)) := ⟨rfl, rfl, rfl, by decide +kernel, rfl, by decide +kernel, by decide +kernel⟩
theorem ok__law_digits (T : Txt w K mg cl)  {f : Addr} {fd : FuncData} (F : FunD K "_law_digits" "_law_digits" (defArgs (topS 43)) (defBody (topS 43)) (defScope (topS 43)) [] [] f fd) :
    FnOk P w K mg base CX0 1 f fd ["at"] (spV K cl 1 m__law_digits) :=
  okV (N := ["at", "found", "left"]) (ps := ["at"]) (k := 0) (fb := b__law_digits) F sc__law_digits (by decide) fun cdv A outer s H E hr =>
  (bx_cons (by first | exact (sx_parT (is := [1, 2]) rfl (as_cons (ex_lst ax_nil) (as_cons (ex_of_var (pv 0)) as_nil)) (pgs_cons (pg_name (i := 1) sc__law_digits.nd rfl (by first | exact Or.inl rfl | exact Or.inr rfl)) (pgs_cons (pg_name (i := 2) sc__law_digits.nd rfl (by first | exact Or.inl rfl | exact Or.inr rfl)) pgs_nil)) rfl (by decide)) | exact (sx_par2 (i := 1) (j := 2) rfl sc__law_digits.nd rfl rfl (by decide) rfl rfl (as_cons (ex_lst ax_nil) (as_cons (ex_of_var (pv 0)) as_nil)) (by rfl)))
  (bx_cons (sx_while PassesOwn.never (tx_cmp op_gt ln_cmp (ex_of_var (pv 2)) ex_int (nomark _)) (bx_cons (sx_app (pv 1) (ex_op op_mod ln_mod (ex_callTy call_int1 ln_int rfl T.f_int bt_int (ax_cons (ex_of_var (pv 2)) ax_nil)) ex_int))
  (bx_one (sx_set (i := 2) sc__law_digits.nd rfl (by first | exact Or.inl rfl | exact Or.inr rfl) (ex_op op_fdivW ln_fdiv (ex_of_var (pv 2)) ex_int)))))
  (bx_one (sx_ret (ex_rev (ex_of_var (pv 1)))))))
theorem sc__law_lines : FnScope ["some", "at", "worths", "digit"] ["some", "at"] (defScope (topS 44)) := ⟨rfl, rfl, rfl, by decide +kernel, rfl, by decide +kernel, by decide +kernel⟩
theorem ok__law_lines (T : Txt w K mg cl) (C__law_digits : CalF P w K mg base cl 1 "_law_digits" 1 m__law_digits) (C__law_image : CalF P w K mg base cl 1 "_law_image" 2 m__law_image) {f : Addr} {fd : FuncData} (F : FunD K "_law_lines" "_law_lines" (defArgs (topS 44)) (defBody (topS 44)) (defScope (topS 44)) [] [] f fd) :
    FnOk P w K mg base CX0 2 f fd ["some", "at"] (spV K cl 2 m__law_lines) :=
  okV (N := ["some", "at", "worths", "digit"]) (ps := ["some", "at"]) (k := 1) (fb := b__law_lines) F sc__law_lines (by decide) fun cdv A outer s H E hr =>
  (bx_cons (sx_set (i := 2) sc__law_lines.nd rfl (by first | exact Or.inl rfl | exact Or.inr rfl) (ex_callTy call_list_of ln_list rfl T.f_list bt_list (ax_cons (ex_ix ix_lt ln_ix (ex_of_var (pv 0)) ex_int (by intro _ _; rfl)) ax_nil)))
  (bx_cons (sx_for PassesOwn.never rfl (ix_seq' (ex_f C__law_digits hr (by decide) (fun _ _ h => runV_len h) rfl (ax_cons (ex_fz (ex_of_var (pv 1))) ax_nil))) (gx_name (i := 3) sc__law_lines.nd rfl (by first | exact Or.inl rfl | exact Or.inr rfl)) (bx_one (sx_set (i := 2) sc__law_lines.nd rfl (by first | exact Or.inl rfl | exact Or.inr rfl) (ex_f C__law_image hr (by decide) (fun _ _ h => runV_len h) rfl (ax_cons (ex_fz (ex_ix ix_lt ln_ix (ex_of_var (pv 0)) (ex_of_var (pv 3)) (by intro _ _; rfl))) (ax_cons (ex_fz (ex_of_var (pv 2))) ax_nil))))))
  (bx_one (sx_ret (ex_of_var (pv 2))))))
theorem sc__law_joint : FnScope ["rules", "at", "found", "some"] ["rules", "at"] (defScope (topS 50)) := ⟨rfl, rfl, rfl, by decide +kernel, rfl, by decide +kernel, by decide +kernel⟩
theorem ok__law_joint (T : Txt w K mg cl) (C__law_lines : CalF P w K mg base cl 2 "_law_lines" 2 m__law_lines) {f : Addr} {fd : FuncData} (F : FunD K "_law_joint" "_law_joint" (defArgs (topS 50)) (defBody (topS 50)) (defScope (topS 50)) [] [] f fd) :
    FnOk P w K mg base CX0 3 f fd ["rules", "at"] (spV K cl 2 m__law_joint) :=
  okV (N := ["rules", "at", "found", "some"]) (ps := ["rules", "at"]) (k := 2) (fb := b__law_joint) F sc__law_joint (by decide) fun cdv A outer s H E hr =>
  (bx_cons (sx_set (i := 2) sc__law_joint.nd rfl (by first | exact Or.inl rfl | exact Or.inr rfl) (ex_lst ax_nil))
  (bx_cons (sx_for PassesOwn.never rfl (ix_seq' (ex_of_var (pv 0))) (gx_name (i := 3) sc__law_joint.nd rfl (by first | exact Or.inl rfl | exact Or.inr rfl)) (bx_one (sx_set (i := 2) sc__law_joint.nd rfl (by first | exact Or.inl rfl | exact Or.inr rfl) (ex_op op_add3 ln_add (ex_of_var (pv 2)) (ex_f C__law_lines hr (by decide) (fun _ _ h => runV_len h) rfl (ax_cons (ex_fz (ex_of_var (pv 3))) (ax_cons (ex_fz (ex_of_var (pv 1))) ax_nil)))))))
  (bx_one (sx_ret (ex_of_var (pv 2))))))
theorem sc__law_divisor : FnScope ["one", "two", "great", "small"] ["one", "two"] (defScope (topS 51)) := ⟨rfl, rfl, rfl, by decide +kernel, rfl, by decide +kernel, by decide +kernel⟩
theorem ok__law_divisor (T : Txt w K mg cl)  {f : Addr} {fd : FuncData} (F : FunD K "_law_divisor" "_law_divisor" (defArgs (topS 51)) (defBody (topS 51)) (defScope (topS 51)) [] [] f fd) :
    FnOk P w K mg base CX0 1 f fd ["one", "two"] (spV K cl 2 m__law_divisor) :=
  okV (N := ["one", "two", "great", "small"]) (ps := ["one", "two"]) (k := 0) (fb := b__law_divisor) F sc__law_divisor (by decide) fun cdv A outer s H E hr =>
  (bx_cons (by first | exact (sx_parT (is := [2, 3]) rfl (as_cons (ex_callB call_abs ln_abs rfl T.f_abs bt_abs (ax_cons (ex_of_var (pv 0)) ax_nil)) (as_cons (ex_callB call_abs ln_abs rfl T.f_abs bt_abs (ax_cons (ex_of_var (pv 1)) ax_nil)) as_nil)) (pgs_cons (pg_name (i := 2) sc__law_divisor.nd rfl (by first | exact Or.inl rfl | exact Or.inr rfl)) (pgs_cons (pg_name (i := 3) sc__law_divisor.nd rfl (by first | exact Or.inl rfl | exact Or.inr rfl)) pgs_nil)) rfl (by decide)) | exact (sx_par2 (i := 2) (j := 3) rfl sc__law_divisor.nd rfl rfl (by decide) rfl rfl (as_cons (ex_callB call_abs ln_abs rfl T.f_abs bt_abs (ax_cons (ex_of_var (pv 0)) ax_nil)) (as_cons (ex_callB call_abs ln_abs rfl T.f_abs bt_abs (ax_cons (ex_of_var (pv 1)) ax_nil)) as_nil)) (by rfl)))
  (bx_cons (sx_while PassesOwn.never (tx_cmp op_gt ln_cmp (ex_of_var (pv 3)) ex_int (nomark _)) (bx_one (by first | exact (sx_parT (is := [2, 3]) rfl (as_cons (ex_of_var (pv 3)) (as_cons (ex_op op_mod ln_mod (ex_callTy call_int1 ln_int rfl T.f_int bt_int (ax_cons (ex_of_var (pv 2)) ax_nil)) (ex_of_var (pv 3))) as_nil)) (pgs_cons (pg_name (i := 2) sc__law_divisor.nd rfl (by first | exact Or.inl rfl | exact Or.inr rfl)) (pgs_cons (pg_name (i := 3) sc__law_divisor.nd rfl (by first | exact Or.inl rfl | exact Or.inr rfl)) pgs_nil)) rfl (by decide)) | exact (sx_par2 (i := 2) (j := 3) rfl sc__law_divisor.nd rfl rfl (by decide) rfl rfl (as_cons (ex_of_var (pv 3)) (as_cons (ex_op op_mod ln_mod (ex_callTy call_int1 ln_int rfl T.f_int bt_int (ax_cons (ex_of_var (pv 2)) ax_nil)) (ex_of_var (pv 3))) as_nil)) (by rfl)))))
  (bx_one (sx_ret (ex_of_var (pv 2))))))
theorem sc__law_thin : FnScope ["row", "common", "item"] ["row"] (defScope (topS 52)) := ⟨rfl, rfl, rfl, by decide +kernel, rfl, by decide +kernel, by decide +kernel⟩
theorem ok__law_thin (T : Txt w K mg cl) (C__law_divisor : CalF P w K mg base cl 1 "_law_divisor" 2 m__law_divisor) {f : Addr} {fd : FuncData} (F : FunD K "_law_thin" "_law_thin" (defArgs (topS 52)) (defBody (topS 52)) (defScope (topS 52)) [] [] f fd) :
    FnOk P w K mg base CX0 2 f fd ["row"] (spV K cl 1 m__law_thin) :=
  okV (N := ["row", "common", "item"]) (ps := ["row"]) (k := 1) (fb := b__law_thin) F sc__law_thin (by decide) fun cdv A outer s H E hr =>
  (bx_cons (sx_set (i := 1) sc__law_thin.nd rfl (by first | exact Or.inl rfl | exact Or.inr rfl) ex_int)
  (bx_cons (sx_for PassesOwn.never rfl (ix_seq' (ex_of_var (pv 0))) (gx_name (i := 2) sc__law_thin.nd rfl (by first | exact Or.inl rfl | exact Or.inr rfl)) (bx_one (sx_set (i := 1) sc__law_thin.nd rfl (by first | exact Or.inl rfl | exact Or.inr rfl) (ex_f C__law_divisor hr (by decide) (fun _ _ h => runV_len h) rfl (ax_cons (ex_fz (ex_of_var (pv 1))) (ax_cons (ex_fz (ex_of_var (pv 2))) ax_nil))))))
  (bx_one (sx_ret (ex_if (tx_cmp op_gt ln_cmp (ex_of_var (pv 1)) ex_int (nomark _)) (ex_comp rfl sc__law_thin.nd (ix_seq' (ex_of_var (pv 0))) (own := [(("item" : PySem.Str), 2)]) (blk_ok (by kernel_rfl)) (fun _ _ _ _ _ => (gx_name (i := 2) sc__law_thin.nd rfl (by first | exact Or.inl rfl | exact Or.inr rfl))) (fun _ _ _ _ _ => ptx_nil) (fun _ _ _ _ _ => (ex_op op_fdivW ln_fdiv (ex_of_var (pv 2)) (ex_of_var (pv 1)))) (by decide)) (ex_of_var (pv 0)))))))
theorem sc__law_cleared : FnScope ["row", "kept", "place", "other", "one", "two", "j"] ["row", "kept"] (defScope (topS 54)) := ⟨rfl, rfl, rfl, by decide +kernel, rfl, by decide +kernel, by decide +kernel⟩
theorem ok__law_cleared (T : Txt w K mg cl) (C__law_thin : CalF P w K mg base cl 2 "_law_thin" 1 m__law_thin) {f : Addr} {fd : FuncData} (F : FunD K "_law_cleared" "_law_cleared" (defArgs (topS 54)) (defBody (topS 54)) (defScope (topS 54)) [] [] f fd) :
    FnOk P w K mg base CX0 3 f fd ["row", "kept"] (spV K cl 2 m__law_cleared) :=
  okV (N := ["row", "kept", "place", "other", "one", "two", "j"]) (ps := ["row", "kept"]) (k := 2) (fb := b__law_cleared) F sc__law_cleared (by decide) fun cdv A outer s H E hr =>
  (bx_cons (sx_for PassesOwn.never rfl (ix_seq' (ex_of_var (pv 1))) (gx_tup rfl (gxs_cons (gx_name (i := 2) sc__law_cleared.nd rfl (by first | exact Or.inl rfl | exact Or.inr rfl)) (gxs_cons (gx_name (i := 3) sc__law_cleared.nd rfl (by first | exact Or.inl rfl | exact Or.inr rfl)) gxs_nil))) (bx_one (sx_if (tx_cmp (op_neD (hu64 hr)) ln_ne (ex_ix ix_lt ln_ix (ex_of_var (pv 0)) (ex_of_var (pv 2)) (by intro _ _; rfl)) ex_int (nomark _)) (bx_cons (by first | exact (sx_parT (is := [4, 5]) rfl (as_cons (ex_ix ix_lt ln_ix (ex_of_var (pv 3)) (ex_of_var (pv 2)) (by intro _ _; rfl)) (as_cons (ex_ix ix_lt ln_ix (ex_of_var (pv 0)) (ex_of_var (pv 2)) (by intro _ _; rfl)) as_nil)) (pgs_cons (pg_name (i := 4) sc__law_cleared.nd rfl (by first | exact Or.inl rfl | exact Or.inr rfl)) (pgs_cons (pg_name (i := 5) sc__law_cleared.nd rfl (by first | exact Or.inl rfl | exact Or.inr rfl)) pgs_nil)) rfl (by decide)) | exact (sx_par2 (i := 4) (j := 5) rfl sc__law_cleared.nd rfl rfl (by decide) rfl rfl (as_cons (ex_ix ix_lt ln_ix (ex_of_var (pv 3)) (ex_of_var (pv 2)) (by intro _ _; rfl)) (as_cons (ex_ix ix_lt ln_ix (ex_of_var (pv 0)) (ex_of_var (pv 2)) (by intro _ _; rfl)) as_nil)) (by rfl)))
  (bx_one (sx_set (i := 0) sc__law_cleared.nd rfl (by first | exact Or.inl rfl | exact Or.inr rfl) (ex_f C__law_thin hr (by decide) (fun _ _ h => runV_len h) rfl (ax_cons (ex_fz (ex_comp rfl sc__law_cleared.nd (ix_range1 rfl T.f_range (ax_cons (ex_callB call_len ln_len rfl T.f_len bt_len (ax_cons (ex_of_var (pv 0)) ax_nil)) ax_nil)) (own := [(("j" : PySem.Str), 6)]) (blk_ok (by kernel_rfl)) (fun _ _ _ _ _ => (gx_name (i := 6) sc__law_cleared.nd rfl (by first | exact Or.inl rfl | exact Or.inr rfl))) (fun _ _ _ _ _ => ptx_nil) (fun _ _ _ _ _ => (ex_op op_sub ln_sub (ex_op op_mul2 ln_mul (ex_of_var (pv 4)) (ex_ix ix_lt ln_ix (ex_of_var (pv 0)) (ex_of_var (pv 6)) (by intro _ _; rfl))) (ex_op op_mul2 ln_mul (ex_of_var (pv 5)) (ex_ix ix_lt ln_ix (ex_of_var (pv 3)) (ex_of_var (pv 6)) (by intro _ _; rfl))))) (by decide))) ax_nil))))) bx_nil)))
  (bx_one (sx_ret (ex_of_var (pv 0)))))
theorem sc__law_fraction : FnScope ["top", "bottom", "common"] ["top", "bottom"] (defScope (topS 53)) := ⟨rfl, rfl, rfl, by decide +kernel, rfl, by decide +kernel, by decide +kernel⟩
theorem ok__law_fraction (T : Txt w K mg cl) (C__law_divisor : CalF P w K mg base cl 1 "_law_divisor" 2 m__law_divisor) {f : Addr} {fd : FuncData} (F : FunD K "_law_fraction" "_law_fraction" (defArgs (topS 53)) (defBody (topS 53)) (defScope (topS 53)) [] [] f fd) :
    FnOk P w K mg base CX0 2 f fd ["top", "bottom"] (spV K cl 2 m__law_fraction) :=
  okV (N := ["top", "bottom", "common"]) (ps := ["top", "bottom"]) (k := 1) (fb := b__law_fraction) F sc__law_fraction (by decide) fun cdv A outer s H E hr =>
  (bx_cons (sx_set (i := 2) sc__law_fraction.nd rfl (by first | exact Or.inl rfl | exact Or.inr rfl) (ex_op op_mul2 ln_mul (ex_f C__law_divisor hr (by decide) (fun _ _ h => runV_len h) rfl (ax_cons (ex_fz (ex_of_var (pv 0))) (ax_cons (ex_fz (ex_of_var (pv 1))) ax_nil))) (ex_if (tx_cmp op_gt ln_cmp (ex_of_var (pv 1)) ex_int (nomark _)) ex_int (ex_un un_neg ln_neg ex_int))))
  (bx_one (sx_ret (ex_tup (ax_cons (ex_fz (ex_op op_fdivX ln_fdivN (ex_of_var (pv 0)) (ex_of_var (pv 2)))) (ax_cons (ex_fz (ex_op op_fdivX ln_fdivN (ex_of_var (pv 1)) (ex_of_var (pv 2)))) ax_nil))))))
theorem sc__law_factors : FnScope ["kept", "aim", "wide", "row", "j"] ["kept", "aim"] (defScope (topS 55)) := ⟨rfl, rfl, rfl, by decide +kernel, rfl, by decide +kernel, by decide +kernel⟩
theorem ok__law_factors (T : Txt w K mg cl) (C__law_cleared : CalF P w K mg base cl 3 "_law_cleared" 2 m__law_cleared) (C__law_fraction : CalF P w K mg base cl 2 "_law_fraction" 2 m__law_fraction) {f : Addr} {fd : FuncData} (F : FunD K "_law_factors" "_law_factors" (defArgs (topS 55)) (defBody (topS 55)) (defScope (topS 55)) [] [] f fd) :
    FnOk P w K mg base CX0 4 f fd ["kept", "aim"] (spV K cl 2 m__law_factors) :=
  okV (N := ["kept", "aim", "wide", "row", "j"]) (ps := ["kept", "aim"]) (k := 3) (fb := b__law_factors) F sc__law_factors (by decide) fun cdv A outer s H E hr =>
  (bx_cons (sx_set (i := 2) sc__law_factors.nd rfl (by first | exact Or.inl rfl | exact Or.inr rfl) (ex_callB call_len ln_len rfl T.f_len bt_len (ax_cons (ex_of_var (pv 1)) ax_nil)))
  (bx_cons (sx_set (i := 3) sc__law_factors.nd rfl (by first | exact Or.inl rfl | exact Or.inr rfl) (ex_f C__law_cleared hr (by decide) (fun _ _ h => runV_len h) rfl (ax_cons (ex_fz (ex_op op_add3 ln_add (ex_op op_add3 ln_add (ex_callTy call_list_of ln_list rfl T.f_list bt_list (ax_cons (ex_of_var (pv 1)) ax_nil)) (ex_op op_mul2 ln_mul (ex_lst (ax_cons (ex_fz ex_int) ax_nil)) (ex_of_var (pv 2)))) (ex_lst (ax_cons (ex_fz ex_int) ax_nil)))) (ax_cons (ex_fz (ex_of_var (pv 0))) ax_nil))))
  (bx_cons (sx_if (tx_cmp (op_neD (hu64 hr)) ln_ne (ex_slice (ex_of_var (pv 3)) px_none (px_some (ex_of_var (pv 2)))) (ex_op op_mul2 ln_mul (ex_lst (ax_cons (ex_fz ex_int) ax_nil)) (ex_of_var (pv 2))) (nomark _)) (bx_one (sx_ret ex_non)) bx_nil)
  (bx_one (sx_ret (ex_callTy call_tuple_of ln_tuple rfl T.f_tuple bt_tuple (ax_cons (ex_comp rfl sc__law_factors.nd (ix_range1 rfl T.f_range (ax_cons (ex_callB call_len ln_len rfl T.f_len bt_len (ax_cons (ex_of_var (pv 0)) ax_nil)) ax_nil)) (own := [(("j" : PySem.Str), 4)]) (blk_ok (by kernel_rfl)) (fun _ _ _ _ _ => (gx_name (i := 4) sc__law_factors.nd rfl (by first | exact Or.inl rfl | exact Or.inr rfl))) (fun _ _ _ _ _ => ptx_nil) (fun _ _ _ _ _ => (ex_f C__law_fraction hr (by decide) (fun _ _ h => runV_len h) rfl (ax_cons (ex_fz (ex_un un_neg ln_neg (ex_ix ix_lt ln_ix (ex_of_var (pv 3)) (ex_op op_add3 ln_add (ex_of_var (pv 2)) (ex_of_var (pv 4))) (by intro _ _; rfl)))) (ax_cons (ex_fz (ex_ix ix_lt ln_ix (ex_of_var (pv 3)) (ex_op op_mul2 ln_mul ex_int (ex_of_var (pv 2))) (by intro _ _; rfl))) ax_nil)))) (by decide)) ax_nil)))))))
end
end VL

set_option Elab.async false
set_option linter.all false
set_option maxRecDepth 100000
set_option maxHeartbeats 1000000
/-! the bodies bear their functions (printed by gen.py). -/
namespace VL
open PySem PySem.Spec PyProof.Rows L2
section
variable {P : Program} {w : World} {K : PySem.W.Frag} {mg : Str → Option Value} {base : Heap} {cl : Nat → Addr}
theorem sc__law_kept : FnScope ["kept", "worths", "wide", "row", "j", "heads"] ["kept", "worths"] (defScope (topS 56)) := ⟨rfl, rfl, rfl, by decide +kernel, rfl, by decide +kernel, by decide +kernel⟩
theorem ok__law_kept (T : Txt w K mg cl) (C__law_cleared : CalF P w K mg base cl 3 "_law_cleared" 2 m__law_cleared) {f : Addr} {fd : FuncData} (F : FunD K "_law_kept" "_law_kept" (defArgs (topS 56)) (defBody (topS 56)) (defScope (topS 56)) [] [] f fd) :
    FnOk P w K mg base CX0 4 f fd ["kept", "worths"] (spV K cl 2 m__law_kept) :=
  okV (N := ["kept", "worths", "wide", "row", "j", "heads"]) (ps := ["kept", "worths"]) (k := 3) (fb := b__law_kept) F sc__law_kept (by decide) fun cdv A outer s H E hr =>
  (bx_cons (sx_set (i := 2) sc__law_kept.nd rfl (by first | exact Or.inl rfl | exact Or.inr rfl) (ex_callB call_len ln_len rfl T.f_len bt_len (ax_cons (ex_of_var (pv 1)) ax_nil)))
  (bx_cons (sx_set (i := 3) sc__law_kept.nd rfl (by first | exact Or.inl rfl | exact Or.inr rfl) (ex_f C__law_cleared hr (by decide) (fun _ _ h => runV_len h) rfl (ax_cons (ex_fz (ex_op op_add3 ln_add (ex_callTy call_list_of ln_list rfl T.f_list bt_list (ax_cons (ex_of_var (pv 1)) ax_nil)) (ex_comp rfl sc__law_kept.nd (ix_range1 rfl T.f_range (ax_cons (ex_op op_add3 ln_add (ex_of_var (pv 2)) ex_int) ax_nil)) (own := [(("j" : PySem.Str), 4)]) (blk_ok (by kernel_rfl)) (fun _ _ _ _ _ => (gx_name (i := 4) sc__law_kept.nd rfl (by first | exact Or.inl rfl | exact Or.inr rfl))) (fun _ _ _ _ _ => ptx_nil) (fun _ _ _ _ _ => (ex_callTy call_int1 ln_int rfl T.f_int bt_int (ax_cons (ex_cmp (op_eqD (hu64 hr)) ln_eq (ex_of_var (pv 4)) (ex_callB call_len ln_len rfl T.f_len bt_len (ax_cons (ex_of_var (pv 0)) ax_nil)) (nomark _)) ax_nil))) (by decide)))) (ax_cons (ex_fz (ex_of_var (pv 0))) ax_nil))))
  (bx_cons (by first | exact (sx_set (i := 5) sc__law_kept.nd rfl (by first | exact Or.inl rfl | exact Or.inr rfl) (ex_comp rfl sc__law_kept.nd (ix_range1 rfl T.f_range (ax_cons (ex_of_var (pv 2)) ax_nil)) (own := [(("j" : PySem.Str), 4)]) (blk_ok (by kernel_rfl)) (fun _ _ _ _ _ => (gx_name (i := 4) sc__law_kept.nd rfl (by first | exact Or.inl rfl | exact Or.inr rfl))) (fun _ _ _ _ _ => (ptx_one (tx_cmp (op_neD (hu64 hr)) ln_ne (ex_ix ix_lt ln_ix (ex_of_var (pv 3)) (ex_of_var (pv 4)) (by intro _ _; rfl)) ex_int (nomark _)))) (fun _ _ _ _ _ => (ex_of_var (pv 4))) (by decide))) | exact (sx_comp (i := 5) rfl sc__law_kept.nd rfl rfl (by rfl) (ix_range1 rfl T.f_range (ax_cons (ex_of_var (pv 2)) ax_nil)) (own := [(("j" : PySem.Str), 4)]) (blk_ok (by kernel_rfl)) (fun _ _ _ _ _ => (gx_name (i := 4) sc__law_kept.nd rfl (by first | exact Or.inl rfl | exact Or.inr rfl))) (fun _ _ _ _ _ => (ptx_one (tx_cmp (op_neD (hu64 hr)) ln_ne (ex_ix ix_lt ln_ix (ex_of_var (pv 3)) (ex_of_var (pv 4)) (by intro _ _; rfl)) ex_int (nomark _)))) (fun _ _ _ _ _ => (ex_of_var (pv 4))) (by decide)))
  (bx_one (sx_ret (ex_op op_add3 ln_add (ex_of_var (pv 0)) (ex_lst (ax_cons (ex_fz (ex_tup (ax_cons (ex_fz (ex_ix ix_lt ln_ix (ex_of_var (pv 5)) ex_int (by intro _ _; rfl))) (ax_cons (ex_fz (ex_of_var (pv 3))) ax_nil)))) ax_nil))))))))
theorem sc__law_drawn_row : FnScope ["source", "rules", "numbers", "later", "limit", "way", "kept", "used", "at", "worths", "found", "menu"] ["source", "rules", "numbers", "later", "limit"] (defScope (topS 58)) := ⟨rfl, rfl, rfl, by decide +kernel, rfl, by decide +kernel, by decide +kernel⟩
theorem ok__law_drawn_row (T : Txt w K mg cl) (C__law_draw : CalI P w K mg base cl 1 "_law_draw" 2 m__law_draw) (C__law_joint : CalF P w K mg base cl 3 "_law_joint" 2 m__law_joint) (C__law_factors : CalF P w K mg base cl 4 "_law_factors" 2 m__law_factors) (C__law_kept : CalF P w K mg base cl 4 "_law_kept" 2 m__law_kept) {f : Addr} {fd : FuncData} (F : FunD K "_law_drawn_row" "_law_drawn_row" (defArgs (topS 58)) (defBody (topS 58)) (defScope (topS 58)) [] [] f fd) :
    FnOk P w K mg base CX0 5 f fd ["source", "rules", "numbers", "later", "limit"] (spI K cl 5 m__law_drawn_row) :=
  okI (N := ["source", "rules", "numbers", "later", "limit", "way", "kept", "used", "at", "worths", "found", "menu"]) (ps := ["source", "rules", "numbers", "later", "limit"]) (k := 4) (fb := b__law_drawn_row) F sc__law_drawn_row (by decide) fun cdv A outer s H E hr =>
  (bx_cons (sx_set (i := 5) sc__law_drawn_row.nd rfl (by first | exact Or.inl rfl | exact Or.inr rfl) (ex_i C__law_draw hr (by decide) (fun _ _ _ h => runI_len h) rfl (ax_cons (ex_of_var (pv 0)) (ax_cons (ex_fz ex_int) ax_nil))))
  (bx_cons (sx_if (tx_w (wx_or (tx_cmp (op_eqD (hu64 hr)) ln_eq (ex_of_var (pv 5)) ex_int (nomark _)) (wx_or1 (tx_w (wx_and (tx_cmp op_lt ln_cmp (ex_of_var (pv 5)) ex_int (nomark _)) (wx_and (tx_cmp op_notN ln_notN (ex_of_var (pv 4)) ex_non (nomark _)) (wx_and1 (tx_cmp op_ge ln_cmp (ex_of_var (pv 3)) (ex_of_var (pv 4)) (nomark _))))))))) (bx_one (sx_ret ex_non)) bx_nil)
  (bx_cons (by first | exact (sx_parT (is := [6, 7]) rfl (as_cons (ex_lst ax_nil) (as_cons (ex_lst ax_nil) as_nil)) (pgs_cons (pg_name (i := 6) sc__law_drawn_row.nd rfl (by first | exact Or.inl rfl | exact Or.inr rfl)) (pgs_cons (pg_name (i := 7) sc__law_drawn_row.nd rfl (by first | exact Or.inl rfl | exact Or.inr rfl)) pgs_nil)) rfl (by decide)) | exact (sx_par2 (i := 6) (j := 7) rfl sc__law_drawn_row.nd rfl rfl (by decide) rfl rfl (as_cons (ex_lst ax_nil) (as_cons (ex_lst ax_nil) as_nil)) (by rfl)))
  (bx_cons (sx_for PassesOwn.never rfl (ix_seq' (ex_of_var (pv 2))) (gx_name (i := 8) sc__law_drawn_row.nd rfl (by first | exact Or.inl rfl | exact Or.inr rfl)) (bx_cons (sx_set (i := 9) sc__law_drawn_row.nd rfl (by first | exact Or.inl rfl | exact Or.inr rfl) (ex_f C__law_joint hr (by decide) (fun _ _ h => runV_len h) rfl (ax_cons (ex_fz (ex_of_var (pv 1))) (ax_cons (ex_fz (ex_of_var (pv 8))) ax_nil))))
  (bx_one (sx_if (tx_w (wx_and (tx_w (wx_or (tx_cmp op_le ln_cmp (ex_of_var (pv 8)) (ex_of_var (pv 3)) (nomark _)) (wx_or1 (tx_cmp (op_eqD (hu64 hr)) ln_eq (ex_of_var (pv 5)) ex_int (nomark _))))) (wx_and1 (tx_cmp op_isN ln_isN (ex_f C__law_factors hr (by decide) (fun _ _ h => runV_len h) rfl (ax_cons (ex_fz (ex_of_var (pv 6))) (ax_cons (ex_fz (ex_of_var (pv 9))) ax_nil))) ex_non (nomark _))))) (bx_cons (sx_set (i := 6) sc__law_drawn_row.nd rfl (by first | exact Or.inl rfl | exact Or.inr rfl) (ex_f C__law_kept hr (by decide) (fun _ _ h => runV_len h) rfl (ax_cons (ex_fz (ex_of_var (pv 6))) (ax_cons (ex_fz (ex_of_var (pv 9))) ax_nil))))
  (bx_one (sx_app (pv 7) (ex_of_var (pv 8))))) bx_nil))))
  (bx_cons (sx_set (i := 10) sc__law_drawn_row.nd rfl (by first | exact Or.inl rfl | exact Or.inr rfl) (ex_f C__law_factors hr (by decide) (fun _ _ h => runV_len h) rfl (ax_cons (ex_fz (ex_of_var (pv 6))) (ax_cons (ex_fz (ex_f C__law_joint hr (by decide) (fun _ _ h => runV_len h) rfl (ax_cons (ex_fz (ex_of_var (pv 1))) (ax_cons (ex_fz (ex_of_var (pv 3))) ax_nil)))) ax_nil))))
  (bx_cons (sx_if (tx_w (wx_or (tx_cmp op_isN ln_isN (ex_of_var (pv 10)) ex_non (nomark _)) (wx_or1 (tx_cmp (op_eqD (hu64 hr)) ln_eq (ex_of_var (pv 5)) ex_int (nomark _))))) (bx_cons (sx_set (i := 11) sc__law_drawn_row.nd rfl (by first | exact Or.inl rfl | exact Or.inr rfl) (ex_lst (ax_cons (ex_fz (ex_tup (ax_cons (ex_fz ex_int) (ax_cons (ex_fz ex_int) ax_nil)))) (ax_cons (ex_fz (ex_tup (ax_cons (ex_fz ex_int) (ax_cons (ex_fz ex_int) ax_nil)))) (ax_cons (ex_fz (ex_tup (ax_cons (ex_fz (ex_un un_neg ln_neg ex_int)) (ax_cons (ex_fz ex_int) ax_nil)))) (ax_cons (ex_fz (ex_tup (ax_cons (ex_fz ex_int) (ax_cons (ex_fz ex_int) ax_nil)))) (ax_cons (ex_fz (ex_tup (ax_cons (ex_fz ex_int) (ax_cons (ex_fz ex_int) ax_nil)))) ax_nil)))))))
  (bx_one (sx_ret (ex_callTy call_tuple_of ln_tuple rfl T.f_tuple bt_tuple (ax_cons (ex_comp rfl sc__law_drawn_row.nd (ix_seq' (ex_of_var (pv 2))) (own := [(("at" : PySem.Str), 8)]) (blk_ok (by kernel_rfl)) (fun _ _ _ _ _ => (gx_name (i := 8) sc__law_drawn_row.nd rfl (by first | exact Or.inl rfl | exact Or.inr rfl))) (fun _ _ _ _ _ => ptx_nil) (fun _ _ _ _ _ => (ex_ix ix_lt ln_ix (ex_of_var (pv 11)) (ex_i C__law_draw hr (by decide) (fun _ _ _ h => runI_len h) rfl (ax_cons (ex_of_var (pv 0)) (ax_cons (ex_fz ex_int) ax_nil))) (by intro _ _; rfl))) (by decide)) ax_nil))))) bx_nil)
  (bx_one (sx_ret (ex_callTy call_tuple_of ln_tuple rfl T.f_tuple bt_tuple (ax_cons (ex_comp rfl sc__law_drawn_row.nd (ix_seq' (ex_of_var (pv 2))) (own := [(("at" : PySem.Str), 8)]) (blk_ok (by kernel_rfl)) (fun _ _ _ _ _ => (gx_name (i := 8) sc__law_drawn_row.nd rfl (by first | exact Or.inl rfl | exact Or.inr rfl))) (fun _ _ _ _ _ => ptx_nil) (fun _ _ _ _ _ => (ex_if (tx_cmp op_in_seq ln_in (ex_of_var (pv 8)) (ex_of_var (pv 7)) (by rfl)) (ex_ix ix_lt ln_ix (ex_of_var (pv 10)) (ex_index (ex_of_var (pv 7)) (ex_of_var (pv 8))) (by intro _ _; rfl)) (ex_tup (ax_cons (ex_fz ex_int) (ax_cons (ex_fz ex_int) ax_nil))))) (by decide)) ax_nil))))))))))
theorem sc__law_paper : FnScope ["source", "rules", "limit", "numbers", "at", "pairs", "rows", "digit"] ["source", "rules", "limit"] (defScope (topS 59)) := ⟨rfl, rfl, rfl, by decide +kernel, rfl, by decide +kernel, by decide +kernel⟩
theorem ok__law_paper (T : Txt w K mg cl) (C__law_draw : CalI P w K mg base cl 1 "_law_draw" 2 m__law_draw) (C__law_drawn_row : CalI P w K mg base cl 5 "_law_drawn_row" 5 m__law_drawn_row) {f : Addr} {fd : FuncData} (F : FunD K "_law_paper" "_law_paper" (defArgs (topS 59)) (defBody (topS 59)) (defScope (topS 59)) [] [] f fd) :
    FnOk P w K mg base CX0 6 f fd ["source", "rules", "limit"] (spI K cl 3 m__law_paper) :=
  okI (N := ["source", "rules", "limit", "numbers", "at", "pairs", "rows", "digit"]) (ps := ["source", "rules", "limit"]) (k := 5) (fb := b__law_paper) F sc__law_paper (by decide) fun cdv A outer s H E hr =>
  (bx_cons (by first | exact (sx_set (i := 3) sc__law_paper.nd rfl (by first | exact Or.inl rfl | exact Or.inr rfl) (ex_comp rfl sc__law_paper.nd (ix_range1 rfl T.f_range (ax_cons ex_int ax_nil)) (own := [(("at" : PySem.Str), 4)]) (blk_ok (by kernel_rfl)) (fun _ _ _ _ _ => (gx_name (i := 4) sc__law_paper.nd rfl (by first | exact Or.inl rfl | exact Or.inr rfl))) (fun _ _ _ _ _ => (ptx_one (tx_w (wx_or (tx_cmp op_lt ln_cmp (ex_i C__law_draw hr (by decide) (fun _ _ _ h => runI_len h) rfl (ax_cons (ex_of_var (pv 0)) (ax_cons (ex_fz ex_int) ax_nil))) ex_int (nomark _)) (wx_or1 (tx_w (wx_and (tx_cmp op_lt ln_cmp (ex_of_var (pv 4)) ex_int (nomark _)) (wx_and1 (tx_cmp op_gt ln_cmp (ex_i C__law_draw hr (by decide) (fun _ _ _ h => runI_len h) rfl (ax_cons (ex_of_var (pv 0)) (ax_cons (ex_fz ex_int) ax_nil))) ex_int (nomark _)))))))))) (fun _ _ _ _ _ => (ex_of_var (pv 4))) (by decide))) | exact (sx_comp (i := 3) rfl sc__law_paper.nd rfl rfl (by rfl) (ix_range1 rfl T.f_range (ax_cons ex_int ax_nil)) (own := [(("at" : PySem.Str), 4)]) (blk_ok (by kernel_rfl)) (fun _ _ _ _ _ => (gx_name (i := 4) sc__law_paper.nd rfl (by first | exact Or.inl rfl | exact Or.inr rfl))) (fun _ _ _ _ _ => (ptx_one (tx_w (wx_or (tx_cmp op_lt ln_cmp (ex_i C__law_draw hr (by decide) (fun _ _ _ h => runI_len h) rfl (ax_cons (ex_of_var (pv 0)) (ax_cons (ex_fz ex_int) ax_nil))) ex_int (nomark _)) (wx_or1 (tx_w (wx_and (tx_cmp op_lt ln_cmp (ex_of_var (pv 4)) ex_int (nomark _)) (wx_and1 (tx_cmp op_gt ln_cmp (ex_i C__law_draw hr (by decide) (fun _ _ _ h => runI_len h) rfl (ax_cons (ex_of_var (pv 0)) (ax_cons (ex_fz ex_int) ax_nil))) ex_int (nomark _)))))))))) (fun _ _ _ _ _ => (ex_of_var (pv 4))) (by decide)))
  (bx_cons (sx_if (tx_w (wx_and (tx_cmp op_notN ln_notN (ex_of_var (pv 2)) ex_non (nomark _)) (wx_and1 (tx_cmp op_gt ln_cmp (ex_i C__law_draw hr (by decide) (fun _ _ _ h => runI_len h) rfl (ax_cons (ex_of_var (pv 0)) (ax_cons (ex_fz ex_int) ax_nil))) ex_int (nomark _))))) (bx_one (by first | exact (sx_set (i := 3) sc__law_paper.nd rfl (by first | exact Or.inl rfl | exact Or.inr rfl) (ex_comp rfl sc__law_paper.nd (ix_seq' (ex_of_var (pv 3))) (own := [(("at" : PySem.Str), 4)]) (blk_ok (by kernel_rfl)) (fun _ _ _ _ _ => (gx_name (i := 4) sc__law_paper.nd rfl (by first | exact Or.inl rfl | exact Or.inr rfl))) (fun _ _ _ _ _ => (ptx_one (tx_cmp op_lt ln_cmp (ex_of_var (pv 4)) (ex_of_var (pv 2)) (nomark _)))) (fun _ _ _ _ _ => (ex_of_var (pv 4))) (by decide))) | exact (sx_comp (i := 3) rfl sc__law_paper.nd rfl rfl (by rfl) (ix_seq' (ex_of_var (pv 3))) (own := [(("at" : PySem.Str), 4)]) (blk_ok (by kernel_rfl)) (fun _ _ _ _ _ => (gx_name (i := 4) sc__law_paper.nd rfl (by first | exact Or.inl rfl | exact Or.inr rfl))) (fun _ _ _ _ _ => (ptx_one (tx_cmp op_lt ln_cmp (ex_of_var (pv 4)) (ex_of_var (pv 2)) (nomark _)))) (fun _ _ _ _ _ => (ex_of_var (pv 4))) (by decide)))) bx_nil)
  (bx_cons (sx_set (i := 5) sc__law_paper.nd rfl (by first | exact Or.inl rfl | exact Or.inr rfl) (ex_lst ax_nil))
  (bx_cons (sx_for PassesOwn.never rfl (ix_seq' (ex_of_var (pv 3))) (gx_name (i := 4) sc__law_paper.nd rfl (by first | exact Or.inl rfl | exact Or.inr rfl)) (bx_cons (by first | exact (sx_set (i := 6) sc__law_paper.nd rfl (by first | exact Or.inl rfl | exact Or.inr rfl) (ex_comp rfl sc__law_paper.nd (ix_range1 rfl T.f_range (ax_cons ex_int ax_nil)) (own := [(("digit" : PySem.Str), 7)]) (blk_ok (by kernel_rfl)) (fun _ _ _ _ _ => (gx_name (i := 7) sc__law_paper.nd rfl (by first | exact Or.inl rfl | exact Or.inr rfl))) (fun _ _ _ _ _ => ptx_nil) (fun _ _ _ _ _ => (ex_i C__law_drawn_row hr (by decide) (fun _ _ _ h => runI_len h) rfl (ax_cons (ex_of_var (pv 0)) (ax_cons (ex_fz (ex_of_var (pv 1))) (ax_cons (ex_fz (ex_of_var (pv 3))) (ax_cons (ex_fz (ex_op op_add3 ln_add (ex_op op_mul2 ln_mul ex_int (ex_of_var (pv 4))) (ex_of_var (pv 7)))) (ax_cons (ex_fz (ex_of_var (pv 2))) ax_nil))))))) (by decide))) | exact (sx_comp (i := 6) rfl sc__law_paper.nd rfl rfl (by rfl) (ix_range1 rfl T.f_range (ax_cons ex_int ax_nil)) (own := [(("digit" : PySem.Str), 7)]) (blk_ok (by kernel_rfl)) (fun _ _ _ _ _ => (gx_name (i := 7) sc__law_paper.nd rfl (by first | exact Or.inl rfl | exact Or.inr rfl))) (fun _ _ _ _ _ => ptx_nil) (fun _ _ _ _ _ => (ex_i C__law_drawn_row hr (by decide) (fun _ _ _ h => runI_len h) rfl (ax_cons (ex_of_var (pv 0)) (ax_cons (ex_fz (ex_of_var (pv 1))) (ax_cons (ex_fz (ex_of_var (pv 3))) (ax_cons (ex_fz (ex_op op_add3 ln_add (ex_op op_mul2 ln_mul ex_int (ex_of_var (pv 4))) (ex_of_var (pv 7)))) (ax_cons (ex_fz (ex_of_var (pv 2))) ax_nil))))))) (by decide)))
  (bx_one (sx_app (pv 5) (ex_callTy call_tuple_of ln_tuple rfl T.f_tuple bt_tuple (ax_cons (ex_of_var (pv 6)) ax_nil))))))
  (bx_one (sx_ret (ex_tup (ax_cons (ex_fz (ex_callTy call_tuple_of ln_tuple rfl T.f_tuple bt_tuple (ax_cons (ex_of_var (pv 3)) ax_nil))) (ax_cons (ex_fz (ex_callTy call_tuple_of ln_tuple rfl T.f_tuple bt_tuple (ax_cons (ex_of_var (pv 5)) ax_nil))) ax_nil)))))))))
theorem sc__law_plain : FnScope ["some", "sides", "item", "row", "side"] ["some"] (defScope (topS 49)) := ⟨rfl, rfl, rfl, by decide +kernel, rfl, by decide +kernel, by decide +kernel⟩
theorem ok__law_plain (T : Txt w K mg cl)  {f : Addr} {fd : FuncData} (F : FunD K "_law_plain" "_law_plain" (defArgs (topS 49)) (defBody (topS 49)) (defScope (topS 49)) [] [] f fd) :
    FnOk P w K mg base CX0 1 f fd ["some"] (spV K cl 1 m__law_plain) :=
  okV (N := ["some", "sides", "item", "row", "side"]) (ps := ["some"]) (k := 0) (fb := b__law_plain) F sc__law_plain (by decide) fun cdv A outer s H E hr =>
  (bx_cons (by first | exact (sx_set (i := 1) sc__law_plain.nd rfl (by first | exact Or.inl rfl | exact Or.inr rfl) (ex_comp rfl sc__law_plain.nd (ix_seq' (ex_slice (ex_of_var (pv 0)) px_none (px_some ex_int))) (own := [(("side" : PySem.Str), 4)]) (blk_ok (by kernel_rfl)) (fun _ _ _ _ _ => (gx_name (i := 4) sc__law_plain.nd rfl (by first | exact Or.inl rfl | exact Or.inr rfl))) (fun _ _ _ _ _ => ptx_nil) (fun _ _ _ _ _ => (ex_callTy call_tuple_of ln_tuple rfl T.f_tuple bt_tuple (ax_cons (ex_comp rfl sc__law_plain.nd (ix_seq' (ex_of_var (pv 4))) (own := [(("row" : PySem.Str), 3)]) (blk_ok (by kernel_rfl)) (fun _ _ _ _ _ => (gx_name (i := 3) sc__law_plain.nd rfl (by first | exact Or.inl rfl | exact Or.inr rfl))) (fun _ _ _ _ _ => ptx_nil) (fun _ _ _ _ _ => (ex_callTy call_tuple_of ln_tuple rfl T.f_tuple bt_tuple (ax_cons (ex_comp rfl sc__law_plain.nd (ix_seq' (ex_of_var (pv 3))) (own := [(("item" : PySem.Str), 2)]) (blk_ok (by kernel_rfl)) (fun _ _ _ _ _ => (gx_name (i := 2) sc__law_plain.nd rfl (by first | exact Or.inl rfl | exact Or.inr rfl))) (fun _ _ _ _ _ => ptx_nil) (fun _ _ _ _ _ => (ex_tup (ax_cons (ex_fz (ex_of_var (pv 2))) (ax_cons (ex_fz ex_int) ax_nil)))) (by decide)) ax_nil))) (by decide)) ax_nil))) (by decide))) | exact (sx_comp (i := 1) rfl sc__law_plain.nd rfl rfl (by rfl) (ix_seq' (ex_slice (ex_of_var (pv 0)) px_none (px_some ex_int))) (own := [(("side" : PySem.Str), 4)]) (blk_ok (by kernel_rfl)) (fun _ _ _ _ _ => (gx_name (i := 4) sc__law_plain.nd rfl (by first | exact Or.inl rfl | exact Or.inr rfl))) (fun _ _ _ _ _ => ptx_nil) (fun _ _ _ _ _ => (ex_callTy call_tuple_of ln_tuple rfl T.f_tuple bt_tuple (ax_cons (ex_comp rfl sc__law_plain.nd (ix_seq' (ex_of_var (pv 4))) (own := [(("row" : PySem.Str), 3)]) (blk_ok (by kernel_rfl)) (fun _ _ _ _ _ => (gx_name (i := 3) sc__law_plain.nd rfl (by first | exact Or.inl rfl | exact Or.inr rfl))) (fun _ _ _ _ _ => ptx_nil) (fun _ _ _ _ _ => (ex_callTy call_tuple_of ln_tuple rfl T.f_tuple bt_tuple (ax_cons (ex_comp rfl sc__law_plain.nd (ix_seq' (ex_of_var (pv 3))) (own := [(("item" : PySem.Str), 2)]) (blk_ok (by kernel_rfl)) (fun _ _ _ _ _ => (gx_name (i := 2) sc__law_plain.nd rfl (by first | exact Or.inl rfl | exact Or.inr rfl))) (fun _ _ _ _ _ => ptx_nil) (fun _ _ _ _ _ => (ex_tup (ax_cons (ex_fz (ex_of_var (pv 2))) (ax_cons (ex_fz ex_int) ax_nil)))) (by decide)) ax_nil))) (by decide)) ax_nil))) (by decide)))
  (bx_one (sx_ret (ex_tup (ax_cons (ex_fz (ex_ix ix_lt ln_ix (ex_of_var (pv 1)) ex_int (by intro _ _; rfl))) (ax_cons (ex_fz (ex_ix ix_lt ln_ix (ex_of_var (pv 1)) ex_int (by intro _ _; rfl))) (ax_cons (ex_fz (ex_ix ix_lt ln_ix (ex_of_var (pv 0)) ex_int (by intro _ _; rfl))) (ax_cons (ex_fz (ex_callTy call_tuple_of ln_tuple rfl T.f_tuple bt_tuple (ax_cons (ex_comp rfl sc__law_plain.nd (ix_seq' (ex_ix ix_lt ln_ix (ex_of_var (pv 0)) ex_int (by intro _ _; rfl))) (own := [(("item" : PySem.Str), 2)]) (blk_ok (by kernel_rfl)) (fun _ _ _ _ _ => (gx_name (i := 2) sc__law_plain.nd rfl (by first | exact Or.inl rfl | exact Or.inr rfl))) (fun _ _ _ _ _ => ptx_nil) (fun _ _ _ _ _ => (ex_tup (ax_cons (ex_fz (ex_of_var (pv 2))) (ax_cons (ex_fz ex_int) ax_nil)))) (by decide)) ax_nil))) ax_nil))))))))
theorem sc__law_makes : FnScope ["row", "points", "aim", "bottom", "top", "under", "tops", "place", "j"] ["row", "points", "aim"] (defScope (topS 60)) := ⟨rfl, rfl, rfl, by decide +kernel, rfl, by decide +kernel, by decide +kernel⟩
theorem ok__law_makes (T : Txt w K mg cl)  {f : Addr} {fd : FuncData} (F : FunD K "_law_makes" "_law_makes" (defArgs (topS 60)) (defBody (topS 60)) (defScope (topS 60)) [] [] f fd) :
    FnOk P w K mg base CX0 1 f fd ["row", "points", "aim"] (spV K cl 3 m__law_makes) :=
  okV (N := ["row", "points", "aim", "bottom", "top", "under", "tops", "place", "j"]) (ps := ["row", "points", "aim"]) (k := 0) (fb := b__law_makes) F sc__law_makes (by decide) fun cdv A outer s H E hr =>
  (bx_cons (sx_set (i := 3) sc__law_makes.nd rfl (by first | exact Or.inl rfl | exact Or.inr rfl) ex_int)
  (bx_cons (sx_for PassesOwn.never rfl (ix_seq' (ex_of_var (pv 0))) (gx_tup rfl (gxs_cons (gx_name (i := 4) sc__law_makes.nd rfl (by first | exact Or.inl rfl | exact Or.inr rfl)) (gxs_cons (gx_name (i := 5) sc__law_makes.nd rfl (by first | exact Or.inl rfl | exact Or.inr rfl)) gxs_nil))) (bx_one (sx_set (i := 3) sc__law_makes.nd rfl (by first | exact Or.inl rfl | exact Or.inr rfl) (ex_op op_mul2 ln_mul (ex_of_var (pv 3)) (ex_of_var (pv 5))))))
  (bx_cons (by first | exact (sx_set (i := 6) sc__law_makes.nd rfl (by first | exact Or.inl rfl | exact Or.inr rfl) (ex_comp rfl sc__law_makes.nd (ix_seq' (ex_of_var (pv 0))) (own := [(("top" : PySem.Str), 4), (("under" : PySem.Str), 5)]) (blk_ok (by kernel_rfl)) (fun _ _ _ _ _ => (gx_tup rfl (gxs_cons (gx_name (i := 4) sc__law_makes.nd rfl (by first | exact Or.inl rfl | exact Or.inr rfl)) (gxs_cons (gx_name (i := 5) sc__law_makes.nd rfl (by first | exact Or.inl rfl | exact Or.inr rfl)) gxs_nil)))) (fun _ _ _ _ _ => ptx_nil) (fun _ _ _ _ _ => (ex_op op_mul2 ln_mul (ex_of_var (pv 4)) (ex_op op_fdivW ln_fdiv (ex_of_var (pv 3)) (ex_of_var (pv 5))))) (by decide))) | exact (sx_comp (i := 6) rfl sc__law_makes.nd rfl rfl (by rfl) (ix_seq' (ex_of_var (pv 0))) (own := [(("top" : PySem.Str), 4), (("under" : PySem.Str), 5)]) (blk_ok (by kernel_rfl)) (fun _ _ _ _ _ => (gx_tup rfl (gxs_cons (gx_name (i := 4) sc__law_makes.nd rfl (by first | exact Or.inl rfl | exact Or.inr rfl)) (gxs_cons (gx_name (i := 5) sc__law_makes.nd rfl (by first | exact Or.inl rfl | exact Or.inr rfl)) gxs_nil)))) (fun _ _ _ _ _ => ptx_nil) (fun _ _ _ _ _ => (ex_op op_mul2 ln_mul (ex_of_var (pv 4)) (ex_op op_fdivW ln_fdiv (ex_of_var (pv 3)) (ex_of_var (pv 5))))) (by decide)))
  (bx_cons (sx_for PassesOwn.never rfl (ix_range1 rfl T.f_range (ax_cons (ex_callB call_len ln_len rfl T.f_len bt_len (ax_cons (ex_of_var (pv 2)) ax_nil)) ax_nil)) (gx_name (i := 7) sc__law_makes.nd rfl (by first | exact Or.inl rfl | exact Or.inr rfl)) (bx_one (sx_if (tx_cmp (op_neD (hu64 hr)) ln_ne (ex_callB (cr_sum rfl) ln_sum rfl T.f_sum bt_sum (ax_cons (ex_comp rfl sc__law_makes.nd (ix_range1 rfl T.f_range (ax_cons (ex_callB call_len ln_len rfl T.f_len bt_len (ax_cons (ex_of_var (pv 0)) ax_nil)) ax_nil)) (own := [(("j" : PySem.Str), 8)]) (blk_ok (by kernel_rfl)) (fun _ _ _ _ _ => (gx_name (i := 8) sc__law_makes.nd rfl (by first | exact Or.inl rfl | exact Or.inr rfl))) (fun _ _ _ _ _ => ptx_nil) (fun _ _ _ _ _ => (ex_op op_mul2 ln_mul (ex_ix ix_lt ln_ix (ex_of_var (pv 6)) (ex_of_var (pv 8)) (by intro _ _; rfl)) (ex_ix ix_lt ln_ix (ex_ix ix_lt ln_ix (ex_of_var (pv 1)) (ex_of_var (pv 8)) (by intro _ _; rfl)) (ex_of_var (pv 7)) (by intro _ _; rfl)))) (by decide)) ax_nil)) (ex_op op_mul2 ln_mul (ex_of_var (pv 3)) (ex_ix ix_lt ln_ix (ex_of_var (pv 2)) (ex_of_var (pv 7)) (by intro _ _; rfl))) (nomark _)) (bx_one (sx_ret ex_bl)) bx_nil)))
  (bx_one (sx_ret ex_bl))))))
theorem sc__law_is_span : FnScope ["rules", "paper", "limit", "numbers", "pairs", "points", "at", "spot", "digit", "later", "row", "j"] ["rules", "paper", "limit"] (defScope (topS 61)) := ⟨rfl, rfl, rfl, by decide +kernel, rfl, by decide +kernel, by decide +kernel⟩
theorem ok__law_is_span (T : Txt w K mg cl) (C__law_joint : CalF P w K mg base cl 3 "_law_joint" 2 m__law_joint) (C__law_makes : CalF P w K mg base cl 1 "_law_makes" 3 m__law_makes) {f : Addr} {fd : FuncData} (F : FunD K "_law_is_span" "_law_is_span" (defArgs (topS 61)) (defBody (topS 61)) (defScope (topS 61)) [] [] f fd) :
    FnOk P w K mg base CX0 4 f fd ["rules", "paper", "limit"] (spV K cl 3 m__law_is_span) :=
  okV (N := ["rules", "paper", "limit", "numbers", "pairs", "points", "at", "spot", "digit", "later", "row", "j"]) (ps := ["rules", "paper", "limit"]) (k := 3) (fb := b__law_is_span) F sc__law_is_span (by decide) fun cdv A outer s H E hr =>
  (bx_cons (sx_asg (ex_of_var (pv 1)) (gx_tup rfl (gxs_cons (gx_name (i := 3) sc__law_is_span.nd rfl (by first | exact Or.inl rfl | exact Or.inr rfl)) (gxs_cons (gx_name (i := 4) sc__law_is_span.nd rfl (by first | exact Or.inl rfl | exact Or.inr rfl)) gxs_nil))))
  (bx_cons (by first | exact (sx_set (i := 5) sc__law_is_span.nd rfl (by first | exact Or.inl rfl | exact Or.inr rfl) (ex_comp rfl sc__law_is_span.nd (ix_seq' (ex_of_var (pv 3))) (own := [(("at" : PySem.Str), 6)]) (blk_ok (by kernel_rfl)) (fun _ _ _ _ _ => (gx_name (i := 6) sc__law_is_span.nd rfl (by first | exact Or.inl rfl | exact Or.inr rfl))) (fun _ _ _ _ _ => ptx_nil) (fun _ _ _ _ _ => (ex_f C__law_joint hr (by decide) (fun _ _ h => runV_len h) rfl (ax_cons (ex_fz (ex_of_var (pv 0))) (ax_cons (ex_fz (ex_of_var (pv 6))) ax_nil)))) (by decide))) | exact (sx_comp (i := 5) rfl sc__law_is_span.nd rfl rfl (by rfl) (ix_seq' (ex_of_var (pv 3))) (own := [(("at" : PySem.Str), 6)]) (blk_ok (by kernel_rfl)) (fun _ _ _ _ _ => (gx_name (i := 6) sc__law_is_span.nd rfl (by first | exact Or.inl rfl | exact Or.inr rfl))) (fun _ _ _ _ _ => ptx_nil) (fun _ _ _ _ _ => (ex_f C__law_joint hr (by decide) (fun _ _ h => runV_len h) rfl (ax_cons (ex_fz (ex_of_var (pv 0))) (ax_cons (ex_fz (ex_of_var (pv 6))) ax_nil)))) (by decide)))
  (bx_cons (sx_for PassesOwn.never rfl (ix_range1 rfl T.f_range (ax_cons (ex_callB call_len ln_len rfl T.f_len bt_len (ax_cons (ex_of_var (pv 3)) ax_nil)) ax_nil)) (gx_name (i := 7) sc__law_is_span.nd rfl (by first | exact Or.inl rfl | exact Or.inr rfl)) (bx_one (sx_for PassesOwn.never rfl (ix_range1 rfl T.f_range (ax_cons ex_int ax_nil)) (gx_name (i := 8) sc__law_is_span.nd rfl (by first | exact Or.inl rfl | exact Or.inr rfl)) (bx_cons (by first | exact (sx_parT (is := [9, 10]) rfl (as_cons (ex_op op_add3 ln_add (ex_op op_mul2 ln_mul ex_int (ex_ix ix_lt ln_ix (ex_of_var (pv 3)) (ex_of_var (pv 7)) (by intro _ _; rfl))) (ex_of_var (pv 8))) (as_cons (ex_ix ix_lt ln_ix (ex_ix ix_lt ln_ix (ex_of_var (pv 4)) (ex_of_var (pv 7)) (by intro _ _; rfl)) (ex_of_var (pv 8)) (by intro _ _; rfl)) as_nil)) (pgs_cons (pg_name (i := 9) sc__law_is_span.nd rfl (by first | exact Or.inl rfl | exact Or.inr rfl)) (pgs_cons (pg_name (i := 10) sc__law_is_span.nd rfl (by first | exact Or.inl rfl | exact Or.inr rfl)) pgs_nil)) rfl (by decide)) | exact (sx_par2 (i := 9) (j := 10) rfl sc__law_is_span.nd rfl rfl (by decide) rfl rfl (as_cons (ex_op op_add3 ln_add (ex_op op_mul2 ln_mul ex_int (ex_ix ix_lt ln_ix (ex_of_var (pv 3)) (ex_of_var (pv 7)) (by intro _ _; rfl))) (ex_of_var (pv 8))) (as_cons (ex_ix ix_lt ln_ix (ex_ix ix_lt ln_ix (ex_of_var (pv 4)) (ex_of_var (pv 7)) (by intro _ _; rfl)) (ex_of_var (pv 8)) (by intro _ _; rfl)) as_nil)) (by rfl)))
  (bx_one (sx_if (tx_cmp op_isN ln_isN (ex_of_var (pv 10)) ex_non (nomark _)) (bx_one (sx_if (tx_w (wx_or (tx_cmp op_isN ln_isN (ex_of_var (pv 2)) ex_non (nomark _)) (wx_or1 (tx_cmp op_lt ln_cmp (ex_of_var (pv 9)) (ex_of_var (pv 2)) (nomark _))))) (bx_one (sx_ret ex_bl)) bx_nil)) (bx_one (sx_if (tx_not (tx_val (ex_f C__law_makes hr (by decide) (fun _ _ h => runV_len h) rfl (ax_cons (ex_fz (ex_of_var (pv 10))) (ax_cons (ex_fz (ex_of_var (pv 5))) (ax_cons (ex_fz (ex_f C__law_joint hr (by decide) (fun _ _ h => runV_len h) rfl (ax_cons (ex_fz (ex_of_var (pv 0))) (ax_cons (ex_fz (ex_of_var (pv 9))) ax_nil)))) ax_nil)))))) (bx_one (sx_ret ex_bl)) (bx_one (sx_if (tx_cmp (op_neD (hu64 hr)) ln_ne (ex_comp rfl sc__law_is_span.nd (ix_range1 rfl T.f_range (ax_cons (ex_callB call_len ln_len rfl T.f_len bt_len (ax_cons (ex_of_var (pv 10)) ax_nil)) ax_nil)) (own := [(("j" : PySem.Str), 11)]) (blk_ok (by kernel_rfl)) (fun _ _ _ _ _ => (gx_name (i := 11) sc__law_is_span.nd rfl (by first | exact Or.inl rfl | exact Or.inr rfl))) (fun _ _ _ _ _ => (ptx_one (tx_w (wx_and (tx_cmp op_gt ln_cmp (ex_ix ix_lt ln_ix (ex_of_var (pv 3)) (ex_of_var (pv 11)) (by intro _ _; rfl)) (ex_of_var (pv 9)) (nomark _)) (wx_and1 (tx_cmp (op_neD (hu64 hr)) ln_ne (ex_ix ix_lt ln_ix (ex_ix ix_lt ln_ix (ex_of_var (pv 10)) (ex_of_var (pv 11)) (by intro _ _; rfl)) ex_int (by intro _ _; rfl)) ex_int (nomark _))))))) (fun _ _ _ _ _ => (ex_of_var (pv 11))) (by decide)) (ex_lst ax_nil) (nomark _)) (bx_one (sx_ret ex_bl)) bx_nil))))))))))
  (bx_one (sx_ret (ex_or (ex_cmp op_in_seq ln_in ex_int (ex_of_var (pv 3)) (by rfl)) (ex_or (ex_cmp (op_eqD (hu64 hr)) ln_eq (ex_of_var (pv 2)) ex_int (nomark _)) (ex_one (ex_cmp (op_eqD (hu64 hr)) ln_eq (ex_f C__law_joint hr (by decide) (fun _ _ h => runV_len h) rfl (ax_cons (ex_fz (ex_of_var (pv 0))) (ax_cons (ex_fz ex_int) ax_nil))) (ex_op op_mul2 ln_mul (ex_lst (ax_cons (ex_fz ex_int) ax_nil)) (ex_callB call_len ln_len rfl T.f_len bt_len (ax_cons (ex_f C__law_joint hr (by decide) (fun _ _ h => runV_len h) rfl (ax_cons (ex_fz (ex_of_var (pv 0))) (ax_cons (ex_fz ex_int) ax_nil))) ax_nil))) (nomark _))))))))))
theorem sc__law_at : FnScope ["some", "at"] ["some", "at"] (defScope (topS 45)) := ⟨rfl, rfl, rfl, by decide +kernel, rfl, by decide +kernel, by decide +kernel⟩
theorem ok__law_at (T : Txt w K mg cl) (C__law_image : CalF P w K mg base cl 1 "_law_image" 2 m__law_image) (C__law_lines : CalF P w K mg base cl 2 "_law_lines" 2 m__law_lines) {f : Addr} {fd : FuncData} (F : FunD K "_law_at" "_law_at" (defArgs (topS 45)) (defBody (topS 45)) (defScope (topS 45)) [] [] f fd) :
    FnOk P w K mg base CX0 3 f fd ["some", "at"] (spV K cl 2 m__law_at) :=
  okV (N := ["some", "at"]) (ps := ["some", "at"]) (k := 2) (fb := b__law_at) F sc__law_at (by decide) fun cdv A outer s H E hr =>
  (bx_one (sx_ret (ex_ix ix_lt ln_ix (ex_f C__law_image hr (by decide) (fun _ _ h => runV_len h) rfl (ax_cons (ex_fz (ex_lst (ax_cons (ex_fz (ex_ix ix_lt ln_ix (ex_of_var (pv 0)) ex_int (by intro _ _; rfl))) ax_nil))) (ax_cons (ex_fz (ex_f C__law_lines hr (by decide) (fun _ _ h => runV_len h) rfl (ax_cons (ex_fz (ex_of_var (pv 0))) (ax_cons (ex_fz (ex_of_var (pv 1))) ax_nil)))) ax_nil))) ex_int (by intro _ _; rfl))))
theorem sc__law_sums : FnScope ["rules", "by", "spots", "at"] ["rules", "by", "spots"] (defScope (topS 62)) := ⟨rfl, rfl, rfl, by decide +kernel, rfl, by decide +kernel, by decide +kernel⟩
theorem ok__law_sums (T : Txt w K mg cl) (C__law_at : CalF P w K mg base cl 3 "_law_at" 2 m__law_at) {f : Addr} {fd : FuncData} (F : FunD K "_law_sums" "_law_sums" (defArgs (topS 62)) (defBody (topS 62)) (defScope (topS 62)) [] [] f fd) :
    FnOk P w K mg base CX0 4 f fd ["rules", "by", "spots"] (spV K cl 3 m__law_sums) :=
  okV (N := ["rules", "by", "spots", "at"]) (ps := ["rules", "by", "spots"]) (k := 3) (fb := b__law_sums) F sc__law_sums (by decide) fun cdv A outer s H E hr =>
  (bx_one (sx_ret (ex_comp rfl sc__law_sums.nd (ix_seq' (ex_of_var (pv 2))) (own := [(("at" : PySem.Str), 3)]) (blk_ok (by kernel_rfl)) (fun _ _ _ _ _ => (gx_name (i := 3) sc__law_sums.nd rfl (by first | exact Or.inl rfl | exact Or.inr rfl))) (fun _ _ _ _ _ => ptx_nil) (fun _ _ _ _ _ => (ex_op op_add3 ln_add (ex_op op_mul2 ln_mul (ex_ix ix_lt ln_ix (ex_of_var (pv 1)) ex_int (by intro _ _; rfl)) (ex_f C__law_at hr (by decide) (fun _ _ h => runV_len h) rfl (ax_cons (ex_fz (ex_ix ix_lt ln_ix (ex_of_var (pv 0)) ex_int (by intro _ _; rfl))) (ax_cons (ex_fz (ex_of_var (pv 3))) ax_nil)))) (ex_op op_mul2 ln_mul (ex_ix ix_lt ln_ix (ex_of_var (pv 1)) ex_int (by intro _ _; rfl)) (ex_f C__law_at hr (by decide) (fun _ _ h => runV_len h) rfl (ax_cons (ex_fz (ex_ix ix_lt ln_ix (ex_of_var (pv 0)) ex_int (by intro _ _; rfl))) (ax_cons (ex_fz (ex_of_var (pv 3))) ax_nil)))))) (by decide))))
end
end VL

set_option Elab.async false
set_option linter.all false
set_option maxRecDepth 100000
set_option maxHeartbeats 1000000
/-! the bodies bear their functions (printed by gen.py). -/
namespace VL
open PySem PySem.Spec PyProof.Rows L2
section
variable {P : Program} {w : World} {K : PySem.W.Frag} {mg : Str → Option Value} {base : Heap} {cl : Nat → Addr}
theorem sc_is_integer : FnScope ["value"] ["value"] (defScope (topS 2)) := ⟨rfl, rfl, rfl, by decide +kernel, rfl, by decide +kernel, by decide +kernel⟩
theorem ok_is_integer (T : Txt w K mg cl)  {f : Addr} {fd : FuncData} (F : FunD K "is_integer" "is_integer" (defArgs (topS 2)) (defBody (topS 2)) (defScope (topS 2)) [] [] f fd) :
    FnOk P w K mg base CX0 1 f fd ["value"] (spV K cl 1 m_is_integer) :=
  okV (N := ["value"]) (ps := ["value"]) (k := 0) (fb := b_is_integer) F sc_is_integer (by decide) fun cdv A outer s H E hr =>
  (bx_one (sx_ret (ex_and (ex_callB call_isi ln_isi rfl T.f_isinstance bt_isinstance (ax_cons (ex_of_var (pv 0)) (ax_cons (ex_tyname rfl T.f_int bt_int) ax_nil))) (ex_one (ex_not (ex_callB call_isi ln_isi rfl T.f_isinstance bt_isinstance (ax_cons (ex_of_var (pv 0)) (ax_cons (ex_tyname rfl T.f_bool bt_bool) ax_nil))))))))
theorem sc_are_integers : FnScope ["value", "many", "item"] ["value", "many"] (defScope (topS 3)) := ⟨rfl, rfl, rfl, by decide +kernel, rfl, by decide +kernel, by decide +kernel⟩
theorem ok_are_integers (T : Txt w K mg cl) (C_is_integer : CalF P w K mg base cl 1 "is_integer" 1 m_is_integer) {f : Addr} {fd : FuncData} (F : FunD K "are_integers" "are_integers" (defArgs (topS 3)) (defBody (topS 3)) (defScope (topS 3)) [] [] f fd) :
    FnOk P w K mg base CX0 2 f fd ["value", "many"] (spV K cl 2 m_are_integers) :=
  okV (N := ["value", "many", "item"]) (ps := ["value", "many"]) (k := 1) (fb := b_are_integers) F sc_are_integers (by decide) fun cdv A outer s H E hr =>
  (bx_one (sx_ret (ex_and (ex_callB call_isi ln_isi rfl T.f_isinstance bt_isinstance (ax_cons (ex_of_var (pv 0)) (ax_cons (ex_tyname rfl T.f_tuple bt_tuple) ax_nil))) (ex_and (ex_cmp (op_eqD (hu64 hr)) ln_eq (ex_callB call_len ln_len rfl T.f_len bt_len (ax_cons (ex_of_var (pv 0)) ax_nil)) (ex_of_var (pv 1)) (nomark _)) (ex_one (ex_callB (cr_all rfl) ln_all rfl T.f_all bt_all (ax_cons (ex_comp rfl sc_are_integers.nd (ix_seq' (ex_of_var (pv 0))) (own := [(("item" : PySem.Str), 2)]) (blk_ok (by kernel_rfl)) (fun _ _ _ _ _ => (gx_name (i := 2) sc_are_integers.nd rfl (by first | exact Or.inl rfl | exact Or.inr rfl))) (fun _ _ _ _ _ => ptx_nil) (fun _ _ _ _ _ => (ex_f C_is_integer hr (by decide) (fun _ _ h => runV_len h) rfl (ax_cons (ex_fz (ex_of_var (pv 2))) ax_nil))) (by decide)) ax_nil)))))))
theorem sc_divisor_of : FnScope ["one", "other", "high", "low"] ["one", "other"] (defScope (topS 4)) := ⟨rfl, rfl, rfl, by decide +kernel, rfl, by decide +kernel, by decide +kernel⟩
theorem ok_divisor_of (T : Txt w K mg cl)  {f : Addr} {fd : FuncData} (F : FunD K "divisor_of" "divisor_of" (defArgs (topS 4)) (defBody (topS 4)) (defScope (topS 4)) [] [] f fd) :
    FnOk P w K mg base CX0 1 f fd ["one", "other"] (spV K cl 2 m_divisor_of) :=
  okV (N := ["one", "other", "high", "low"]) (ps := ["one", "other"]) (k := 0) (fb := b_divisor_of) F sc_divisor_of (by decide) fun cdv A outer s H E hr =>
  (bx_cons (by first | exact (sx_parT (is := [2, 3]) rfl (as_cons (ex_callB call_abs ln_abs rfl T.f_abs bt_abs (ax_cons (ex_of_var (pv 0)) ax_nil)) (as_cons (ex_callB call_abs ln_abs rfl T.f_abs bt_abs (ax_cons (ex_of_var (pv 1)) ax_nil)) as_nil)) (pgs_cons (pg_name (i := 2) sc_divisor_of.nd rfl (by first | exact Or.inl rfl | exact Or.inr rfl)) (pgs_cons (pg_name (i := 3) sc_divisor_of.nd rfl (by first | exact Or.inl rfl | exact Or.inr rfl)) pgs_nil)) rfl (by decide)) | exact (sx_par2 (i := 2) (j := 3) rfl sc_divisor_of.nd rfl rfl (by decide) rfl rfl (as_cons (ex_callB call_abs ln_abs rfl T.f_abs bt_abs (ax_cons (ex_of_var (pv 0)) ax_nil)) (as_cons (ex_callB call_abs ln_abs rfl T.f_abs bt_abs (ax_cons (ex_of_var (pv 1)) ax_nil)) as_nil)) (by rfl)))
  (bx_cons (sx_while PassesOwn.never (tx_cmp op_gt ln_cmp (ex_of_var (pv 3)) ex_int (nomark _)) (bx_one (by first | exact (sx_parT (is := [2, 3]) rfl (as_cons (ex_of_var (pv 3)) (as_cons (ex_op op_mod ln_mod (ex_of_var (pv 2)) (ex_of_var (pv 3))) as_nil)) (pgs_cons (pg_name (i := 2) sc_divisor_of.nd rfl (by first | exact Or.inl rfl | exact Or.inr rfl)) (pgs_cons (pg_name (i := 3) sc_divisor_of.nd rfl (by first | exact Or.inl rfl | exact Or.inr rfl)) pgs_nil)) rfl (by decide)) | exact (sx_par2 (i := 2) (j := 3) rfl sc_divisor_of.nd rfl rfl (by decide) rfl rfl (as_cons (ex_of_var (pv 3)) (as_cons (ex_op op_mod ln_mod (ex_of_var (pv 2)) (ex_of_var (pv 3))) as_nil)) (by rfl)))))
  (bx_one (sx_ret (ex_of_var (pv 2))))))
theorem sc_is_fraction : FnScope ["value"] ["value"] (defScope (topS 5)) := ⟨rfl, rfl, rfl, by decide +kernel, rfl, by decide +kernel, by decide +kernel⟩
theorem ok_is_fraction (T : Txt w K mg cl) (C_are_integers : CalF P w K mg base cl 2 "are_integers" 2 m_are_integers) (C_divisor_of : CalF P w K mg base cl 1 "divisor_of" 2 m_divisor_of) {f : Addr} {fd : FuncData} (F : FunD K "is_fraction" "is_fraction" (defArgs (topS 5)) (defBody (topS 5)) (defScope (topS 5)) [] [] f fd) :
    FnOk P w K mg base CX0 3 f fd ["value"] (spV K cl 1 m_is_fraction) :=
  okV (N := ["value"]) (ps := ["value"]) (k := 2) (fb := b_is_fraction) F sc_is_fraction (by decide) fun cdv A outer s H E hr =>
  (bx_one (sx_ret (ex_and (ex_f C_are_integers hr (by decide) (fun _ _ h => runV_len h) rfl (ax_cons (ex_fz (ex_of_var (pv 0))) (ax_cons (ex_fz ex_int) ax_nil))) (ex_and (ex_cmp op_gt ln_cmp (ex_ix ix_lt ln_ix (ex_of_var (pv 0)) ex_int (by intro _ _; rfl)) ex_int (nomark _)) (ex_one (ex_cmp (op_eqD (hu64 hr)) ln_eq (ex_f C_divisor_of hr (by decide) (fun _ _ h => runV_len h) rfl (ax_cons (ex_fz (ex_ix ix_lt ln_ix (ex_of_var (pv 0)) ex_int (by intro _ _; rfl))) (ax_cons (ex_fz (ex_ix ix_lt ln_ix (ex_of_var (pv 0)) ex_int (by intro _ _; rfl))) ax_nil))) ex_int (nomark _)))))))
theorem sc_are_fractions : FnScope ["value", "many", "item"] ["value", "many"] (defScope (topS 6)) := ⟨rfl, rfl, rfl, by decide +kernel, rfl, by decide +kernel, by decide +kernel⟩
theorem ok_are_fractions (T : Txt w K mg cl) (C_is_fraction : CalF P w K mg base cl 3 "is_fraction" 1 m_is_fraction) {f : Addr} {fd : FuncData} (F : FunD K "are_fractions" "are_fractions" (defArgs (topS 6)) (defBody (topS 6)) (defScope (topS 6)) [] [] f fd) :
    FnOk P w K mg base CX0 4 f fd ["value", "many"] (spV K cl 2 m_are_fractions) :=
  okV (N := ["value", "many", "item"]) (ps := ["value", "many"]) (k := 3) (fb := b_are_fractions) F sc_are_fractions (by decide) fun cdv A outer s H E hr =>
  (bx_one (sx_ret (ex_and (ex_callB call_isi ln_isi rfl T.f_isinstance bt_isinstance (ax_cons (ex_of_var (pv 0)) (ax_cons (ex_tyname rfl T.f_tuple bt_tuple) ax_nil))) (ex_and (ex_cmp (op_eqD (hu64 hr)) ln_eq (ex_callB call_len ln_len rfl T.f_len bt_len (ax_cons (ex_of_var (pv 0)) ax_nil)) (ex_of_var (pv 1)) (nomark _)) (ex_one (ex_callB (cr_all rfl) ln_all rfl T.f_all bt_all (ax_cons (ex_comp rfl sc_are_fractions.nd (ix_seq' (ex_of_var (pv 0))) (own := [(("item" : PySem.Str), 2)]) (blk_ok (by kernel_rfl)) (fun _ _ _ _ _ => (gx_name (i := 2) sc_are_fractions.nd rfl (by first | exact Or.inl rfl | exact Or.inr rfl))) (fun _ _ _ _ _ => ptx_nil) (fun _ _ _ _ _ => (ex_f C_is_fraction hr (by decide) (fun _ _ h => runV_len h) rfl (ax_cons (ex_fz (ex_of_var (pv 2))) ax_nil))) (by decide)) ax_nil)))))))
theorem sc_common_bottom : FnScope ["fractions", "found", "top", "bottom"] ["fractions"] (defScope (topS 7)) := ⟨rfl, rfl, rfl, by decide +kernel, rfl, by decide +kernel, by decide +kernel⟩
theorem ok_common_bottom (T : Txt w K mg cl) (C_divisor_of : CalF P w K mg base cl 1 "divisor_of" 2 m_divisor_of) {f : Addr} {fd : FuncData} (F : FunD K "common_bottom" "common_bottom" (defArgs (topS 7)) (defBody (topS 7)) (defScope (topS 7)) [] [] f fd) :
    FnOk P w K mg base CX0 2 f fd ["fractions"] (spV K cl 1 m_common_bottom) :=
  okV (N := ["fractions", "found", "top", "bottom"]) (ps := ["fractions"]) (k := 1) (fb := b_common_bottom) F sc_common_bottom (by decide) fun cdv A outer s H E hr =>
  (bx_cons (sx_set (i := 1) sc_common_bottom.nd rfl (by first | exact Or.inl rfl | exact Or.inr rfl) ex_int)
  (bx_cons (sx_for PassesOwn.never rfl (ix_seq' (ex_of_var (pv 0))) (gx_tup rfl (gxs_cons (gx_name (i := 2) sc_common_bottom.nd rfl (by first | exact Or.inl rfl | exact Or.inr rfl)) (gxs_cons (gx_name (i := 3) sc_common_bottom.nd rfl (by first | exact Or.inl rfl | exact Or.inr rfl)) gxs_nil))) (bx_one (sx_set (i := 1) sc_common_bottom.nd rfl (by first | exact Or.inl rfl | exact Or.inr rfl) (ex_op op_mul2 ln_mul (ex_op op_fdivW ln_fdiv (ex_of_var (pv 1)) (ex_f C_divisor_of hr (by decide) (fun _ _ h => runV_len h) rfl (ax_cons (ex_fz (ex_of_var (pv 1))) (ax_cons (ex_fz (ex_of_var (pv 3))) ax_nil)))) (ex_of_var (pv 3))))))
  (bx_one (sx_ret (ex_of_var (pv 1))))))
theorem sc_times_bottom : FnScope ["fractions", "bottom", "top", "under"] ["fractions", "bottom"] (defScope (topS 8)) := ⟨rfl, rfl, rfl, by decide +kernel, rfl, by decide +kernel, by decide +kernel⟩
theorem ok_times_bottom (T : Txt w K mg cl)  {f : Addr} {fd : FuncData} (F : FunD K "times_bottom" "times_bottom" (defArgs (topS 8)) (defBody (topS 8)) (defScope (topS 8)) [] [] f fd) :
    FnOk P w K mg base CX0 1 f fd ["fractions", "bottom"] (spV K cl 2 m_times_bottom) :=
  okV (N := ["fractions", "bottom", "top", "under"]) (ps := ["fractions", "bottom"]) (k := 0) (fb := b_times_bottom) F sc_times_bottom (by decide) fun cdv A outer s H E hr =>
  (bx_one (sx_ret (ex_comp rfl sc_times_bottom.nd (ix_seq' (ex_of_var (pv 0))) (own := [(("top" : PySem.Str), 2), (("under" : PySem.Str), 3)]) (blk_ok (by kernel_rfl)) (fun _ _ _ _ _ => (gx_tup rfl (gxs_cons (gx_name (i := 2) sc_times_bottom.nd rfl (by first | exact Or.inl rfl | exact Or.inr rfl)) (gxs_cons (gx_name (i := 3) sc_times_bottom.nd rfl (by first | exact Or.inl rfl | exact Or.inr rfl)) gxs_nil)))) (fun _ _ _ _ _ => ptx_nil) (fun _ _ _ _ _ => (ex_op op_mul2 ln_mul (ex_of_var (pv 2)) (ex_op op_fdivW ln_fdiv (ex_of_var (pv 1)) (ex_of_var (pv 3))))) (by decide))))
theorem sc_Plain_init : FnScope ["self", "rule", "even", "odd", "firsts", "told", "row", "item", "side", "bottom"] ["self", "rule"] (defScope (inClass (topS 10) 0)) := ⟨rfl, rfl, rfl, by decide +kernel, rfl, by decide +kernel, by decide +kernel⟩
theorem ok_Plain_init (T : Txt w K mg cl) (C_common_bottom : CalF P w K mg base cl 2 "common_bottom" 1 m_common_bottom) (C_times_bottom : CalF P w K mg base cl 1 "times_bottom" 2 m_times_bottom) {f : Addr} {fd : FuncData} (F : FunD K "__init__" "Plain.__init__" (defArgs (inClass (topS 10) 0)) (defBody (inClass (topS 10) 0)) (defScope (inClass (topS 10) 0)) [] [] f fd) :
    FnOk P w K mg base CX0 3 f fd ["self", "rule"] (spI K cl 2 m_Plain_init) :=
  okI (N := ["self", "rule", "even", "odd", "firsts", "told", "row", "item", "side", "bottom"]) (ps := ["self", "rule"]) (k := 2) (fb := b_Plain_init) F sc_Plain_init (by decide) fun cdv A outer s H E hr =>
  (bx_cons (sx_asg (ex_of_var (pv 1)) (gx_tup rfl (gxs_cons (gx_name (i := 2) sc_Plain_init.nd rfl (by first | exact Or.inl rfl | exact Or.inr rfl)) (gxs_cons (gx_name (i := 3) sc_Plain_init.nd rfl (by first | exact Or.inl rfl | exact Or.inr rfl)) (gxs_cons (gx_name (i := 4) sc_Plain_init.nd rfl (by first | exact Or.inl rfl | exact Or.inr rfl)) (gxs_cons (gx_name (i := 5) sc_Plain_init.nd rfl (by first | exact Or.inl rfl | exact Or.inr rfl)) gxs_nil))))))
  (bx_cons (sx_fld (i := 0) T.cls T.na_bottoms (pv 0) (ex_comp rfl sc_Plain_init.nd (ix_seq' (ex_tup (ax_cons (ex_fz (ex_of_var (pv 2))) (ax_cons (ex_fz (ex_of_var (pv 3))) ax_nil)))) (own := [(("side" : PySem.Str), 8)]) (blk_ok (by kernel_rfl)) (fun _ _ _ _ _ => (gx_name (i := 8) sc_Plain_init.nd rfl (by first | exact Or.inl rfl | exact Or.inr rfl))) (fun _ _ _ _ _ => ptx_nil) (fun _ _ _ _ _ => (ex_f C_common_bottom hr (by decide) (fun _ _ h => runV_len h) rfl (ax_cons (ex_fz (ex_comp2 rfl sc_Plain_init.nd (ix_seq' (ex_of_var (pv 8))) (own := [(("row" : PySem.Str), 6), (("item" : PySem.Str), 7)]) (vs1 := [7]) (blk_ok (by kernel_rfl)) (by decide) (fun _ _ _ _ _ => (gx_name (i := 6) sc_Plain_init.nd rfl (by first | exact Or.inl rfl | exact Or.inr rfl))) (fun _ _ _ _ _ => ptx_nil) (fun _ _ _ _ _ => (ix_seq' (ex_of_var (pv 6)))) (fun _ _ _ _ _ => (gx_name (i := 7) sc_Plain_init.nd rfl (by first | exact Or.inl rfl | exact Or.inr rfl))) (fun _ _ _ _ _ => ptx_nil) (fun _ _ _ _ _ => (ex_of_var (pv 7))) (by decide) (by decide))) ax_nil))) (by decide)))
  (bx_fld T.cls T.na_sides (pv 0) (pv 0) PassesOwn.never rfl (ix_zip rfl T.f_zip (ex_tup (ax_cons (ex_fz (ex_of_var (pv 2))) (ax_cons (ex_fz (ex_of_var (pv 3))) ax_nil))) (ex_fld T.cls T.na_bottoms (ex_of_var (pv 0)))) (gx_tup rfl (gxs_cons (gx_name (i := 8) sc_Plain_init.nd rfl (by first | exact Or.inl rfl | exact Or.inr rfl)) (gxs_cons (gx_name (i := 9) sc_Plain_init.nd rfl (by first | exact Or.inl rfl | exact Or.inr rfl)) gxs_nil))) (ex_comp rfl sc_Plain_init.nd (ix_seq' (ex_of_var (pv 8))) (own := [(("row" : PySem.Str), 6)]) (blk_ok (by kernel_rfl)) (fun _ _ _ _ _ => (gx_name (i := 6) sc_Plain_init.nd rfl (by first | exact Or.inl rfl | exact Or.inr rfl))) (fun _ _ _ _ _ => ptx_nil) (fun _ _ _ _ _ => (ex_f C_times_bottom hr (by decide) (fun _ _ h => runV_len h) rfl (ax_cons (ex_fz (ex_of_var (pv 6))) (ax_cons (ex_fz (ex_of_var (pv 9))) ax_nil)))) (by decide))
  (bx_cons (sx_fld (i := 0) T.cls T.na_starts (pv 0) (ex_callTy call_list_of ln_list rfl T.f_list bt_list (ax_cons (ex_of_var (pv 4)) ax_nil)))
  (bx_cons (sx_fld (i := 0) T.cls T.na_under (pv 0) (ex_f C_common_bottom hr (by decide) (fun _ _ h => runV_len h) rfl (ax_cons (ex_fz (ex_of_var (pv 5))) ax_nil)))
  (bx_one (sx_fld (i := 0) T.cls T.na_row (pv 0) (ex_f C_times_bottom hr (by decide) (fun _ _ h => runV_len h) rfl (ax_cons (ex_fz (ex_of_var (pv 5))) (ax_cons (ex_fz (ex_fld T.cls T.na_under (ex_of_var (pv 0)))) ax_nil))))))))))
end
end VL

set_option Elab.async false
set_option linter.all false
set_option maxRecDepth 100000
set_option maxHeartbeats 1000000
/-! the bodies bear their functions (printed by gen.py). -/
namespace VL
open PySem PySem.Spec PyProof.Rows L2
section
variable {P : Program} {w : World} {K : PySem.W.Frag} {mg : Str → Option Value} {base : Heap} {cl : Nat → Addr}
theorem sc_lowest : FnScope ["values", "bottom", "common", "value"] ["values", "bottom"] (defScope (topS 11)) := ⟨rfl, rfl, rfl, by decide +kernel, rfl, by decide +kernel, by decide +kernel⟩
theorem ok_lowest (T : Txt w K mg cl) (C_divisor_of : CalF P w K mg base cl 1 "divisor_of" 2 m_divisor_of) {f : Addr} {fd : FuncData} (F : FunD K "lowest" "lowest" (defArgs (topS 11)) (defBody (topS 11)) (defScope (topS 11)) [] [] f fd) :
    FnOk P w K mg base CX0 2 f fd ["values", "bottom"] (spV K cl 2 m_lowest) :=
  okV (N := ["values", "bottom", "common", "value"]) (ps := ["values", "bottom"]) (k := 1) (fb := b_lowest) F sc_lowest (by decide) fun cdv A outer s H E hr =>
  (bx_cons (sx_set (i := 2) sc_lowest.nd rfl (by first | exact Or.inl rfl | exact Or.inr rfl) (ex_of_var (pv 1)))
  (bx_cons (sx_for PassesOwn.never rfl (ix_seq' (ex_of_var (pv 0))) (gx_name (i := 3) sc_lowest.nd rfl (by first | exact Or.inl rfl | exact Or.inr rfl)) (bx_one (sx_set (i := 2) sc_lowest.nd rfl (by first | exact Or.inl rfl | exact Or.inr rfl) (ex_f C_divisor_of hr (by decide) (fun _ _ h => runV_len h) rfl (ax_cons (ex_fz (ex_of_var (pv 2))) (ax_cons (ex_fz (ex_of_var (pv 3))) ax_nil))))))
  (bx_one (sx_ret (ex_tup (ax_cons (ex_fz (ex_comp rfl sc_lowest.nd (ix_seq' (ex_of_var (pv 0))) (own := [(("value" : PySem.Str), 3)]) (blk_ok (by kernel_rfl)) (fun _ _ _ _ _ => (gx_name (i := 3) sc_lowest.nd rfl (by first | exact Or.inl rfl | exact Or.inr rfl))) (fun _ _ _ _ _ => ptx_nil) (fun _ _ _ _ _ => (ex_op op_fdivW ln_fdiv (ex_of_var (pv 3)) (ex_of_var (pv 2)))) (by decide))) (ax_cons (ex_fz (ex_op op_fdivW ln_fdiv (ex_of_var (pv 1)) (ex_of_var (pv 2)))) ax_nil)))))))
theorem sc_sum_by : FnScope ["row", "values", "factor", "value"] ["row", "values"] (defScope (topS 9)) := ⟨rfl, rfl, rfl, by decide +kernel, rfl, by decide +kernel, by decide +kernel⟩
theorem ok_sum_by (T : Txt w K mg cl)  {f : Addr} {fd : FuncData} (F : FunD K "sum_by" "sum_by" (defArgs (topS 9)) (defBody (topS 9)) (defScope (topS 9)) [] [] f fd) :
    FnOk P w K mg base CX0 1 f fd ["row", "values"] (spV K cl 2 m_sum_by) :=
  okV (N := ["row", "values", "factor", "value"]) (ps := ["row", "values"]) (k := 0) (fb := b_sum_by) F sc_sum_by (by decide) fun cdv A outer s H E hr =>
  (bx_one (sx_ret (ex_callB (cr_sum rfl) ln_sum rfl T.f_sum bt_sum (ax_cons (ex_comp rfl sc_sum_by.nd (ix_zip rfl T.f_zip (ex_of_var (pv 0)) (ex_of_var (pv 1))) (own := [(("factor" : PySem.Str), 2), (("value" : PySem.Str), 3)]) (blk_ok (by kernel_rfl)) (fun _ _ _ _ _ => (gx_tup rfl (gxs_cons (gx_name (i := 2) sc_sum_by.nd rfl (by first | exact Or.inl rfl | exact Or.inr rfl)) (gxs_cons (gx_name (i := 3) sc_sum_by.nd rfl (by first | exact Or.inl rfl | exact Or.inr rfl)) gxs_nil)))) (fun _ _ _ _ _ => ptx_nil) (fun _ _ _ _ _ => (ex_op op_mul2 ln_mul (ex_of_var (pv 2)) (ex_of_var (pv 3)))) (by decide)) ax_nil))))
theorem sc_Plain_later : FnScope ["self", "point", "digit", "values", "bottom", "row"] ["self", "point", "digit"] (defScope (inClass (topS 10) 2)) := ⟨rfl, rfl, rfl, by decide +kernel, rfl, by decide +kernel, by decide +kernel⟩
theorem ok_Plain_later (T : Txt w K mg cl) (C_lowest : CalF P w K mg base cl 2 "lowest" 2 m_lowest) (C_sum_by : CalF P w K mg base cl 1 "sum_by" 2 m_sum_by) {f : Addr} {fd : FuncData} (F : FunD K "later" "Plain.later" (defArgs (inClass (topS 10) 2)) (defBody (inClass (topS 10) 2)) (defScope (inClass (topS 10) 2)) [] [] f fd) :
    FnOk P w K mg base CX0 3 f fd ["self", "point", "digit"] (spV K cl 3 m_Plain_later) :=
  okV (N := ["self", "point", "digit", "values", "bottom", "row"]) (ps := ["self", "point", "digit"]) (k := 2) (fb := b_Plain_later) F sc_Plain_later (by decide) fun cdv A outer s H E hr =>
  (bx_cons (sx_asg (ex_of_var (pv 1)) (gx_tup rfl (gxs_cons (gx_name (i := 3) sc_Plain_later.nd rfl (by first | exact Or.inl rfl | exact Or.inr rfl)) (gxs_cons (gx_name (i := 4) sc_Plain_later.nd rfl (by first | exact Or.inl rfl | exact Or.inr rfl)) gxs_nil))))
  (bx_one (sx_ret (ex_f C_lowest hr (by decide) (fun _ _ h => runV_len h) rfl (ax_cons (ex_fz (ex_comp rfl sc_Plain_later.nd (ix_seq' (ex_ix ix_lt ln_ix (ex_fld T.cls T.na_sides (ex_of_var (pv 0))) (ex_of_var (pv 2)) (by intro _ _; rfl))) (own := [(("row" : PySem.Str), 5)]) (blk_ok (by kernel_rfl)) (fun _ _ _ _ _ => (gx_name (i := 5) sc_Plain_later.nd rfl (by first | exact Or.inl rfl | exact Or.inr rfl))) (fun _ _ _ _ _ => ptx_nil) (fun _ _ _ _ _ => (ex_f C_sum_by hr (by decide) (fun _ _ h => runV_len h) rfl (ax_cons (ex_fz (ex_of_var (pv 5))) (ax_cons (ex_fz (ex_of_var (pv 3))) ax_nil)))) (by decide))) (ax_cons (ex_fz (ex_op op_mul2 ln_mul (ex_of_var (pv 4)) (ex_ix ix_lt ln_ix (ex_fld T.cls T.na_bottoms (ex_of_var (pv 0))) (ex_of_var (pv 2)) (by intro _ _; rfl)))) ax_nil))))))
theorem sc_Plain_fits : FnScope ["self"] ["self"] (defScope (inClass (topS 10) 1)) := ⟨rfl, rfl, rfl, by decide +kernel, rfl, by decide +kernel, by decide +kernel⟩
theorem ok_Plain_fits (T : Txt w K mg cl) (C_Plain_later : CalM P w K mg base cl 3 0 "later" 3 m_Plain_later) (C_lowest : CalF P w K mg base cl 2 "lowest" 2 m_lowest) {f : Addr} {fd : FuncData} (F : FunD K "fits" "Plain.fits" (defArgs (inClass (topS 10) 1)) (defBody (inClass (topS 10) 1)) (defScope (inClass (topS 10) 1)) [] [] f fd) :
    FnOk P w K mg base CX0 4 f fd ["self"] (spV K cl 1 m_Plain_fits) :=
  okV (N := ["self"]) (ps := ["self"]) (k := 3) (fb := b_Plain_fits) F sc_Plain_fits (by decide) fun cdv A outer s H E hr =>
  (bx_one (sx_ret (ex_cmp (op_eqD (hu64 hr)) ln_eq (ex_m C_Plain_later hr (by decide) (fun _ _ h => runV_len h) (ex_of_var (pv 0)) (ax_cons (ex_fz (ex_tup (ax_cons (ex_fz (ex_fld T.cls T.na_starts (ex_of_var (pv 0)))) (ax_cons (ex_fz ex_int) ax_nil)))) (ax_cons (ex_fz ex_int) ax_nil))) (ex_f C_lowest hr (by decide) (fun _ _ h => runV_len h) rfl (ax_cons (ex_fz (ex_fld T.cls T.na_starts (ex_of_var (pv 0)))) (ax_cons (ex_fz ex_int) ax_nil))) (nomark _))))
theorem sc_plain_in : FnScope ["value", "even", "odd", "firsts", "told", "many", "side", "row", "plain"] ["value"] (defScope (topS 12)) := ⟨rfl, rfl, rfl, by decide +kernel, rfl, by decide +kernel, by decide +kernel⟩
theorem ok_plain_in (T : Txt w K mg cl) (C_are_integers : CalF P w K mg base cl 2 "are_integers" 2 m_are_integers) (C_are_fractions : CalF P w K mg base cl 4 "are_fractions" 2 m_are_fractions) (C_Plain_init : CalC P w K mg base cl 3 0 "Plain" 2 m_Plain_init) (C_Plain_fits : CalM P w K mg base cl 4 0 "fits" 1 m_Plain_fits) {f : Addr} {fd : FuncData} (F : FunD K "plain_in" "plain_in" (defArgs (topS 12)) (defBody (topS 12)) (defScope (topS 12)) [] [] f fd) :
    FnOk P w K mg base CX0 5 f fd ["value"] (spV K cl 1 m_plain_in) :=
  okV (N := ["value", "even", "odd", "firsts", "told", "many", "side", "row", "plain"]) (ps := ["value"]) (k := 4) (fb := b_plain_in) F sc_plain_in (by decide) fun cdv A outer s H E hr =>
  (bx_cons (sx_if (tx_w (wx_or (tx_not (tx_val (ex_callB call_isi ln_isi rfl T.f_isinstance bt_isinstance (ax_cons (ex_of_var (pv 0)) (ax_cons (ex_tyname rfl T.f_tuple bt_tuple) ax_nil))))) (wx_or1 (tx_cmp (op_neD (hu64 hr)) ln_ne (ex_callB call_len ln_len rfl T.f_len bt_len (ax_cons (ex_of_var (pv 0)) ax_nil)) ex_int (nomark _))))) (bx_one (sx_ret ex_non)) bx_nil)
  (bx_cons (sx_asg (ex_of_var (pv 0)) (gx_tup rfl (gxs_cons (gx_name (i := 1) sc_plain_in.nd rfl (by first | exact Or.inl rfl | exact Or.inr rfl)) (gxs_cons (gx_name (i := 2) sc_plain_in.nd rfl (by first | exact Or.inl rfl | exact Or.inr rfl)) (gxs_cons (gx_name (i := 3) sc_plain_in.nd rfl (by first | exact Or.inl rfl | exact Or.inr rfl)) (gxs_cons (gx_name (i := 4) sc_plain_in.nd rfl (by first | exact Or.inl rfl | exact Or.inr rfl)) gxs_nil))))))
  (bx_cons (sx_if (tx_w (wx_or (tx_not (tx_val (ex_callB call_isi ln_isi rfl T.f_isinstance bt_isinstance (ax_cons (ex_of_var (pv 3)) (ax_cons (ex_tyname rfl T.f_tuple bt_tuple) ax_nil))))) (wx_or1 (tx_cmp op_gt ln_cmp (ex_callB call_len ln_len rfl T.f_len bt_len (ax_cons (ex_of_var (pv 3)) ax_nil)) (ex_globI T.g_MOST_LINES rfl) (nomark _))))) (bx_one (sx_ret ex_non)) bx_nil)
  (bx_cons (sx_set (i := 5) sc_plain_in.nd rfl (by first | exact Or.inl rfl | exact Or.inr rfl) (ex_callB call_len ln_len rfl T.f_len bt_len (ax_cons (ex_of_var (pv 3)) ax_nil)))
  (bx_cons (sx_if (tx_w (wx_or (tx_not (tx_val (ex_f C_are_integers hr (by decide) (fun _ _ h => runV_len h) rfl (ax_cons (ex_fz (ex_of_var (pv 3))) (ax_cons (ex_fz (ex_of_var (pv 5))) ax_nil))))) (wx_or1 (tx_not (tx_val (ex_f C_are_fractions hr (by decide) (fun _ _ h => runV_len h) rfl (ax_cons (ex_fz (ex_of_var (pv 4))) (ax_cons (ex_fz (ex_of_var (pv 5))) ax_nil)))))))) (bx_one (sx_ret ex_non)) bx_nil)
  (bx_cons (sx_for PassesOwn.never rfl (ix_seq' (ex_tup (ax_cons (ex_fz (ex_of_var (pv 1))) (ax_cons (ex_fz (ex_of_var (pv 2))) ax_nil)))) (gx_name (i := 6) sc_plain_in.nd rfl (by first | exact Or.inl rfl | exact Or.inr rfl)) (bx_one (sx_if (tx_w (wx_or (tx_not (tx_val (ex_callB call_isi ln_isi rfl T.f_isinstance bt_isinstance (ax_cons (ex_of_var (pv 6)) (ax_cons (ex_tyname rfl T.f_tuple bt_tuple) ax_nil))))) (wx_or (tx_cmp (op_neD (hu64 hr)) ln_ne (ex_callB call_len ln_len rfl T.f_len bt_len (ax_cons (ex_of_var (pv 6)) ax_nil)) (ex_of_var (pv 5)) (nomark _)) (wx_or1 (tx_not (tx_val (ex_callB (cr_all rfl) ln_all rfl T.f_all bt_all (ax_cons (ex_comp rfl sc_plain_in.nd (ix_seq' (ex_of_var (pv 6))) (own := [(("row" : PySem.Str), 7)]) (blk_ok (by kernel_rfl)) (fun _ _ _ _ _ => (gx_name (i := 7) sc_plain_in.nd rfl (by first | exact Or.inl rfl | exact Or.inr rfl))) (fun _ _ _ _ _ => ptx_nil) (fun _ _ _ _ _ => (ex_f C_are_fractions hr (by decide) (fun _ _ h => runV_len h) rfl (ax_cons (ex_fz (ex_of_var (pv 7))) (ax_cons (ex_fz (ex_of_var (pv 5))) ax_nil)))) (by decide)) ax_nil)))))))) (bx_one (sx_ret ex_non)) bx_nil)))
  (bx_cons (sx_set (i := 8) sc_plain_in.nd rfl (by first | exact Or.inl rfl | exact Or.inr rfl) (ex_c C_Plain_init hr (by decide) (fun _ _ _ h => runI_len h) rfl (ax_cons (ex_fz (ex_of_var (pv 0))) ax_nil)))
  (bx_one (sx_ret (ex_if (tx_val (ex_m0 C_Plain_fits hr (by decide) (fun _ _ h => runV_len h) (ex_of_var (pv 8)))) (ex_of_var (pv 8)) ex_non))))))))))
theorem sc_plains_in : FnScope ["value", "plains", "item"] ["value"] (defScope (topS 13)) := ⟨rfl, rfl, rfl, by decide +kernel, rfl, by decide +kernel, by decide +kernel⟩
theorem ok_plains_in (T : Txt w K mg cl) (C_plain_in : CalF P w K mg base cl 5 "plain_in" 1 m_plain_in) {f : Addr} {fd : FuncData} (F : FunD K "plains_in" "plains_in" (defArgs (topS 13)) (defBody (topS 13)) (defScope (topS 13)) [] [] f fd) :
    FnOk P w K mg base CX0 6 f fd ["value"] (spV K cl 1 m_plains_in) :=
  okV (N := ["value", "plains", "item"]) (ps := ["value"]) (k := 5) (fb := b_plains_in) F sc_plains_in (by decide) fun cdv A outer s H E hr =>
  (bx_cons (sx_if (tx_w (wx_or (tx_not (tx_val (ex_callB call_isi ln_isi rfl T.f_isinstance bt_isinstance (ax_cons (ex_of_var (pv 0)) (ax_cons (ex_tyname rfl T.f_tuple bt_tuple) ax_nil))))) (wx_or1 (tx_not (tx_chain op_le op_le ln_cmp ln_cmp ex_int (ex_callB call_len ln_len rfl T.f_len bt_len (ax_cons (ex_of_var (pv 0)) ax_nil)) ex_int))))) (bx_one (sx_ret ex_non)) bx_nil)
  (bx_cons (by first | exact (sx_set (i := 1) sc_plains_in.nd rfl (by first | exact Or.inl rfl | exact Or.inr rfl) (ex_comp rfl sc_plains_in.nd (ix_seq' (ex_of_var (pv 0))) (own := [(("item" : PySem.Str), 2)]) (blk_ok (by kernel_rfl)) (fun _ _ _ _ _ => (gx_name (i := 2) sc_plains_in.nd rfl (by first | exact Or.inl rfl | exact Or.inr rfl))) (fun _ _ _ _ _ => ptx_nil) (fun _ _ _ _ _ => (ex_f C_plain_in hr (by decide) (fun _ _ h => runV_len h) rfl (ax_cons (ex_fz (ex_of_var (pv 2))) ax_nil))) (by decide))) | exact (sx_comp (i := 1) rfl sc_plains_in.nd rfl rfl (by rfl) (ix_seq' (ex_of_var (pv 0))) (own := [(("item" : PySem.Str), 2)]) (blk_ok (by kernel_rfl)) (fun _ _ _ _ _ => (gx_name (i := 2) sc_plains_in.nd rfl (by first | exact Or.inl rfl | exact Or.inr rfl))) (fun _ _ _ _ _ => ptx_nil) (fun _ _ _ _ _ => (ex_f C_plain_in hr (by decide) (fun _ _ h => runV_len h) rfl (ax_cons (ex_fz (ex_of_var (pv 2))) ax_nil))) (by decide)))
  (bx_one (sx_ret (ex_if (tx_cmp (op_noneIn (hu64 hr)) (ln_noneIn T.mroO T.eqO) ex_non (ex_of_var (pv 1)) (by rfl)) ex_non (ex_of_var (pv 1)))))))
theorem sc_are_ascending : FnScope ["value", "item", "at"] ["value"] (defScope (topS 16)) := ⟨rfl, rfl, rfl, by decide +kernel, rfl, by decide +kernel, by decide +kernel⟩
theorem ok_are_ascending (T : Txt w K mg cl) (C_is_integer : CalF P w K mg base cl 1 "is_integer" 1 m_is_integer) {f : Addr} {fd : FuncData} (F : FunD K "are_ascending" "are_ascending" (defArgs (topS 16)) (defBody (topS 16)) (defScope (topS 16)) [] [] f fd) :
    FnOk P w K mg base CX0 2 f fd ["value"] (spV K cl 1 m_are_ascending) :=
  okV (N := ["value", "item", "at"]) (ps := ["value"]) (k := 1) (fb := b_are_ascending) F sc_are_ascending (by decide) fun cdv A outer s H E hr =>
  (bx_cons (sx_if (tx_w (wx_or (tx_not (tx_val (ex_callB call_isi ln_isi rfl T.f_isinstance bt_isinstance (ax_cons (ex_of_var (pv 0)) (ax_cons (ex_tyname rfl T.f_tuple bt_tuple) ax_nil))))) (wx_or1 (tx_not (tx_val (ex_callB (cr_all rfl) ln_all rfl T.f_all bt_all (ax_cons (ex_comp rfl sc_are_ascending.nd (ix_seq' (ex_of_var (pv 0))) (own := [(("item" : PySem.Str), 1)]) (blk_ok (by kernel_rfl)) (fun _ _ _ _ _ => (gx_name (i := 1) sc_are_ascending.nd rfl (by first | exact Or.inl rfl | exact Or.inr rfl))) (fun _ _ _ _ _ => ptx_nil) (fun _ _ _ _ _ => (ex_and (ex_f C_is_integer hr (by decide) (fun _ _ h => runV_len h) rfl (ax_cons (ex_fz (ex_of_var (pv 1))) ax_nil)) (ex_one (ex_cmp op_ge ln_cmp (ex_of_var (pv 1)) ex_int (nomark _))))) (by decide)) ax_nil))))))) (bx_one (sx_ret ex_bl)) bx_nil)
  (bx_one (sx_ret (ex_callB (cr_all rfl) ln_all rfl T.f_all bt_all (ax_cons (ex_comp rfl sc_are_ascending.nd (ix_range1 rfl T.f_range (ax_cons (ex_op op_sub ln_sub (ex_callB call_len ln_len rfl T.f_len bt_len (ax_cons (ex_of_var (pv 0)) ax_nil)) ex_int) ax_nil)) (own := [(("at" : PySem.Str), 2)]) (blk_ok (by kernel_rfl)) (fun _ _ _ _ _ => (gx_name (i := 2) sc_are_ascending.nd rfl (by first | exact Or.inl rfl | exact Or.inr rfl))) (fun _ _ _ _ _ => ptx_nil) (fun _ _ _ _ _ => (ex_cmp op_lt ln_cmp (ex_ix ix_lt ln_ix (ex_of_var (pv 0)) (ex_of_var (pv 2)) (by intro _ _; rfl)) (ex_ix ix_lt ln_ix (ex_of_var (pv 0)) (ex_op op_add3 ln_add (ex_of_var (pv 2)) ex_int) (by intro _ _; rfl)) (nomark _))) (by decide)) ax_nil)))))
theorem sc_Plain_point_at : FnScope ["self", "number", "digits", "left", "point", "digit"] ["self", "number"] (defScope (inClass (topS 10) 3)) := ⟨rfl, rfl, rfl, by decide +kernel, rfl, by decide +kernel, by decide +kernel⟩
theorem ok_Plain_point_at (T : Txt w K mg cl) (C_lowest : CalF P w K mg base cl 2 "lowest" 2 m_lowest) (C_Plain_later : CalM P w K mg base cl 3 0 "later" 3 m_Plain_later) {f : Addr} {fd : FuncData} (F : FunD K "point_at" "Plain.point_at" (defArgs (inClass (topS 10) 3)) (defBody (inClass (topS 10) 3)) (defScope (inClass (topS 10) 3)) [] [] f fd) :
    FnOk P w K mg base CX0 4 f fd ["self", "number"] (spV K cl 2 m_Plain_point_at) :=
  okV (N := ["self", "number", "digits", "left", "point", "digit"]) (ps := ["self", "number"]) (k := 3) (fb := b_Plain_point_at) F sc_Plain_point_at (by decide) fun cdv A outer s H E hr =>
  (bx_cons (by first | exact (sx_parT (is := [2, 3]) rfl (as_cons (ex_lst ax_nil) (as_cons (ex_of_var (pv 1)) as_nil)) (pgs_cons (pg_name (i := 2) sc_Plain_point_at.nd rfl (by first | exact Or.inl rfl | exact Or.inr rfl)) (pgs_cons (pg_name (i := 3) sc_Plain_point_at.nd rfl (by first | exact Or.inl rfl | exact Or.inr rfl)) pgs_nil)) rfl (by decide)) | exact (sx_par2 (i := 2) (j := 3) rfl sc_Plain_point_at.nd rfl rfl (by decide) rfl rfl (as_cons (ex_lst ax_nil) (as_cons (ex_of_var (pv 1)) as_nil)) (by rfl)))
  (bx_cons (sx_while PassesOwn.never (tx_cmp op_gt ln_cmp (ex_of_var (pv 3)) ex_int (nomark _)) (bx_cons (sx_app (pv 2) (ex_op op_mod ln_mod (ex_of_var (pv 3)) ex_int))
  (bx_one (sx_set (i := 3) sc_Plain_point_at.nd rfl (by first | exact Or.inl rfl | exact Or.inr rfl) (ex_op op_fdivW ln_fdiv (ex_of_var (pv 3)) ex_int)))))
  (bx_cons (sx_set (i := 4) sc_Plain_point_at.nd rfl (by first | exact Or.inl rfl | exact Or.inr rfl) (ex_f C_lowest hr (by decide) (fun _ _ h => runV_len h) rfl (ax_cons (ex_fz (ex_fld T.cls T.na_starts (ex_of_var (pv 0)))) (ax_cons (ex_fz ex_int) ax_nil))))
  (bx_cons (sx_for PassesOwn.never rfl (ix_seq' (ex_rev (ex_of_var (pv 2)))) (gx_name (i := 5) sc_Plain_point_at.nd rfl (by first | exact Or.inl rfl | exact Or.inr rfl)) (bx_one (sx_set (i := 4) sc_Plain_point_at.nd rfl (by first | exact Or.inl rfl | exact Or.inr rfl) (ex_m C_Plain_later hr (by decide) (fun _ _ h => runV_len h) (ex_of_var (pv 0)) (ax_cons (ex_fz (ex_of_var (pv 4))) (ax_cons (ex_fz (ex_of_var (pv 5))) ax_nil))))))
  (bx_one (sx_ret (ex_of_var (pv 4))))))))
end
end VL

set_option Elab.async false
set_option linter.all false
set_option maxRecDepth 100000
set_option maxHeartbeats 1000000
/-! the bodies bear their functions (printed by gen.py). -/
namespace VL
open PySem PySem.Spec PyProof.Rows L2
section
variable {P : Program} {w : World} {K : PySem.W.Frag} {mg : Str → Option Value} {base : Heap} {cl : Nat → Addr}
theorem sc_makes : FnScope ["row", "points", "aim", "bottom", "values", "under", "factors", "tops", "place", "here", "point"] ["row", "points", "aim"] (defScope (topS 17)) := ⟨rfl, rfl, rfl, by decide +kernel, rfl, by decide +kernel, by decide +kernel⟩
theorem ok_makes (T : Txt w K mg cl) (C_common_bottom : CalF P w K mg base cl 2 "common_bottom" 1 m_common_bottom) (C_times_bottom : CalF P w K mg base cl 1 "times_bottom" 2 m_times_bottom) (C_sum_by : CalF P w K mg base cl 1 "sum_by" 2 m_sum_by) {f : Addr} {fd : FuncData} (F : FunD K "makes" "makes" (defArgs (topS 17)) (defBody (topS 17)) (defScope (topS 17)) [] [] f fd) :
    FnOk P w K mg base CX0 3 f fd ["row", "points", "aim"] (spV K cl 3 m_makes) :=
  okV (N := ["row", "points", "aim", "bottom", "values", "under", "factors", "tops", "place", "here", "point"]) (ps := ["row", "points", "aim"]) (k := 2) (fb := b_makes) F sc_makes (by decide) fun cdv A outer s H E hr =>
  (bx_cons (sx_set (i := 3) sc_makes.nd rfl (by first | exact Or.inl rfl | exact Or.inr rfl) (ex_f C_common_bottom hr (by decide) (fun _ _ h => runV_len h) rfl (ax_cons (ex_fz (ex_comp rfl sc_makes.nd (ix_seq' (ex_of_var (pv 1))) (own := [(("values" : PySem.Str), 4), (("under" : PySem.Str), 5)]) (blk_ok (by kernel_rfl)) (fun _ _ _ _ _ => (gx_tup rfl (gxs_cons (gx_name (i := 4) sc_makes.nd rfl (by first | exact Or.inl rfl | exact Or.inr rfl)) (gxs_cons (gx_name (i := 5) sc_makes.nd rfl (by first | exact Or.inl rfl | exact Or.inr rfl)) gxs_nil)))) (fun _ _ _ _ _ => ptx_nil) (fun _ _ _ _ _ => (ex_tup (ax_cons (ex_fz ex_int) (ax_cons (ex_fz (ex_of_var (pv 5))) ax_nil)))) (by decide))) ax_nil)))
  (bx_cons (sx_set (i := 6) sc_makes.nd rfl (by first | exact Or.inl rfl | exact Or.inr rfl) (ex_f C_common_bottom hr (by decide) (fun _ _ h => runV_len h) rfl (ax_cons (ex_fz (ex_of_var (pv 0))) ax_nil)))
  (bx_cons (sx_set (i := 7) sc_makes.nd rfl (by first | exact Or.inl rfl | exact Or.inr rfl) (ex_f C_times_bottom hr (by decide) (fun _ _ h => runV_len h) rfl (ax_cons (ex_fz (ex_of_var (pv 0))) (ax_cons (ex_fz (ex_of_var (pv 6))) ax_nil))))
  (bx_cons (sx_asg (ex_of_var (pv 2)) (gx_tup rfl (gxs_cons (gx_name (i := 4) sc_makes.nd rfl (by first | exact Or.inl rfl | exact Or.inr rfl)) (gxs_cons (gx_name (i := 5) sc_makes.nd rfl (by first | exact Or.inl rfl | exact Or.inr rfl)) gxs_nil))))
  (bx_cons (sx_for PassesOwn.never rfl (ix_range1 rfl T.f_range (ax_cons (ex_callB call_len ln_len rfl T.f_len bt_len (ax_cons (ex_of_var (pv 4)) ax_nil)) ax_nil)) (gx_name (i := 8) sc_makes.nd rfl (by first | exact Or.inl rfl | exact Or.inr rfl)) (bx_cons (by first | exact (sx_set (i := 9) sc_makes.nd rfl (by first | exact Or.inl rfl | exact Or.inr rfl) (ex_comp rfl sc_makes.nd (ix_seq' (ex_of_var (pv 1))) (own := [(("point" : PySem.Str), 10)]) (blk_ok (by kernel_rfl)) (fun _ _ _ _ _ => (gx_name (i := 10) sc_makes.nd rfl (by first | exact Or.inl rfl | exact Or.inr rfl))) (fun _ _ _ _ _ => ptx_nil) (fun _ _ _ _ _ => (ex_op op_mul2 ln_mul (ex_ix ix_lt ln_ix (ex_ix ix_lt ln_ix (ex_of_var (pv 10)) ex_int (by intro _ _; rfl)) (ex_of_var (pv 8)) (by intro _ _; rfl)) (ex_op op_fdivW ln_fdiv (ex_of_var (pv 3)) (ex_ix ix_lt ln_ix (ex_of_var (pv 10)) ex_int (by intro _ _; rfl))))) (by decide))) | exact (sx_comp (i := 9) rfl sc_makes.nd rfl rfl (by rfl) (ix_seq' (ex_of_var (pv 1))) (own := [(("point" : PySem.Str), 10)]) (blk_ok (by kernel_rfl)) (fun _ _ _ _ _ => (gx_name (i := 10) sc_makes.nd rfl (by first | exact Or.inl rfl | exact Or.inr rfl))) (fun _ _ _ _ _ => ptx_nil) (fun _ _ _ _ _ => (ex_op op_mul2 ln_mul (ex_ix ix_lt ln_ix (ex_ix ix_lt ln_ix (ex_of_var (pv 10)) ex_int (by intro _ _; rfl)) (ex_of_var (pv 8)) (by intro _ _; rfl)) (ex_op op_fdivW ln_fdiv (ex_of_var (pv 3)) (ex_ix ix_lt ln_ix (ex_of_var (pv 10)) ex_int (by intro _ _; rfl))))) (by decide)))
  (bx_one (sx_if (tx_cmp (op_neD (hu64 hr)) ln_ne (ex_op op_mul2 ln_mul (ex_f C_sum_by hr (by decide) (fun _ _ h => runV_len h) rfl (ax_cons (ex_fz (ex_of_var (pv 7))) (ax_cons (ex_fz (ex_of_var (pv 9))) ax_nil))) (ex_of_var (pv 5))) (ex_op op_mul2 ln_mul (ex_op op_mul2 ln_mul (ex_ix ix_lt ln_ix (ex_of_var (pv 4)) (ex_of_var (pv 8)) (by intro _ _; rfl)) (ex_of_var (pv 3))) (ex_of_var (pv 6))) (nomark _)) (bx_one (sx_ret ex_bl)) bx_nil))))
  (bx_one (sx_ret ex_bl)))))))
theorem sc_is_row : FnScope ["row", "numbers", "later", "tables", "at", "digit", "number", "top", "bottom", "plain", "points"] ["row", "numbers", "later", "tables", "at", "digit"] (defScope (topS 18)) := ⟨rfl, rfl, rfl, by decide +kernel, rfl, by decide +kernel, by decide +kernel⟩
theorem ok_is_row (T : Txt w K mg cl) (C_are_fractions : CalF P w K mg base cl 4 "are_fractions" 2 m_are_fractions) (C_makes : CalF P w K mg base cl 3 "makes" 3 m_makes) (C_Plain_later : CalM P w K mg base cl 3 0 "later" 3 m_Plain_later) {f : Addr} {fd : FuncData} (F : FunD K "is_row" "is_row" (defArgs (topS 18)) (defBody (topS 18)) (defScope (topS 18)) [] [] f fd) :
    FnOk P w K mg base CX0 5 f fd ["row", "numbers", "later", "tables", "at", "digit"] (spV K cl 6 m_is_row) :=
  okV (N := ["row", "numbers", "later", "tables", "at", "digit", "number", "top", "bottom", "plain", "points"]) (ps := ["row", "numbers", "later", "tables", "at", "digit"]) (k := 4) (fb := b_is_row) F sc_is_row (by decide) fun cdv A outer s H E hr =>
  (bx_cons (sx_if (tx_not (tx_val (ex_f C_are_fractions hr (by decide) (fun _ _ h => runV_len h) rfl (ax_cons (ex_fz (ex_of_var (pv 0))) (ax_cons (ex_fz (ex_callB call_len ln_len rfl T.f_len bt_len (ax_cons (ex_of_var (pv 1)) ax_nil))) ax_nil))))) (bx_one (sx_ret ex_bl)) bx_nil)
  (bx_cons (sx_if (tx_val (ex_callB (cr_any rfl) ln_any rfl T.f_any bt_any (ax_cons (ex_comp rfl sc_is_row.nd (ix_zip rfl T.f_zip (ex_of_var (pv 1)) (ex_of_var (pv 0))) (own := [(("number" : PySem.Str), 6), (("top" : PySem.Str), 7), (("bottom" : PySem.Str), 8)]) (blk_ok (by kernel_rfl)) (fun _ _ _ _ _ => (gx_tup rfl (gxs_cons (gx_name (i := 6) sc_is_row.nd rfl (by first | exact Or.inl rfl | exact Or.inr rfl)) (gxs_cons (gx_tup rfl (gxs_cons (gx_name (i := 7) sc_is_row.nd rfl (by first | exact Or.inl rfl | exact Or.inr rfl)) (gxs_cons (gx_name (i := 8) sc_is_row.nd rfl (by first | exact Or.inl rfl | exact Or.inr rfl)) gxs_nil))) gxs_nil)))) (fun _ _ _ _ _ => ptx_nil) (fun _ _ _ _ _ => (ex_and (ex_cmp op_gt ln_cmp (ex_of_var (pv 6)) (ex_of_var (pv 2)) (nomark _)) (ex_one (ex_cmp (op_neD (hu64 hr)) ln_ne (ex_of_var (pv 7)) ex_int (nomark _))))) (by decide)) ax_nil))) (bx_one (sx_ret ex_bl)) bx_nil)
  (bx_one (sx_ret (ex_callB (cr_all rfl) ln_all rfl T.f_all bt_all (ax_cons (ex_comp rfl sc_is_row.nd (ix_seq' (ex_of_var (pv 3))) (own := [(("plain" : PySem.Str), 9), (("points" : PySem.Str), 10)]) (blk_ok (by kernel_rfl)) (fun _ _ _ _ _ => (gx_tup rfl (gxs_cons (gx_name (i := 9) sc_is_row.nd rfl (by first | exact Or.inl rfl | exact Or.inr rfl)) (gxs_cons (gx_name (i := 10) sc_is_row.nd rfl (by first | exact Or.inl rfl | exact Or.inr rfl)) gxs_nil)))) (fun _ _ _ _ _ => ptx_nil) (fun _ _ _ _ _ => (ex_f C_makes hr (by decide) (fun _ _ h => runV_len h) rfl (ax_cons (ex_fz (ex_of_var (pv 0))) (ax_cons (ex_fz (ex_of_var (pv 10))) (ax_cons (ex_fz (ex_m C_Plain_later hr (by decide) (fun _ _ h => runV_len h) (ex_of_var (pv 9)) (ax_cons (ex_fz (ex_ix ix_lt ln_ix (ex_of_var (pv 10)) (ex_of_var (pv 4)) (by intro _ _; rfl))) (ax_cons (ex_fz (ex_of_var (pv 5))) ax_nil)))) ax_nil))))) (by decide)) ax_nil))))))
theorem sc_begins_well : FnScope ["tables", "numbers", "limit", "plain", "points", "start"] ["tables", "numbers", "limit"] (defScope (topS 19)) := ⟨rfl, rfl, rfl, by decide +kernel, rfl, by decide +kernel, by decide +kernel⟩
theorem ok_begins_well (T : Txt w K mg cl)  {f : Addr} {fd : FuncData} (F : FunD K "begins_well" "begins_well" (defArgs (topS 19)) (defBody (topS 19)) (defScope (topS 19)) [] [] f fd) :
    FnOk P w K mg base CX0 1 f fd ["tables", "numbers", "limit"] (spV K cl 3 m_begins_well) :=
  okV (N := ["tables", "numbers", "limit", "plain", "points", "start"]) (ps := ["tables", "numbers", "limit"]) (k := 0) (fb := b_begins_well) F sc_begins_well (by decide) fun cdv A outer s H E hr =>
  (bx_cons (sx_if (tx_w (wx_or (tx_cmp op_in_seq ln_in ex_int (ex_of_var (pv 1)) (by rfl)) (wx_or1 (tx_cmp (op_eqD (hu64 hr)) ln_eq (ex_of_var (pv 2)) ex_int (nomark _))))) (bx_one (sx_ret ex_bl)) bx_nil)
  (bx_one (sx_ret (ex_callB (cr_all rfl) ln_all rfl T.f_all bt_all (ax_cons (ex_comp2 rfl sc_begins_well.nd (ix_seq' (ex_of_var (pv 0))) (own := [(("plain" : PySem.Str), 3), (("points" : PySem.Str), 4), (("start" : PySem.Str), 5)]) (vs1 := [5]) (blk_ok (by kernel_rfl)) (by decide) (fun _ _ _ _ _ => (gx_tup rfl (gxs_cons (gx_name (i := 3) sc_begins_well.nd rfl (by first | exact Or.inl rfl | exact Or.inr rfl)) (gxs_cons (gx_name (i := 4) sc_begins_well.nd rfl (by first | exact Or.inl rfl | exact Or.inr rfl)) gxs_nil)))) (fun _ _ _ _ _ => ptx_nil) (fun _ _ _ _ _ => (ix_seq' (ex_fld T.cls T.na_starts (ex_of_var (pv 3))))) (fun _ _ _ _ _ => (gx_name (i := 5) sc_begins_well.nd rfl (by first | exact Or.inl rfl | exact Or.inr rfl))) (fun _ _ _ _ _ => ptx_nil) (fun _ _ _ _ _ => (ex_cmp (op_eqD (hu64 hr)) ln_eq (ex_of_var (pv 5)) ex_int (nomark _))) (by decide) (by decide)) ax_nil)))))
theorem sc_Plain_told_by : FnScope ["self", "point", "values", "bottom", "tops", "under"] ["self", "point"] (defScope (inClass (topS 10) 4)) := ⟨rfl, rfl, rfl, by decide +kernel, rfl, by decide +kernel, by decide +kernel⟩
theorem ok_Plain_told_by (T : Txt w K mg cl) (C_lowest : CalF P w K mg base cl 2 "lowest" 2 m_lowest) (C_sum_by : CalF P w K mg base cl 1 "sum_by" 2 m_sum_by) {f : Addr} {fd : FuncData} (F : FunD K "told_by" "Plain.told_by" (defArgs (inClass (topS 10) 4)) (defBody (inClass (topS 10) 4)) (defScope (inClass (topS 10) 4)) [] [] f fd) :
    FnOk P w K mg base CX0 3 f fd ["self", "point"] (spV K cl 2 m_Plain_told_by) :=
  okV (N := ["self", "point", "values", "bottom", "tops", "under"]) (ps := ["self", "point"]) (k := 2) (fb := b_Plain_told_by) F sc_Plain_told_by (by decide) fun cdv A outer s H E hr =>
  (bx_cons (sx_asg (ex_of_var (pv 1)) (gx_tup rfl (gxs_cons (gx_name (i := 2) sc_Plain_told_by.nd rfl (by first | exact Or.inl rfl | exact Or.inr rfl)) (gxs_cons (gx_name (i := 3) sc_Plain_told_by.nd rfl (by first | exact Or.inl rfl | exact Or.inr rfl)) gxs_nil))))
  (bx_cons (sx_asg (ex_f C_lowest hr (by decide) (fun _ _ h => runV_len h) rfl (ax_cons (ex_fz (ex_lst (ax_cons (ex_fz (ex_f C_sum_by hr (by decide) (fun _ _ h => runV_len h) rfl (ax_cons (ex_fz (ex_fld T.cls T.na_row (ex_of_var (pv 0)))) (ax_cons (ex_fz (ex_of_var (pv 2))) ax_nil)))) ax_nil))) (ax_cons (ex_fz (ex_op op_mul2 ln_mul (ex_of_var (pv 3)) (ex_fld T.cls T.na_under (ex_of_var (pv 0))))) ax_nil))) (gx_tup rfl (gxs_cons (gx_name (i := 4) sc_Plain_told_by.nd rfl (by first | exact Or.inl rfl | exact Or.inr rfl)) (gxs_cons (gx_name (i := 5) sc_Plain_told_by.nd rfl (by first | exact Or.inl rfl | exact Or.inr rfl)) gxs_nil))))
  (bx_one (sx_ret (ex_tup (ax_cons (ex_fz (ex_ix ix_lt ln_ix (ex_of_var (pv 4)) ex_int (by intro _ _; rfl))) (ax_cons (ex_fz (ex_of_var (pv 5))) ax_nil)))))))
theorem sc_span_in : FnScope ["value", "plains", "limit", "numbers", "pairs", "pair", "tables", "number", "plain", "at", "digit", "later", "row", "points"] ["value", "plains", "limit"] (defScope (topS 20)) := ⟨rfl, rfl, rfl, by decide +kernel, rfl, by decide +kernel, by decide +kernel⟩
theorem ok_span_in (T : Txt w K mg cl) (C_are_ascending : CalF P w K mg base cl 2 "are_ascending" 1 m_are_ascending) (C_Plain_point_at : CalM P w K mg base cl 4 0 "point_at" 2 m_Plain_point_at) (C_is_row : CalF P w K mg base cl 5 "is_row" 6 m_is_row) (C_begins_well : CalF P w K mg base cl 1 "begins_well" 3 m_begins_well) (C_Plain_told_by : CalM P w K mg base cl 3 0 "told_by" 2 m_Plain_told_by) {f : Addr} {fd : FuncData} (F : FunD K "span_in" "span_in" (defArgs (topS 20)) (defBody (topS 20)) (defScope (topS 20)) [] [] f fd) :
    FnOk P w K mg base CX0 6 f fd ["value", "plains", "limit"] (spV K cl 3 m_span_in) :=
  okV (N := ["value", "plains", "limit", "numbers", "pairs", "pair", "tables", "number", "plain", "at", "digit", "later", "row", "points"]) (ps := ["value", "plains", "limit"]) (k := 5) (fb := b_span_in) F sc_span_in (by decide) fun cdv A outer s H E hr =>
  (bx_cons (sx_if (tx_w (wx_or (tx_not (tx_val (ex_callB call_isi ln_isi rfl T.f_isinstance bt_isinstance (ax_cons (ex_of_var (pv 0)) (ax_cons (ex_tyname rfl T.f_tuple bt_tuple) ax_nil))))) (wx_or1 (tx_cmp (op_neD (hu64 hr)) ln_ne (ex_callB call_len ln_len rfl T.f_len bt_len (ax_cons (ex_of_var (pv 0)) ax_nil)) ex_int (nomark _))))) (bx_one (sx_ret ex_non)) bx_nil)
  (bx_cons (sx_asg (ex_of_var (pv 0)) (gx_tup rfl (gxs_cons (gx_name (i := 3) sc_span_in.nd rfl (by first | exact Or.inl rfl | exact Or.inr rfl)) (gxs_cons (gx_name (i := 4) sc_span_in.nd rfl (by first | exact Or.inl rfl | exact Or.inr rfl)) gxs_nil))))
  (bx_cons (sx_if (tx_w (wx_or (tx_not (tx_val (ex_f C_are_ascending hr (by decide) (fun _ _ h => runV_len h) rfl (ax_cons (ex_fz (ex_of_var (pv 3))) ax_nil)))) (wx_or1 (tx_cmp op_gt ln_cmp (ex_callB call_len ln_len rfl T.f_len bt_len (ax_cons (ex_of_var (pv 3)) ax_nil)) (ex_globI T.g_MOST_NUMBERS rfl) (nomark _))))) (bx_one (sx_ret ex_non)) bx_nil)
  (bx_cons (sx_if (tx_w (wx_or (tx_not (tx_val (ex_callB call_isi ln_isi rfl T.f_isinstance bt_isinstance (ax_cons (ex_of_var (pv 4)) (ax_cons (ex_tyname rfl T.f_tuple bt_tuple) ax_nil))))) (wx_or1 (tx_cmp (op_neD (hu64 hr)) ln_ne (ex_callB call_len ln_len rfl T.f_len bt_len (ax_cons (ex_of_var (pv 4)) ax_nil)) (ex_callB call_len ln_len rfl T.f_len bt_len (ax_cons (ex_of_var (pv 3)) ax_nil)) (nomark _))))) (bx_one (sx_ret ex_non)) bx_nil)
  (bx_cons (sx_if (tx_not (tx_val (ex_callB (cr_all rfl) ln_all rfl T.f_all bt_all (ax_cons (ex_comp rfl sc_span_in.nd (ix_seq' (ex_of_var (pv 4))) (own := [(("pair" : PySem.Str), 5)]) (blk_ok (by kernel_rfl)) (fun _ _ _ _ _ => (gx_name (i := 5) sc_span_in.nd rfl (by first | exact Or.inl rfl | exact Or.inr rfl))) (fun _ _ _ _ _ => ptx_nil) (fun _ _ _ _ _ => (ex_and (ex_callB call_isi ln_isi rfl T.f_isinstance bt_isinstance (ax_cons (ex_of_var (pv 5)) (ax_cons (ex_tyname rfl T.f_tuple bt_tuple) ax_nil))) (ex_one (ex_cmp (op_eqD (hu64 hr)) ln_eq (ex_callB call_len ln_len rfl T.f_len bt_len (ax_cons (ex_of_var (pv 5)) ax_nil)) ex_int (nomark _))))) (by decide)) ax_nil)))) (bx_one (sx_ret ex_non)) bx_nil)
  (bx_cons (by first | exact (sx_set (i := 6) sc_span_in.nd rfl (by first | exact Or.inl rfl | exact Or.inr rfl) (ex_comp rfl sc_span_in.nd (ix_seq' (ex_of_var (pv 1))) (own := [(("plain" : PySem.Str), 8)]) (blk_ok (by kernel_rfl)) (fun _ _ _ _ _ => (gx_name (i := 8) sc_span_in.nd rfl (by first | exact Or.inl rfl | exact Or.inr rfl))) (fun _ _ _ _ _ => ptx_nil) (fun _ _ _ _ _ => (ex_tup (ax_cons (ex_fz (ex_of_var (pv 8))) (ax_cons (ex_fz (ex_comp rfl sc_span_in.nd (ix_seq' (ex_of_var (pv 3))) (own := [(("number" : PySem.Str), 7)]) (blk_ok (by kernel_rfl)) (fun _ _ _ _ _ => (gx_name (i := 7) sc_span_in.nd rfl (by first | exact Or.inl rfl | exact Or.inr rfl))) (fun _ _ _ _ _ => ptx_nil) (fun _ _ _ _ _ => (ex_m C_Plain_point_at hr (by decide) (fun _ _ h => runV_len h) (ex_of_var (pv 8)) (ax_cons (ex_fz (ex_of_var (pv 7))) ax_nil))) (by decide))) ax_nil)))) (by decide))) | exact (sx_comp (i := 6) rfl sc_span_in.nd rfl rfl (by rfl) (ix_seq' (ex_of_var (pv 1))) (own := [(("plain" : PySem.Str), 8)]) (blk_ok (by kernel_rfl)) (fun _ _ _ _ _ => (gx_name (i := 8) sc_span_in.nd rfl (by first | exact Or.inl rfl | exact Or.inr rfl))) (fun _ _ _ _ _ => ptx_nil) (fun _ _ _ _ _ => (ex_tup (ax_cons (ex_fz (ex_of_var (pv 8))) (ax_cons (ex_fz (ex_comp rfl sc_span_in.nd (ix_seq' (ex_of_var (pv 3))) (own := [(("number" : PySem.Str), 7)]) (blk_ok (by kernel_rfl)) (fun _ _ _ _ _ => (gx_name (i := 7) sc_span_in.nd rfl (by first | exact Or.inl rfl | exact Or.inr rfl))) (fun _ _ _ _ _ => ptx_nil) (fun _ _ _ _ _ => (ex_m C_Plain_point_at hr (by decide) (fun _ _ h => runV_len h) (ex_of_var (pv 8)) (ax_cons (ex_fz (ex_of_var (pv 7))) ax_nil))) (by decide))) ax_nil)))) (by decide)))
  (bx_cons (sx_for PassesOwn.never rfl (ix_enum rfl T.f_enumerate (ex_of_var (pv 3))) (gx_tup rfl (gxs_cons (gx_name (i := 9) sc_span_in.nd rfl (by first | exact Or.inl rfl | exact Or.inr rfl)) (gxs_cons (gx_name (i := 7) sc_span_in.nd rfl (by first | exact Or.inl rfl | exact Or.inr rfl)) gxs_nil))) (bx_one (sx_for PassesOwn.never rfl (ix_range1 rfl T.f_range (ax_cons ex_int ax_nil)) (gx_name (i := 10) sc_span_in.nd rfl (by first | exact Or.inl rfl | exact Or.inr rfl)) (bx_cons (by first | exact (sx_parT (is := [11, 12]) rfl (as_cons (ex_op op_add3 ln_add (ex_op op_mul2 ln_mul ex_int (ex_of_var (pv 7))) (ex_of_var (pv 10))) (as_cons (ex_ix ix_lt ln_ix (ex_ix ix_lt ln_ix (ex_of_var (pv 4)) (ex_of_var (pv 9)) (by intro _ _; rfl)) (ex_of_var (pv 10)) (by intro _ _; rfl)) as_nil)) (pgs_cons (pg_name (i := 11) sc_span_in.nd rfl (by first | exact Or.inl rfl | exact Or.inr rfl)) (pgs_cons (pg_name (i := 12) sc_span_in.nd rfl (by first | exact Or.inl rfl | exact Or.inr rfl)) pgs_nil)) rfl (by decide)) | exact (sx_par2 (i := 11) (j := 12) rfl sc_span_in.nd rfl rfl (by decide) rfl rfl (as_cons (ex_op op_add3 ln_add (ex_op op_mul2 ln_mul ex_int (ex_of_var (pv 7))) (ex_of_var (pv 10))) (as_cons (ex_ix ix_lt ln_ix (ex_ix ix_lt ln_ix (ex_of_var (pv 4)) (ex_of_var (pv 9)) (by intro _ _; rfl)) (ex_of_var (pv 10)) (by intro _ _; rfl)) as_nil)) (by rfl)))
  (bx_cons (sx_if (tx_w (wx_and (tx_cmp op_isN ln_isN (ex_of_var (pv 12)) ex_non (nomark _)) (wx_and (tx_cmp op_notN ln_notN (ex_of_var (pv 2)) ex_non (nomark _)) (wx_and1 (tx_cmp op_ge ln_cmp (ex_of_var (pv 11)) (ex_of_var (pv 2)) (nomark _)))))) (bx_one sx_continue) bx_nil)
  (bx_one (sx_if (tx_not (tx_val (ex_f C_is_row hr (by decide) (fun _ _ h => runV_len h) rfl (ax_cons (ex_fz (ex_of_var (pv 12))) (ax_cons (ex_fz (ex_of_var (pv 3))) (ax_cons (ex_fz (ex_of_var (pv 11))) (ax_cons (ex_fz (ex_of_var (pv 6))) (ax_cons (ex_fz (ex_of_var (pv 9))) (ax_cons (ex_fz (ex_of_var (pv 10))) ax_nil))))))))) (bx_one (sx_ret ex_non)) bx_nil)))))))
  (bx_cons (sx_if (tx_not (tx_val (ex_f C_begins_well hr (by decide) (fun _ _ h => runV_len h) rfl (ax_cons (ex_fz (ex_of_var (pv 6))) (ax_cons (ex_fz (ex_of_var (pv 3))) (ax_cons (ex_fz (ex_of_var (pv 2))) ax_nil)))))) (bx_one (sx_ret ex_non)) bx_nil)
  (bx_one (sx_ret (ex_comp rfl sc_span_in.nd (ix_enum rfl T.f_enumerate (ex_of_var (pv 3))) (own := [(("at" : PySem.Str), 9), (("number" : PySem.Str), 7)]) (blk_ok (by kernel_rfl)) (fun _ _ _ _ _ => (gx_tup rfl (gxs_cons (gx_name (i := 9) sc_span_in.nd rfl (by first | exact Or.inl rfl | exact Or.inr rfl)) (gxs_cons (gx_name (i := 7) sc_span_in.nd rfl (by first | exact Or.inl rfl | exact Or.inr rfl)) gxs_nil)))) (fun _ _ _ _ _ => ptx_nil) (fun _ _ _ _ _ => (ex_tup (ax_cons (ex_fz (ex_of_var (pv 7))) (ax_cons (ex_fz (ex_comp rfl sc_span_in.nd (ix_seq' (ex_of_var (pv 6))) (own := [(("plain" : PySem.Str), 8), (("points" : PySem.Str), 13)]) (blk_ok (by kernel_rfl)) (fun _ _ _ _ _ => (gx_tup rfl (gxs_cons (gx_name (i := 8) sc_span_in.nd rfl (by first | exact Or.inl rfl | exact Or.inr rfl)) (gxs_cons (gx_name (i := 13) sc_span_in.nd rfl (by first | exact Or.inl rfl | exact Or.inr rfl)) gxs_nil)))) (fun _ _ _ _ _ => ptx_nil) (fun _ _ _ _ _ => (ex_m C_Plain_told_by hr (by decide) (fun _ _ h => runV_len h) (ex_of_var (pv 8)) (ax_cons (ex_fz (ex_ix ix_lt ln_ix (ex_of_var (pv 13)) (ex_of_var (pv 9)) (by intro _ _; rfl))) ax_nil))) (by decide))) ax_nil)))) (by decide))))))))))))
theorem sc_shows_same : FnScope ["first", "second", "certificate", "plains", "found", "number", "values"] ["first", "second", "certificate"] (defScope (topS 26)) := ⟨rfl, rfl, rfl, by decide +kernel, rfl, by decide +kernel, by decide +kernel⟩
theorem ok_shows_same (T : Txt w K mg cl) (C_plains_in : CalF P w K mg base cl 6 "plains_in" 1 m_plains_in) (C_span_in : CalF P w K mg base cl 6 "span_in" 3 m_span_in) {f : Addr} {fd : FuncData} (F : FunD K "shows_same" "shows_same" (defArgs (topS 26)) (defBody (topS 26)) (defScope (topS 26)) [] [] f fd) :
    FnOk P w K mg base CX0 7 f fd ["first", "second", "certificate"] (spV K cl 3 m_shows_same) :=
  okV (N := ["first", "second", "certificate", "plains", "found", "number", "values"]) (ps := ["first", "second", "certificate"]) (k := 6) (fb := b_shows_same) F sc_shows_same (by decide) fun cdv A outer s H E hr =>
  (bx_cons (sx_set (i := 3) sc_shows_same.nd rfl (by first | exact Or.inl rfl | exact Or.inr rfl) (ex_f C_plains_in hr (by decide) (fun _ _ h => runV_len h) rfl (ax_cons (ex_fz (ex_tup (ax_cons (ex_fz (ex_of_var (pv 0))) (ax_cons (ex_fz (ex_of_var (pv 1))) ax_nil)))) ax_nil)))
  (bx_cons (sx_set (i := 4) sc_shows_same.nd rfl (by first | exact Or.inl rfl | exact Or.inr rfl) (ex_if (tx_cmp op_isN ln_isN (ex_of_var (pv 3)) ex_non (nomark _)) ex_non (ex_f C_span_in hr (by decide) (fun _ _ h => runV_len h) rfl (ax_cons (ex_fz (ex_of_var (pv 2))) (ax_cons (ex_fz (ex_of_var (pv 3))) (ax_cons (ex_fz ex_non) ax_nil))))))
  (bx_one (sx_ret (ex_and (ex_cmp op_notN ln_notN (ex_of_var (pv 4)) ex_non (nomark _)) (ex_one (ex_callB (cr_all rfl) ln_all rfl T.f_all bt_all (ax_cons (ex_comp rfl sc_shows_same.nd (ix_seq' (ex_of_var (pv 4))) (own := [(("number" : PySem.Str), 5), (("values" : PySem.Str), 6)]) (blk_ok (by kernel_rfl)) (fun _ _ _ _ _ => (gx_tup rfl (gxs_cons (gx_name (i := 5) sc_shows_same.nd rfl (by first | exact Or.inl rfl | exact Or.inr rfl)) (gxs_cons (gx_name (i := 6) sc_shows_same.nd rfl (by first | exact Or.inl rfl | exact Or.inr rfl)) gxs_nil)))) (fun _ _ _ _ _ => ptx_nil) (fun _ _ _ _ _ => (ex_cmp (op_eqD (hu64 hr)) ln_eq (ex_ix ix_lt ln_ix (ex_of_var (pv 6)) ex_int (by intro _ _; rfl)) (ex_ix ix_lt ln_ix (ex_of_var (pv 6)) ex_int (by intro _ _; rfl)) (nomark _))) (by decide)) ax_nil))))))))
theorem sc_are_apart : FnScope ["plains", "number", "values", "plain"] ["plains", "number"] (defScope (topS 27)) := ⟨rfl, rfl, rfl, by decide +kernel, rfl, by decide +kernel, by decide +kernel⟩
theorem ok_are_apart (T : Txt w K mg cl) (C_Plain_told_by : CalM P w K mg base cl 3 0 "told_by" 2 m_Plain_told_by) (C_Plain_point_at : CalM P w K mg base cl 4 0 "point_at" 2 m_Plain_point_at) {f : Addr} {fd : FuncData} (F : FunD K "are_apart" "are_apart" (defArgs (topS 27)) (defBody (topS 27)) (defScope (topS 27)) [] [] f fd) :
    FnOk P w K mg base CX0 5 f fd ["plains", "number"] (spV K cl 2 m_are_apart) :=
  okV (N := ["plains", "number", "values", "plain"]) (ps := ["plains", "number"]) (k := 4) (fb := b_are_apart) F sc_are_apart (by decide) fun cdv A outer s H E hr =>
  (bx_cons (by first | exact (sx_set (i := 2) sc_are_apart.nd rfl (by first | exact Or.inl rfl | exact Or.inr rfl) (ex_comp rfl sc_are_apart.nd (ix_seq' (ex_of_var (pv 0))) (own := [(("plain" : PySem.Str), 3)]) (blk_ok (by kernel_rfl)) (fun _ _ _ _ _ => (gx_name (i := 3) sc_are_apart.nd rfl (by first | exact Or.inl rfl | exact Or.inr rfl))) (fun _ _ _ _ _ => ptx_nil) (fun _ _ _ _ _ => (ex_m C_Plain_told_by hr (by decide) (fun _ _ h => runV_len h) (ex_of_var (pv 3)) (ax_cons (ex_fz (ex_m C_Plain_point_at hr (by decide) (fun _ _ h => runV_len h) (ex_of_var (pv 3)) (ax_cons (ex_fz (ex_of_var (pv 1))) ax_nil))) ax_nil))) (by decide))) | exact (sx_comp (i := 2) rfl sc_are_apart.nd rfl rfl (by rfl) (ix_seq' (ex_of_var (pv 0))) (own := [(("plain" : PySem.Str), 3)]) (blk_ok (by kernel_rfl)) (fun _ _ _ _ _ => (gx_name (i := 3) sc_are_apart.nd rfl (by first | exact Or.inl rfl | exact Or.inr rfl))) (fun _ _ _ _ _ => ptx_nil) (fun _ _ _ _ _ => (ex_m C_Plain_told_by hr (by decide) (fun _ _ h => runV_len h) (ex_of_var (pv 3)) (ax_cons (ex_fz (ex_m C_Plain_point_at hr (by decide) (fun _ _ h => runV_len h) (ex_of_var (pv 3)) (ax_cons (ex_fz (ex_of_var (pv 1))) ax_nil))) ax_nil))) (by decide)))
  (bx_one (sx_ret (ex_cmp (op_neD (hu64 hr)) ln_ne (ex_ix ix_lt ln_ix (ex_of_var (pv 2)) ex_int (by intro _ _; rfl)) (ex_ix ix_lt ln_ix (ex_of_var (pv 2)) ex_int (by intro _ _; rfl)) (nomark _)))))
theorem sc_shows_apart : FnScope ["first", "second", "number", "certificate", "plains"] ["first", "second", "number", "certificate"] (defScope (topS 28)) := ⟨rfl, rfl, rfl, by decide +kernel, rfl, by decide +kernel, by decide +kernel⟩
theorem ok_shows_apart (T : Txt w K mg cl) (C_plains_in : CalF P w K mg base cl 6 "plains_in" 1 m_plains_in) (C_is_integer : CalF P w K mg base cl 1 "is_integer" 1 m_is_integer) (C_are_apart : CalF P w K mg base cl 5 "are_apart" 2 m_are_apart) {f : Addr} {fd : FuncData} (F : FunD K "shows_apart" "shows_apart" (defArgs (topS 28)) (defBody (topS 28)) (defScope (topS 28)) [] [] f fd) :
    FnOk P w K mg base CX0 7 f fd ["first", "second", "number", "certificate"] (spV K cl 4 m_shows_apart) :=
  okV (N := ["first", "second", "number", "certificate", "plains"]) (ps := ["first", "second", "number", "certificate"]) (k := 6) (fb := b_shows_apart) F sc_shows_apart (by decide) fun cdv A outer s H E hr =>
  (bx_cons (sx_set (i := 4) sc_shows_apart.nd rfl (by first | exact Or.inl rfl | exact Or.inr rfl) (ex_f C_plains_in hr (by decide) (fun _ _ h => runV_len h) rfl (ax_cons (ex_fz (ex_tup (ax_cons (ex_fz (ex_of_var (pv 0))) (ax_cons (ex_fz (ex_of_var (pv 1))) ax_nil)))) ax_nil)))
  (bx_cons (sx_if (tx_w (wx_or (tx_cmp op_isN ln_isN (ex_of_var (pv 4)) ex_non (nomark _)) (wx_or (tx_not (tx_val (ex_f C_is_integer hr (by decide) (fun _ _ h => runV_len h) rfl (ax_cons (ex_fz (ex_of_var (pv 2))) ax_nil)))) (wx_or1 (tx_not (tx_chain op_le op_le ln_cmp ln_cmp ex_int (ex_of_var (pv 2)) (ex_globI T.g_LARGEST rfl))))))) (bx_one (sx_ret ex_bl)) bx_nil)
  (bx_one (sx_ret (ex_and (ex_cmp (op_eqD (hu64 hr)) ln_eq (ex_of_var (pv 3)) (ex_tup ax_nil) (nomark _)) (ex_one (ex_f C_are_apart hr (by decide) (fun _ _ h => runV_len h) rfl (ax_cons (ex_fz (ex_of_var (pv 4))) (ax_cons (ex_fz (ex_of_var (pv 2))) ax_nil)))))))))
end
end VL

set_option Elab.async false
set_option linter.all false
set_option maxRecDepth 100000
set_option maxHeartbeats 1000000
/-! the bodies bear their functions (printed by gen.py). -/
namespace VL
open PySem PySem.Spec PyProof.Rows L2
section
variable {P : Program} {w : World} {K : PySem.W.Frag} {mg : Str → Option Value} {base : Heap} {cl : Nat → Addr}
theorem sc_shows_parting : FnScope ["first", "second", "number", "certificate", "found", "at", "values"] ["first", "second", "number", "certificate"] (defScope (topS 29)) := ⟨rfl, rfl, rfl, by decide +kernel, rfl, by decide +kernel, by decide +kernel⟩
theorem ok_shows_parting (T : Txt w K mg cl) (C_shows_apart : CalF P w K mg base cl 7 "shows_apart" 4 m_shows_apart) (C_span_in : CalF P w K mg base cl 6 "span_in" 3 m_span_in) (C_plains_in : CalF P w K mg base cl 6 "plains_in" 1 m_plains_in) {f : Addr} {fd : FuncData} (F : FunD K "shows_parting" "shows_parting" (defArgs (topS 29)) (defBody (topS 29)) (defScope (topS 29)) [] [] f fd) :
    FnOk P w K mg base CX0 8 f fd ["first", "second", "number", "certificate"] (spV K cl 4 m_shows_parting) :=
  okV (N := ["first", "second", "number", "certificate", "found", "at", "values"]) (ps := ["first", "second", "number", "certificate"]) (k := 7) (fb := b_shows_parting) F sc_shows_parting (by decide) fun cdv A outer s H E hr =>
  (bx_cons (sx_if (tx_not (tx_val (ex_f C_shows_apart hr (by decide) (fun _ _ h => runV_len h) rfl (ax_cons (ex_fz (ex_of_var (pv 0))) (ax_cons (ex_fz (ex_of_var (pv 1))) (ax_cons (ex_fz (ex_of_var (pv 2))) (ax_cons (ex_fz (ex_tup ax_nil)) ax_nil))))))) (bx_one (sx_ret ex_bl)) bx_nil)
  (bx_cons (sx_set (i := 4) sc_shows_parting.nd rfl (by first | exact Or.inl rfl | exact Or.inr rfl) (ex_f C_span_in hr (by decide) (fun _ _ h => runV_len h) rfl (ax_cons (ex_fz (ex_of_var (pv 3))) (ax_cons (ex_fz (ex_f C_plains_in hr (by decide) (fun _ _ h => runV_len h) rfl (ax_cons (ex_fz (ex_tup (ax_cons (ex_fz (ex_of_var (pv 0))) (ax_cons (ex_fz (ex_of_var (pv 1))) ax_nil)))) ax_nil))) (ax_cons (ex_fz (ex_of_var (pv 2))) ax_nil)))))
  (bx_one (sx_ret (ex_and (ex_cmp op_notN ln_notN (ex_of_var (pv 4)) ex_non (nomark _)) (ex_one (ex_callB (cr_all rfl) ln_all rfl T.f_all bt_all (ax_cons (ex_comp rfl sc_shows_parting.nd (ix_seq' (ex_of_var (pv 4))) (own := [(("at" : PySem.Str), 5), (("values" : PySem.Str), 6)]) (blk_ok (by kernel_rfl)) (fun _ _ _ _ _ => (gx_tup rfl (gxs_cons (gx_name (i := 5) sc_shows_parting.nd rfl (by first | exact Or.inl rfl | exact Or.inr rfl)) (gxs_cons (gx_name (i := 6) sc_shows_parting.nd rfl (by first | exact Or.inl rfl | exact Or.inr rfl)) gxs_nil)))) (fun _ _ _ _ _ => ptx_nil) (fun _ _ _ _ _ => (ex_and (ex_cmp op_lt ln_cmp (ex_of_var (pv 5)) (ex_of_var (pv 2)) (nomark _)) (ex_one (ex_cmp (op_eqD (hu64 hr)) ln_eq (ex_ix ix_lt ln_ix (ex_of_var (pv 6)) ex_int (by intro _ _; rfl)) (ex_ix ix_lt ln_ix (ex_of_var (pv 6)) ex_int (by intro _ _; rfl)) (nomark _))))) (by decide)) ax_nil))))))))
theorem sc_adds_to_nothing : FnScope ["factors", "values", "top", "bottom", "factor", "one", "under"] ["factors", "values"] (defScope (topS 30)) := ⟨rfl, rfl, rfl, by decide +kernel, rfl, by decide +kernel, by decide +kernel⟩
theorem ok_adds_to_nothing (T : Txt w K mg cl)  {f : Addr} {fd : FuncData} (F : FunD K "adds_to_nothing" "adds_to_nothing" (defArgs (topS 30)) (defBody (topS 30)) (defScope (topS 30)) [] [] f fd) :
    FnOk P w K mg base CX0 1 f fd ["factors", "values"] (spV K cl 2 m_adds_to_nothing) :=
  okV (N := ["factors", "values", "top", "bottom", "factor", "one", "under"]) (ps := ["factors", "values"]) (k := 0) (fb := b_adds_to_nothing) F sc_adds_to_nothing (by decide) fun cdv A outer s H E hr =>
  (bx_cons (by first | exact (sx_parT (is := [2, 3]) rfl (as_cons ex_int (as_cons ex_int as_nil)) (pgs_cons (pg_name (i := 2) sc_adds_to_nothing.nd rfl (by first | exact Or.inl rfl | exact Or.inr rfl)) (pgs_cons (pg_name (i := 3) sc_adds_to_nothing.nd rfl (by first | exact Or.inl rfl | exact Or.inr rfl)) pgs_nil)) rfl (by decide)) | exact (sx_par2 (i := 2) (j := 3) rfl sc_adds_to_nothing.nd rfl rfl (by decide) rfl rfl (as_cons ex_int (as_cons ex_int as_nil)) (by rfl)))
  (bx_cons (sx_for PassesOwn.never rfl (ix_zip rfl T.f_zip (ex_of_var (pv 0)) (ex_of_var (pv 1))) (gx_tup rfl (gxs_cons (gx_name (i := 4) sc_adds_to_nothing.nd rfl (by first | exact Or.inl rfl | exact Or.inr rfl)) (gxs_cons (gx_tup rfl (gxs_cons (gx_name (i := 5) sc_adds_to_nothing.nd rfl (by first | exact Or.inl rfl | exact Or.inr rfl)) (gxs_cons (gx_name (i := 6) sc_adds_to_nothing.nd rfl (by first | exact Or.inl rfl | exact Or.inr rfl)) gxs_nil))) gxs_nil))) (bx_one (by first | exact (sx_parT (is := [2, 3]) rfl (as_cons (ex_op op_add3 ln_add (ex_op op_mul2 ln_mul (ex_of_var (pv 2)) (ex_of_var (pv 6))) (ex_op op_mul2 ln_mul (ex_op op_mul2 ln_mul (ex_of_var (pv 4)) (ex_of_var (pv 5))) (ex_of_var (pv 3)))) (as_cons (ex_op op_mul2 ln_mul (ex_of_var (pv 3)) (ex_of_var (pv 6))) as_nil)) (pgs_cons (pg_name (i := 2) sc_adds_to_nothing.nd rfl (by first | exact Or.inl rfl | exact Or.inr rfl)) (pgs_cons (pg_name (i := 3) sc_adds_to_nothing.nd rfl (by first | exact Or.inl rfl | exact Or.inr rfl)) pgs_nil)) rfl (by decide)) | exact (sx_par2 (i := 2) (j := 3) rfl sc_adds_to_nothing.nd rfl rfl (by decide) rfl rfl (as_cons (ex_op op_add3 ln_add (ex_op op_mul2 ln_mul (ex_of_var (pv 2)) (ex_of_var (pv 6))) (ex_op op_mul2 ln_mul (ex_op op_mul2 ln_mul (ex_of_var (pv 4)) (ex_of_var (pv 5))) (ex_of_var (pv 3)))) (as_cons (ex_op op_mul2 ln_mul (ex_of_var (pv 3)) (ex_of_var (pv 6))) as_nil)) (by rfl)))))
  (bx_one (sx_ret (ex_cmp (op_eqD (hu64 hr)) ln_eq (ex_of_var (pv 2)) ex_int (nomark _))))))
theorem sc_shows_relation : FnScope ["rules", "factors", "certificate", "plains", "found", "number", "values"] ["rules", "factors", "certificate"] (defScope (topS 31)) := ⟨rfl, rfl, rfl, by decide +kernel, rfl, by decide +kernel, by decide +kernel⟩
theorem ok_shows_relation (T : Txt w K mg cl) (C_plains_in : CalF P w K mg base cl 6 "plains_in" 1 m_plains_in) (C_are_integers : CalF P w K mg base cl 2 "are_integers" 2 m_are_integers) (C_span_in : CalF P w K mg base cl 6 "span_in" 3 m_span_in) (C_adds_to_nothing : CalF P w K mg base cl 1 "adds_to_nothing" 2 m_adds_to_nothing) {f : Addr} {fd : FuncData} (F : FunD K "shows_relation" "shows_relation" (defArgs (topS 31)) (defBody (topS 31)) (defScope (topS 31)) [] [] f fd) :
    FnOk P w K mg base CX0 7 f fd ["rules", "factors", "certificate"] (spV K cl 3 m_shows_relation) :=
  okV (N := ["rules", "factors", "certificate", "plains", "found", "number", "values"]) (ps := ["rules", "factors", "certificate"]) (k := 6) (fb := b_shows_relation) F sc_shows_relation (by decide) fun cdv A outer s H E hr =>
  (bx_cons (sx_set (i := 3) sc_shows_relation.nd rfl (by first | exact Or.inl rfl | exact Or.inr rfl) (ex_f C_plains_in hr (by decide) (fun _ _ h => runV_len h) rfl (ax_cons (ex_fz (ex_of_var (pv 0))) ax_nil)))
  (bx_cons (sx_if (tx_w (wx_or (tx_cmp op_isN ln_isN (ex_of_var (pv 3)) ex_non (nomark _)) (wx_or1 (tx_not (tx_val (ex_f C_are_integers hr (by decide) (fun _ _ h => runV_len h) rfl (ax_cons (ex_fz (ex_of_var (pv 1))) (ax_cons (ex_fz (ex_callB call_len ln_len rfl T.f_len bt_len (ax_cons (ex_of_var (pv 3)) ax_nil))) ax_nil)))))))) (bx_one (sx_ret ex_bl)) bx_nil)
  (bx_cons (sx_set (i := 4) sc_shows_relation.nd rfl (by first | exact Or.inl rfl | exact Or.inr rfl) (ex_f C_span_in hr (by decide) (fun _ _ h => runV_len h) rfl (ax_cons (ex_fz (ex_of_var (pv 2))) (ax_cons (ex_fz (ex_of_var (pv 3))) (ax_cons (ex_fz ex_non) ax_nil)))))
  (bx_one (sx_ret (ex_and (ex_cmp op_notN ln_notN (ex_of_var (pv 4)) ex_non (nomark _)) (ex_one (ex_callB (cr_all rfl) ln_all rfl T.f_all bt_all (ax_cons (ex_comp rfl sc_shows_relation.nd (ix_seq' (ex_of_var (pv 4))) (own := [(("number" : PySem.Str), 5), (("values" : PySem.Str), 6)]) (blk_ok (by kernel_rfl)) (fun _ _ _ _ _ => (gx_tup rfl (gxs_cons (gx_name (i := 5) sc_shows_relation.nd rfl (by first | exact Or.inl rfl | exact Or.inr rfl)) (gxs_cons (gx_name (i := 6) sc_shows_relation.nd rfl (by first | exact Or.inl rfl | exact Or.inr rfl)) gxs_nil)))) (fun _ _ _ _ _ => ptx_nil) (fun _ _ _ _ _ => (ex_f C_adds_to_nothing hr (by decide) (fun _ _ h => runV_len h) rfl (ax_cons (ex_fz (ex_of_var (pv 1))) (ax_cons (ex_fz (ex_of_var (pv 6))) ax_nil)))) (by decide)) ax_nil)))))))))
theorem sc_accepts : FnScope ["claim", "certificate", "word"] ["claim", "certificate"] (defScope (topS 37)) := ⟨rfl, rfl, rfl, by decide +kernel, rfl, by decide +kernel, by decide +kernel⟩
theorem ok_accepts (T : Txt w K mg cl) (C_shows_same : CalF P w K mg base cl 7 "shows_same" 3 m_shows_same) (C_shows_apart : CalF P w K mg base cl 7 "shows_apart" 4 m_shows_apart) (C_shows_parting : CalF P w K mg base cl 8 "shows_parting" 4 m_shows_parting) (C_shows_relation : CalF P w K mg base cl 7 "shows_relation" 3 m_shows_relation) {f : Addr} {fd : FuncData} (F : FunD K "accepts" "accepts" (defArgs (topS 37)) (defBody (topS 37)) (defScope (topS 37)) [] [] f fd) :
    FnOk P w K mg base CX0 9 f fd ["claim", "certificate"] (spV K cl 2 m_accepts) :=
  okV (N := ["claim", "certificate", "word"]) (ps := ["claim", "certificate"]) (k := 8) (fb := b_accepts) F sc_accepts (by decide) fun cdv A outer s H E hr =>
  (bx_cons (sx_if (tx_w (wx_or (tx_not (tx_val (ex_callB call_isi ln_isi rfl T.f_isinstance bt_isinstance (ax_cons (ex_of_var (pv 0)) (ax_cons (ex_tyname rfl T.f_tuple bt_tuple) ax_nil))))) (wx_or (tx_cmp (op_eqD (hu64 hr)) ln_eq (ex_of_var (pv 0)) (ex_tup ax_nil) (nomark _)) (wx_or1 (tx_not (tx_val (ex_callB call_isi ln_isi rfl T.f_isinstance bt_isinstance (ax_cons (ex_ix ix_lt ln_ix (ex_of_var (pv 0)) ex_int (by intro _ _; rfl)) (ax_cons (ex_tyname rfl T.f_str bt_str) ax_nil))))))))) (bx_one (sx_ret ex_bl)) bx_nil)
  (bx_cons (sx_set (i := 2) sc_accepts.nd rfl (by first | exact Or.inl rfl | exact Or.inr rfl) (ex_ix ix_lt ln_ix (ex_of_var (pv 0)) ex_int (by intro _ _; rfl)))
  (bx_cons (sx_if (tx_cmp (op_neD (hu64 hr)) ln_ne (ex_get T.d_SIZES (pe_glob rfl T.gd_SIZES rfl) (ex_of_var (pv 2)) ⟨rfl, rfl, rfl, rfl⟩) (ex_callB call_len ln_len rfl T.f_len bt_len (ax_cons (ex_of_var (pv 0)) ax_nil)) (nomark _)) (bx_one (sx_ret ex_bl)) bx_nil)
  (bx_cons (sx_if (tx_cmp (op_eqD (hu64 hr)) ln_eq (ex_of_var (pv 2)) ex_str (nomark _)) (bx_one (sx_ret (ex_f C_shows_same hr (by decide) (fun _ _ h => runV_len h) rfl (ax_cons (ex_fz (ex_ix ix_lt ln_ix (ex_of_var (pv 0)) ex_int (by intro _ _; rfl))) (ax_cons (ex_fz (ex_ix ix_lt ln_ix (ex_of_var (pv 0)) ex_int (by intro _ _; rfl))) (ax_cons (ex_fz (ex_of_var (pv 1))) ax_nil)))))) bx_nil)
  (bx_cons (sx_if (tx_cmp (op_eqD (hu64 hr)) ln_eq (ex_of_var (pv 2)) ex_str (nomark _)) (bx_one (sx_ret (ex_f C_shows_apart hr (by decide) (fun _ _ h => runV_len h) rfl (ax_cons (ex_fz (ex_ix ix_lt ln_ix (ex_of_var (pv 0)) ex_int (by intro _ _; rfl))) (ax_cons (ex_fz (ex_ix ix_lt ln_ix (ex_of_var (pv 0)) ex_int (by intro _ _; rfl))) (ax_cons (ex_fz (ex_ix ix_lt ln_ix (ex_of_var (pv 0)) ex_int (by intro _ _; rfl))) (ax_cons (ex_fz (ex_of_var (pv 1))) ax_nil))))))) bx_nil)
  (bx_cons (sx_if (tx_cmp (op_eqD (hu64 hr)) ln_eq (ex_of_var (pv 2)) ex_str (nomark _)) (bx_one (sx_ret (ex_f C_shows_parting hr (by decide) (fun _ _ h => runV_len h) rfl (ax_cons (ex_fz (ex_ix ix_lt ln_ix (ex_of_var (pv 0)) ex_int (by intro _ _; rfl))) (ax_cons (ex_fz (ex_ix ix_lt ln_ix (ex_of_var (pv 0)) ex_int (by intro _ _; rfl))) (ax_cons (ex_fz (ex_ix ix_lt ln_ix (ex_of_var (pv 0)) ex_int (by intro _ _; rfl))) (ax_cons (ex_fz (ex_of_var (pv 1))) ax_nil))))))) bx_nil)
  (bx_cons (sx_if (tx_cmp (op_eqD (hu64 hr)) ln_eq (ex_of_var (pv 2)) ex_str (nomark _)) (bx_one (sx_ret (ex_f C_shows_relation hr (by decide) (fun _ _ h => runV_len h) rfl (ax_cons (ex_fz (ex_ix ix_lt ln_ix (ex_of_var (pv 0)) ex_int (by intro _ _; rfl))) (ax_cons (ex_fz (ex_ix ix_lt ln_ix (ex_of_var (pv 0)) ex_int (by intro _ _; rfl))) (ax_cons (ex_fz (ex_of_var (pv 1))) ax_nil)))))) bx_nil)
  (bx_cons (sx_if (tx_cmp (op_eqD (hu64 hr)) ln_eq (ex_of_var (pv 2)) ex_str (nomark _)) (bx_one sx_never) bx_nil)
  (bx_one sx_never)))))))))
theorem sc__law_span_right : FnScope ["source", "rules", "by", "paper", "plains", "one", "due", "told"] ["source", "rules", "by"] (defScope (topS 63)) := ⟨rfl, rfl, rfl, by decide +kernel, rfl, by decide +kernel, by decide +kernel⟩
theorem ok__law_span_right (T : Txt w K mg cl) (C__law_paper : CalI P w K mg base cl 6 "_law_paper" 3 m__law_paper) (C__law_plain : CalF P w K mg base cl 1 "_law_plain" 1 m__law_plain) (C__law_is_span : CalF P w K mg base cl 4 "_law_is_span" 3 m__law_is_span) (C__law_sums : CalF P w K mg base cl 4 "_law_sums" 3 m__law_sums) (C_accepts : CalF P w K mg base cl 9 "accepts" 2 m_accepts) {f : Addr} {fd : FuncData} (F : FunD K "_law_span_right" "_law_span_right" (defArgs (topS 63)) (defBody (topS 63)) (defScope (topS 63)) [] [] f fd) :
    GFn P w K mg base 10 f fd ["source", "rules", "by"] (spI K cl 3 m__law_span_right) :=
  okIG (N := ["source", "rules", "by", "paper", "plains", "one", "due", "told"]) (ps := ["source", "rules", "by"]) (k := 9) (fb := b__law_span_right) F sc__law_span_right (by decide) fun cdv A outer s H E hG hr =>
  (bx_cons (by first | exact (sx_parT (is := [3, 4]) rfl (as_cons (ex_i C__law_paper hr (by decide) (fun _ _ _ h => runI_len h) rfl (ax_cons (ex_of_var (pv 0)) (ax_cons (ex_fz (ex_of_var (pv 1))) (ax_cons (ex_fz ex_non) ax_nil)))) (as_cons (ex_callTy call_tuple_of ln_tuple rfl T.f_tuple bt_tuple (ax_cons (ex_comp rfl sc__law_span_right.nd (ix_seq' (ex_of_var (pv 1))) (own := [(("one" : PySem.Str), 5)]) (blk_ok (by kernel_rfl)) (fun _ _ _ _ _ => (gx_name (i := 5) sc__law_span_right.nd rfl (by first | exact Or.inl rfl | exact Or.inr rfl))) (fun _ _ _ _ _ => ptx_nil) (fun _ _ _ _ _ => (ex_f C__law_plain hr (by decide) (fun _ _ h => runV_len h) rfl (ax_cons (ex_fz (ex_of_var (pv 5))) ax_nil))) (by decide)) ax_nil)) as_nil)) (pgs_cons (pg_name (i := 3) sc__law_span_right.nd rfl (by first | exact Or.inl rfl | exact Or.inr rfl)) (pgs_cons (pg_name (i := 4) sc__law_span_right.nd rfl (by first | exact Or.inl rfl | exact Or.inr rfl)) pgs_nil)) rfl (by decide)) | exact (sx_par2 (i := 3) (j := 4) rfl sc__law_span_right.nd rfl rfl (by decide) rfl rfl (as_cons (ex_i C__law_paper hr (by decide) (fun _ _ _ h => runI_len h) rfl (ax_cons (ex_of_var (pv 0)) (ax_cons (ex_fz (ex_of_var (pv 1))) (ax_cons (ex_fz ex_non) ax_nil)))) (as_cons (ex_callTy call_tuple_of ln_tuple rfl T.f_tuple bt_tuple (ax_cons (ex_comp rfl sc__law_span_right.nd (ix_seq' (ex_of_var (pv 1))) (own := [(("one" : PySem.Str), 5)]) (blk_ok (by kernel_rfl)) (fun _ _ _ _ _ => (gx_name (i := 5) sc__law_span_right.nd rfl (by first | exact Or.inl rfl | exact Or.inr rfl))) (fun _ _ _ _ _ => ptx_nil) (fun _ _ _ _ _ => (ex_f C__law_plain hr (by decide) (fun _ _ h => runV_len h) rfl (ax_cons (ex_fz (ex_of_var (pv 5))) ax_nil))) (by decide)) ax_nil)) as_nil)) (by rfl)))
  (bx_cons (sx_set (i := 6) sc__law_span_right.nd rfl (by first | exact Or.inl rfl | exact Or.inr rfl) (ex_and (ex_f C__law_is_span hr (by decide) (fun _ _ h => runV_len h) rfl (ax_cons (ex_fz (ex_of_var (pv 1))) (ax_cons (ex_fz (ex_of_var (pv 3))) (ax_cons (ex_fz ex_non) ax_nil)))) (ex_one (ex_cmp (op_eqD (hu64 hr)) ln_eq (ex_comp rfl sc__law_span_right.nd (ix_seq' (ex_f C__law_sums hr (by decide) (fun _ _ h => runV_len h) rfl (ax_cons (ex_fz (ex_of_var (pv 1))) (ax_cons (ex_fz (ex_of_var (pv 2))) (ax_cons (ex_fz (ex_ix ix_lt ln_ix (ex_of_var (pv 3)) ex_int (by intro _ _; rfl))) ax_nil))))) (own := [(("one" : PySem.Str), 5)]) (blk_ok (by kernel_rfl)) (fun _ _ _ _ _ => (gx_name (i := 5) sc__law_span_right.nd rfl (by first | exact Or.inl rfl | exact Or.inr rfl))) (fun _ _ _ _ _ => (ptx_one (tx_cmp (op_neD (hu64 hr)) ln_ne (ex_of_var (pv 5)) ex_int (nomark _)))) (fun _ _ _ _ _ => (ex_of_var (pv 5))) (by decide)) (ex_lst ax_nil) (nomark _)))))
  (bx_cons (sx_if (tx_w (wx_and (tx_val (ex_of_var (pv 6))) (wx_and1 (tx_cmp (op_neD (hu64 hr)) ln_ne (ex_f C__law_sums hr (by decide) (fun _ _ h => runV_len h) rfl (ax_cons (ex_fz (ex_of_var (pv 1))) (ax_cons (ex_fz (ex_of_var (pv 2))) (ax_cons (ex_fz (ex_lr rfl T.f_list rfl T.f_range ex_int rfl)) ax_nil)))) (ex_op op_mul2 ln_mul (ex_lst (ax_cons (ex_fz ex_int) ax_nil)) ex_int) (nomark _))))) (bx_one (sx_ret ex_bl)) bx_nil)
  (bx_cons (sx_set (i := 7) sc__law_span_right.nd rfl (by first | exact Or.inl rfl | exact Or.inr rfl) (ex_lst (ax_cons (ex_fz (ex_f C_accepts hr (by decide) (fun _ _ h => runV_len h) rfl (ax_cons (ex_fz (ex_tup (ax_cons (ex_fz ex_str) (ax_cons (ex_fz (ex_of_var (pv 4))) (ax_cons (ex_fz (ex_of_var (pv 2))) ax_nil))))) (ax_cons (ex_fz (ex_of_var (pv 3))) ax_nil)))) ax_nil)))
  (bx_cons (sx_if (tx_cmp (op_eqD (hu64 hr)) ln_eq (ex_of_var (pv 2)) (ex_tup (ax_cons (ex_fz ex_int) (ax_cons (ex_fz (ex_un un_neg ln_neg ex_int)) ax_nil))) (nomark _)) (bx_one (sx_app (pv 7) (ex_f C_accepts hr (by decide) (fun _ _ h => runV_len h) rfl (ax_cons (ex_fz (ex_tup (ax_cons (ex_fz ex_str) (ax_cons (ex_fz (ex_ix ix_lt ln_ix (ex_of_var (pv 4)) ex_int (by intro _ _; rfl))) (ax_cons (ex_fz (ex_ix ix_lt ln_ix (ex_of_var (pv 4)) ex_int (by intro _ _; rfl))) ax_nil))))) (ax_cons (ex_fz (ex_of_var (pv 3))) ax_nil))))) bx_nil)
  (bx_one (sx_ret (ex_cmp (op_eqD (hu64 hr)) ln_eq (ex_callB (call_repr hG (hu100 hr)) ln_repr rfl T.f_repr bt_repr (ax_cons (ex_of_var (pv 7)) ax_nil)) (ex_callB (call_repr hG (hu100 hr)) ln_repr rfl T.f_repr bt_repr (ax_cons (ex_op op_mul2 ln_mul (ex_lst (ax_cons (ex_fz (ex_of_var (pv 6))) ax_nil)) (ex_callB call_len ln_len rfl T.f_len bt_len (ax_cons (ex_of_var (pv 7)) ax_nil))) ax_nil)) (nomark _)))))))))
theorem sc__law_parting_right : FnScope ["source", "rules", "apart", "at", "limit", "paper", "due", "one"] ["source", "rules"] (defScope (topS 64)) := ⟨rfl, rfl, rfl, by decide +kernel, rfl, by decide +kernel, by decide +kernel⟩
theorem ok__law_parting_right (T : Txt w K mg cl) (C__law_sums : CalF P w K mg base cl 4 "_law_sums" 3 m__law_sums) (C__law_draw : CalI P w K mg base cl 1 "_law_draw" 2 m__law_draw) (C__law_paper : CalI P w K mg base cl 6 "_law_paper" 3 m__law_paper) (C__law_is_span : CalF P w K mg base cl 4 "_law_is_span" 3 m__law_is_span) (C__law_plain : CalF P w K mg base cl 1 "_law_plain" 1 m__law_plain) (C_accepts : CalF P w K mg base cl 9 "accepts" 2 m_accepts) {f : Addr} {fd : FuncData} (F : FunD K "_law_parting_right" "_law_parting_right" (defArgs (topS 64)) (defBody (topS 64)) (defScope (topS 64)) [] [] f fd) :
    GFn P w K mg base 10 f fd ["source", "rules"] (spI K cl 2 m__law_parting_right) :=
  okIG (N := ["source", "rules", "apart", "at", "limit", "paper", "due", "one"]) (ps := ["source", "rules"]) (k := 9) (fb := b__law_parting_right) F sc__law_parting_right (by decide) fun cdv A outer s H E hG hr =>
  (bx_cons (by first | exact (sx_set (i := 2) sc__law_parting_right.nd rfl (by first | exact Or.inl rfl | exact Or.inr rfl) (ex_comp rfl sc__law_parting_right.nd (ix_range1 rfl T.f_range (ax_cons ex_int ax_nil)) (own := [(("at" : PySem.Str), 3)]) (blk_ok (by kernel_rfl)) (fun _ _ _ _ _ => (gx_name (i := 3) sc__law_parting_right.nd rfl (by first | exact Or.inl rfl | exact Or.inr rfl))) (fun _ _ _ _ _ => (ptx_one (tx_cmp (op_neD (hu64 hr)) ln_ne (ex_f C__law_sums hr (by decide) (fun _ _ h => runV_len h) rfl (ax_cons (ex_fz (ex_of_var (pv 1))) (ax_cons (ex_fz (ex_tup (ax_cons (ex_fz ex_int) (ax_cons (ex_fz (ex_un un_neg ln_neg ex_int)) ax_nil)))) (ax_cons (ex_fz (ex_lst (ax_cons (ex_fz (ex_of_var (pv 3))) ax_nil))) ax_nil)))) (ex_lst (ax_cons (ex_fz ex_int) ax_nil)) (nomark _)))) (fun _ _ _ _ _ => (ex_of_var (pv 3))) (by decide))) | exact (sx_comp (i := 2) rfl sc__law_parting_right.nd rfl rfl (by rfl) (ix_range1 rfl T.f_range (ax_cons ex_int ax_nil)) (own := [(("at" : PySem.Str), 3)]) (blk_ok (by kernel_rfl)) (fun _ _ _ _ _ => (gx_name (i := 3) sc__law_parting_right.nd rfl (by first | exact Or.inl rfl | exact Or.inr rfl))) (fun _ _ _ _ _ => (ptx_one (tx_cmp (op_neD (hu64 hr)) ln_ne (ex_f C__law_sums hr (by decide) (fun _ _ h => runV_len h) rfl (ax_cons (ex_fz (ex_of_var (pv 1))) (ax_cons (ex_fz (ex_tup (ax_cons (ex_fz ex_int) (ax_cons (ex_fz (ex_un un_neg ln_neg ex_int)) ax_nil)))) (ax_cons (ex_fz (ex_lst (ax_cons (ex_fz (ex_of_var (pv 3))) ax_nil))) ax_nil)))) (ex_lst (ax_cons (ex_fz ex_int) ax_nil)) (nomark _)))) (fun _ _ _ _ _ => (ex_of_var (pv 3))) (by decide)))
  (bx_cons (sx_set (i := 4) sc__law_parting_right.nd rfl (by first | exact Or.inl rfl | exact Or.inr rfl) (ex_if (tx_w (wx_and (tx_cmp (op_neD (hu64 hr)) ln_ne (ex_of_var (pv 2)) (ex_lst ax_nil) (nomark _)) (wx_and1 (tx_cmp op_gt ln_cmp (ex_i C__law_draw hr (by decide) (fun _ _ _ h => runI_len h) rfl (ax_cons (ex_of_var (pv 0)) (ax_cons (ex_fz ex_int) ax_nil))) ex_int (nomark _))))) (ex_ix ix_lt ln_ix (ex_of_var (pv 2)) ex_int (by intro _ _; rfl)) (ex_i C__law_draw hr (by decide) (fun _ _ _ h => runI_len h) rfl (ax_cons (ex_of_var (pv 0)) (ax_cons (ex_fz ex_int) ax_nil)))))
  (bx_cons (sx_set (i := 5) sc__law_parting_right.nd rfl (by first | exact Or.inl rfl | exact Or.inr rfl) (ex_i C__law_paper hr (by decide) (fun _ _ _ h => runI_len h) rfl (ax_cons (ex_of_var (pv 0)) (ax_cons (ex_fz (ex_of_var (pv 1))) (ax_cons (ex_fz (ex_of_var (pv 4))) ax_nil)))))
  (bx_cons (sx_set (i := 6) sc__law_parting_right.nd rfl (by first | exact Or.inl rfl | exact Or.inr rfl) (ex_and (ex_f C__law_is_span hr (by decide) (fun _ _ h => runV_len h) rfl (ax_cons (ex_fz (ex_of_var (pv 1))) (ax_cons (ex_fz (ex_of_var (pv 5))) (ax_cons (ex_fz (ex_of_var (pv 4))) ax_nil)))) (ex_and (ex_cmp op_in_seq ln_in (ex_of_var (pv 4)) (ex_of_var (pv 2)) (by rfl)) (ex_one (ex_cmp (op_eqD (hu64 hr)) ln_eq (ex_comp rfl sc__law_parting_right.nd (ix_seq' (ex_ix ix_lt ln_ix (ex_of_var (pv 5)) ex_int (by intro _ _; rfl))) (own := [(("at" : PySem.Str), 3)]) (blk_ok (by kernel_rfl)) (fun _ _ _ _ _ => (gx_name (i := 3) sc__law_parting_right.nd rfl (by first | exact Or.inl rfl | exact Or.inr rfl))) (fun _ _ _ _ _ => (ptx_one (tx_cmp op_ge ln_cmp (ex_of_var (pv 3)) (ex_of_var (pv 4)) (nomark _)))) (fun _ _ _ _ _ => (ex_of_var (pv 3))) (by decide)) (ex_lst ax_nil) (nomark _))))))
  (bx_cons (sx_set (i := 6) sc__law_parting_right.nd rfl (by first | exact Or.inl rfl | exact Or.inr rfl) (ex_and (ex_of_var (pv 6)) (ex_one (ex_cmp (op_eqD (hu64 hr)) ln_eq (ex_comp rfl sc__law_parting_right.nd (ix_seq' (ex_f C__law_sums hr (by decide) (fun _ _ h => runV_len h) rfl (ax_cons (ex_fz (ex_of_var (pv 1))) (ax_cons (ex_fz (ex_tup (ax_cons (ex_fz ex_int) (ax_cons (ex_fz (ex_un un_neg ln_neg ex_int)) ax_nil)))) (ax_cons (ex_fz (ex_ix ix_lt ln_ix (ex_of_var (pv 5)) ex_int (by intro _ _; rfl))) ax_nil))))) (own := [(("one" : PySem.Str), 7)]) (blk_ok (by kernel_rfl)) (fun _ _ _ _ _ => (gx_name (i := 7) sc__law_parting_right.nd rfl (by first | exact Or.inl rfl | exact Or.inr rfl))) (fun _ _ _ _ _ => (ptx_one (tx_cmp (op_neD (hu64 hr)) ln_ne (ex_of_var (pv 7)) ex_int (nomark _)))) (fun _ _ _ _ _ => (ex_of_var (pv 7))) (by decide)) (ex_lst ax_nil) (nomark _)))))
  (bx_cons (sx_if (tx_w (wx_and (tx_val (ex_of_var (pv 6))) (wx_and1 (tx_cmp (op_neD (hu64 hr)) ln_ne (ex_of_var (pv 4)) (ex_ix ix_lt ln_ix (ex_of_var (pv 2)) ex_int (by intro _ _; rfl)) (nomark _))))) (bx_one (sx_ret ex_bl)) bx_nil)
  (bx_cons (sx_set (i := 7) sc__law_parting_right.nd rfl (by first | exact Or.inl rfl | exact Or.inr rfl) (ex_tup (ax_cons (ex_fz ex_str) (ax_cons (ex_fz (ex_f C__law_plain hr (by decide) (fun _ _ h => runV_len h) rfl (ax_cons (ex_fz (ex_ix ix_lt ln_ix (ex_of_var (pv 1)) ex_int (by intro _ _; rfl))) ax_nil))) (ax_cons (ex_fz (ex_f C__law_plain hr (by decide) (fun _ _ h => runV_len h) rfl (ax_cons (ex_fz (ex_ix ix_lt ln_ix (ex_of_var (pv 1)) ex_int (by intro _ _; rfl))) ax_nil))) (ax_cons (ex_fz (ex_of_var (pv 4))) ax_nil))))))
  (bx_one (sx_ret (ex_cmp (op_eqD (hu64 hr)) ln_eq (ex_callB (call_repr hG (hu100 hr)) ln_repr rfl T.f_repr bt_repr (ax_cons (ex_f C_accepts hr (by decide) (fun _ _ h => runV_len h) rfl (ax_cons (ex_fz (ex_of_var (pv 7))) (ax_cons (ex_fz (ex_of_var (pv 5))) ax_nil))) ax_nil)) (ex_callB (call_repr hG (hu100 hr)) ln_repr rfl T.f_repr bt_repr (ax_cons (ex_of_var (pv 6)) ax_nil)) (nomark _)))))))))))
theorem sc__law_right : FnScope ["source", "some", "other", "way", "by", "rules"] ["source"] (defScope (topS 65)) := ⟨rfl, rfl, rfl, by decide +kernel, rfl, by decide +kernel, by decide +kernel⟩
theorem ok__law_right (T : Txt w K mg cl) (C__law_small : CalI P w K mg base cl 5 "_law_small" 3 m__law_small) (C__law_draw : CalI P w K mg base cl 1 "_law_draw" 2 m__law_draw) (C__law_row : CalI P w K mg base cl 3 "_law_row" 3 m__law_row) (C__law_span_right : CalJ P w K mg base cl 10 "_law_span_right" 3 m__law_span_right) (C__law_parting_right : CalJ P w K mg base cl 10 "_law_parting_right" 2 m__law_parting_right) {f : Addr} {fd : FuncData} (F : FunD K "_law_right" "_law_right" (defArgs (topS 65)) (defBody (topS 65)) (defScope (topS 65)) [] [] f fd) :
    GFn P w K mg base 11 f fd ["source"] (spI K cl 1 m__law_right) :=
  okIG (N := ["source", "some", "other", "way", "by", "rules"]) (ps := ["source"]) (k := 10) (fb := b__law_right) F sc__law_right (by decide) fun cdv A outer s H E hG hr =>
  (bx_cons (sx_set (i := 1) sc__law_right.nd rfl (by first | exact Or.inl rfl | exact Or.inr rfl) (ex_i C__law_small hr (by decide) (fun _ _ _ h => runI_len h) rfl (ax_cons (ex_of_var (pv 0)) (ax_cons (ex_fz (ex_op op_add3 ln_add ex_int (ex_i C__law_draw hr (by decide) (fun _ _ _ h => runI_len h) rfl (ax_cons (ex_of_var (pv 0)) (ax_cons (ex_fz ex_int) ax_nil))))) (ax_cons (ex_fz (ex_op op_add3 ln_add ex_int (ex_i C__law_draw hr (by decide) (fun _ _ _ h => runI_len h) rfl (ax_cons (ex_of_var (pv 0)) (ax_cons (ex_fz ex_int) ax_nil))))) ax_nil)))))
  (bx_cons (sx_set (i := 2) sc__law_right.nd rfl (by first | exact Or.inl rfl | exact Or.inr rfl) (ex_i C__law_small hr (by decide) (fun _ _ _ h => runI_len h) rfl (ax_cons (ex_of_var (pv 0)) (ax_cons (ex_fz (ex_op op_add3 ln_add ex_int (ex_i C__law_draw hr (by decide) (fun _ _ _ h => runI_len h) rfl (ax_cons (ex_of_var (pv 0)) (ax_cons (ex_fz ex_int) ax_nil))))) (ax_cons (ex_fz ex_int) ax_nil)))))
  (bx_cons (by first | exact (sx_parT (is := [3, 4]) rfl (as_cons (ex_i C__law_draw hr (by decide) (fun _ _ _ h => runI_len h) rfl (ax_cons (ex_of_var (pv 0)) (ax_cons (ex_fz ex_int) ax_nil))) (as_cons (ex_tup (ax_cons (ex_fz (ex_op op_sub ln_sub (ex_i C__law_draw hr (by decide) (fun _ _ _ h => runI_len h) rfl (ax_cons (ex_of_var (pv 0)) (ax_cons (ex_fz ex_int) ax_nil))) ex_int)) (ax_cons (ex_fz (ex_op op_sub ln_sub (ex_i C__law_draw hr (by decide) (fun _ _ _ h => runI_len h) rfl (ax_cons (ex_of_var (pv 0)) (ax_cons (ex_fz ex_int) ax_nil))) ex_int)) ax_nil))) as_nil)) (pgs_cons (pg_name (i := 3) sc__law_right.nd rfl (by first | exact Or.inl rfl | exact Or.inr rfl)) (pgs_cons (pg_name (i := 4) sc__law_right.nd rfl (by first | exact Or.inl rfl | exact Or.inr rfl)) pgs_nil)) rfl (by decide)) | exact (sx_par2 (i := 3) (j := 4) rfl sc__law_right.nd rfl rfl (by decide) rfl rfl (as_cons (ex_i C__law_draw hr (by decide) (fun _ _ _ h => runI_len h) rfl (ax_cons (ex_of_var (pv 0)) (ax_cons (ex_fz ex_int) ax_nil))) (as_cons (ex_tup (ax_cons (ex_fz (ex_op op_sub ln_sub (ex_i C__law_draw hr (by decide) (fun _ _ _ h => runI_len h) rfl (ax_cons (ex_of_var (pv 0)) (ax_cons (ex_fz ex_int) ax_nil))) ex_int)) (ax_cons (ex_fz (ex_op op_sub ln_sub (ex_i C__law_draw hr (by decide) (fun _ _ _ h => runI_len h) rfl (ax_cons (ex_of_var (pv 0)) (ax_cons (ex_fz ex_int) ax_nil))) ex_int)) ax_nil))) as_nil)) (by rfl)))
  (bx_cons (sx_if (tx_cmp (op_eqD (hu64 hr)) ln_eq (ex_of_var (pv 3)) ex_int (nomark _)) (bx_one (sx_set (i := 2) sc__law_right.nd rfl (by first | exact Or.inl rfl | exact Or.inr rfl) (ex_of_var (pv 1)))) bx_nil)
  (bx_cons (sx_if (tx_cmp (op_eqD (hu64 hr)) ln_eq (ex_of_var (pv 3)) ex_int (nomark _)) (bx_one (sx_set (i := 2) sc__law_right.nd rfl (by first | exact Or.inl rfl | exact Or.inr rfl) (ex_tup (ax_cons (ex_fz (ex_ix ix_lt ln_ix (ex_of_var (pv 1)) ex_int (by intro _ _; rfl))) (ax_cons (ex_fz (ex_ix ix_lt ln_ix (ex_of_var (pv 1)) ex_int (by intro _ _; rfl))) (ax_cons (ex_fz (ex_ix ix_lt ln_ix (ex_of_var (pv 1)) ex_int (by intro _ _; rfl))) (ax_cons (ex_fz (ex_i C__law_row hr (by decide) (fun _ _ _ h => runI_len h) rfl (ax_cons (ex_of_var (pv 0)) (ax_cons (ex_fz (ex_callB call_len ln_len rfl T.f_len bt_len (ax_cons (ex_ix ix_lt ln_ix (ex_of_var (pv 1)) ex_int (by intro _ _; rfl)) ax_nil))) (ax_cons (ex_fz ex_int) ax_nil))))) ax_nil))))))) bx_nil)
  (bx_cons (sx_set (i := 5) sc__law_right.nd rfl (by first | exact Or.inl rfl | exact Or.inr rfl) (ex_lst (ax_cons (ex_fz (ex_of_var (pv 1))) (ax_cons (ex_fz (ex_of_var (pv 2))) ax_nil))))
  (bx_cons (sx_if (tx_w (wx_or (tx_not (tx_val (ex_j C__law_span_right hG hr (by decide) (fun _ _ _ h => runI_len h) rfl (ax_cons (ex_of_var (pv 0)) (ax_cons (ex_fz (ex_of_var (pv 5))) (ax_cons (ex_fz (ex_tup (ax_cons (ex_fz ex_int) (ax_cons (ex_fz (ex_un un_neg ln_neg ex_int)) ax_nil)))) ax_nil)))))) (wx_or1 (tx_not (tx_val (ex_j C__law_span_right hG hr (by decide) (fun _ _ _ h => runI_len h) rfl (ax_cons (ex_of_var (pv 0)) (ax_cons (ex_fz (ex_of_var (pv 5))) (ax_cons (ex_fz (ex_of_var (pv 4))) ax_nil))))))))) (bx_one (sx_ret ex_bl)) bx_nil)
  (bx_one (sx_ret (ex_and (ex_j C__law_parting_right hG hr (by decide) (fun _ _ _ h => runI_len h) rfl (ax_cons (ex_of_var (pv 0)) (ax_cons (ex_fz (ex_of_var (pv 5))) ax_nil))) (ex_one (ex_j C__law_parting_right hG hr (by decide) (fun _ _ _ h => runI_len h) rfl (ax_cons (ex_of_var (pv 0)) (ax_cons (ex_fz (ex_of_var (pv 5))) ax_nil))))))))))))))
theorem sc_law : FnScope ["cells", "spot", "source", "turn"] ["cells"] (defScope (topS 66)) := ⟨rfl, rfl, rfl, by decide +kernel, rfl, by decide +kernel, by decide +kernel⟩
theorem ok_law (T : Txt w K mg cl) (C__law_source : CalF P w K mg base cl 1 "_law_source" 1 m__law_source) (C__law_cell : CalF P w K mg base cl 1 "_law_cell" 2 m__law_cell) (C__law_right : CalJ P w K mg base cl 11 "_law_right" 1 m__law_right) {f : Addr} {fd : FuncData} (F : FunD K "law" "law" (defArgs (topS 66)) (defBody (topS 66)) (defScope (topS 66)) [] [] f fd) :
    GFn P w K mg base 12 f fd ["cells"] (spV K cl 1 m_law) :=
  okVG (N := ["cells", "spot", "source", "turn"]) (ps := ["cells"]) (k := 11) (fb := b_law) F sc_law (by decide) fun cdv A outer s H E hG hr =>
  (bx_cons (sx_for PassesOwn.never rfl (ix_range1 rfl T.f_range (ax_cons (ex_callB (call_max2 rfl) ln_max2 rfl T.f_max bt_max (ax_cons ex_int (ax_cons (ex_callB (call_min2 rfl) ln_min2 rfl T.f_min bt_min (ax_cons (ex_callB call_len ln_len rfl T.f_len bt_len (ax_cons (ex_of_var (pv 0)) ax_nil)) (ax_cons ex_int ax_nil))) ax_nil))) ax_nil)) (gx_name (i := 1) sc_law.nd rfl (by first | exact Or.inl rfl | exact Or.inr rfl)) (bx_cons (sx_set (i := 2) sc_law.nd rfl (by first | exact Or.inl rfl | exact Or.inr rfl) (ex_f C__law_source hr (by decide) (fun _ _ h => runV_len h) rfl (ax_cons (ex_fz (ex_f C__law_cell hr (by decide) (fun _ _ h => runV_len h) rfl (ax_cons (ex_fz (ex_of_var (pv 0))) (ax_cons (ex_fz (ex_of_var (pv 1))) ax_nil)))) ax_nil)))
  (bx_one (sx_if (tx_not (tx_val (ex_callB (cr_all rfl) ln_all rfl T.f_all bt_all (ax_cons (ex_comp rfl sc_law.nd (ix_range1 rfl T.f_range (ax_cons ex_int ax_nil)) (own := [(("turn" : PySem.Str), 3)]) (blk_ok (by kernel_rfl)) (fun _ _ _ _ _ => (gx_name (i := 3) sc_law.nd rfl (by first | exact Or.inl rfl | exact Or.inr rfl))) (fun _ _ _ _ _ => ptx_nil) (fun _ _ _ _ _ => (ex_j C__law_right hG hr (by decide) (fun _ _ _ h => runI_len h) rfl (ax_cons (ex_of_var (pv 2)) ax_nil))) (by decide)) ax_nil)))) (bx_one (sx_ret ex_bl)) bx_nil))))
  (bx_one (sx_ret ex_bl)))
end
end VL

set_option Elab.async false
set_option linter.all false
set_option maxRecDepth 100000
set_option maxHeartbeats 1000000
/-! Ga: the defs as the head tells of them (printed by genhead.py). -/
namespace VL
open PySem PySem.Spec PyProof.Rows L2
def d__law_source : He.DefD := ⟨("_law_source", none), "_law_source", "_law_source", defArgs (topS 40), defBody (topS 40), defScope (topS 40), [], []⟩
def d__law_cell : He.DefD := ⟨("_law_cell", none), "_law_cell", "_law_cell", defArgs (topS 39), defBody (topS 39), defScope (topS 39), [], []⟩
def d__law_draw : He.DefD := ⟨("_law_draw", none), "_law_draw", "_law_draw", defArgs (topS 41), defBody (topS 41), defScope (topS 41), [], []⟩
def d__law_number : He.DefD := ⟨("_law_number", none), "_law_number", "_law_number", defArgs (topS 46), defBody (topS 46), defScope (topS 46), [], []⟩
def d__law_row : He.DefD := ⟨("_law_row", none), "_law_row", "_law_row", defArgs (topS 47), defBody (topS 47), defScope (topS 47), [], []⟩
def d__law_image : He.DefD := ⟨("_law_image", none), "_law_image", "_law_image", defArgs (topS 42), defBody (topS 42), defScope (topS 42), [], []⟩
def d__law_rule : He.DefD := ⟨("_law_rule", none), "_law_rule", "_law_rule", defArgs (topS 48), defBody (topS 48), defScope (topS 48), [], []⟩
def d__law_small : He.DefD := ⟨("_law_small", none), "_law_small", "_law_small", defArgs (topS 57), defBody (topS 57), defScope (topS 57), [], []⟩
def d__law_digits : He.DefD := ⟨("_law_digits", none), "_law_digits", "_law_digits", defArgs (topS 43), defBody (topS 43), defScope (topS 43), [], []⟩
def d__law_lines : He.DefD := ⟨("_law_lines", none), "_law_lines", "_law_lines", defArgs (topS 44), defBody (topS 44), defScope (topS 44), [], []⟩
def d__law_joint : He.DefD := ⟨("_law_joint", none), "_law_joint", "_law_joint", defArgs (topS 50), defBody (topS 50), defScope (topS 50), [], []⟩
def d__law_divisor : He.DefD := ⟨("_law_divisor", none), "_law_divisor", "_law_divisor", defArgs (topS 51), defBody (topS 51), defScope (topS 51), [], []⟩
def d__law_thin : He.DefD := ⟨("_law_thin", none), "_law_thin", "_law_thin", defArgs (topS 52), defBody (topS 52), defScope (topS 52), [], []⟩
def d__law_cleared : He.DefD := ⟨("_law_cleared", none), "_law_cleared", "_law_cleared", defArgs (topS 54), defBody (topS 54), defScope (topS 54), [], []⟩
def d__law_fraction : He.DefD := ⟨("_law_fraction", none), "_law_fraction", "_law_fraction", defArgs (topS 53), defBody (topS 53), defScope (topS 53), [], []⟩
def d__law_factors : He.DefD := ⟨("_law_factors", none), "_law_factors", "_law_factors", defArgs (topS 55), defBody (topS 55), defScope (topS 55), [], []⟩
def d__law_kept : He.DefD := ⟨("_law_kept", none), "_law_kept", "_law_kept", defArgs (topS 56), defBody (topS 56), defScope (topS 56), [], []⟩
def d__law_drawn_row : He.DefD := ⟨("_law_drawn_row", none), "_law_drawn_row", "_law_drawn_row", defArgs (topS 58), defBody (topS 58), defScope (topS 58), [], []⟩
def d__law_paper : He.DefD := ⟨("_law_paper", none), "_law_paper", "_law_paper", defArgs (topS 59), defBody (topS 59), defScope (topS 59), [], []⟩
def d__law_plain : He.DefD := ⟨("_law_plain", none), "_law_plain", "_law_plain", defArgs (topS 49), defBody (topS 49), defScope (topS 49), [], []⟩
def d__law_makes : He.DefD := ⟨("_law_makes", none), "_law_makes", "_law_makes", defArgs (topS 60), defBody (topS 60), defScope (topS 60), [], []⟩
def d__law_is_span : He.DefD := ⟨("_law_is_span", none), "_law_is_span", "_law_is_span", defArgs (topS 61), defBody (topS 61), defScope (topS 61), [], []⟩
def d__law_at : He.DefD := ⟨("_law_at", none), "_law_at", "_law_at", defArgs (topS 45), defBody (topS 45), defScope (topS 45), [], []⟩
def d__law_sums : He.DefD := ⟨("_law_sums", none), "_law_sums", "_law_sums", defArgs (topS 62), defBody (topS 62), defScope (topS 62), [], []⟩
def d_is_integer : He.DefD := ⟨("is_integer", none), "is_integer", "is_integer", defArgs (topS 2), defBody (topS 2), defScope (topS 2), [], []⟩
def d_are_integers : He.DefD := ⟨("are_integers", none), "are_integers", "are_integers", defArgs (topS 3), defBody (topS 3), defScope (topS 3), [], []⟩
def d_divisor_of : He.DefD := ⟨("divisor_of", none), "divisor_of", "divisor_of", defArgs (topS 4), defBody (topS 4), defScope (topS 4), [], []⟩
def d_is_fraction : He.DefD := ⟨("is_fraction", none), "is_fraction", "is_fraction", defArgs (topS 5), defBody (topS 5), defScope (topS 5), [], []⟩
def d_are_fractions : He.DefD := ⟨("are_fractions", none), "are_fractions", "are_fractions", defArgs (topS 6), defBody (topS 6), defScope (topS 6), [], []⟩
def d_common_bottom : He.DefD := ⟨("common_bottom", none), "common_bottom", "common_bottom", defArgs (topS 7), defBody (topS 7), defScope (topS 7), [], []⟩
def d_times_bottom : He.DefD := ⟨("times_bottom", none), "times_bottom", "times_bottom", defArgs (topS 8), defBody (topS 8), defScope (topS 8), [], []⟩
def d_Plain_init : He.DefD := ⟨("Plain", some "__init__"), "__init__", "Plain.__init__", defArgs (inClass (topS 10) 0), defBody (inClass (topS 10) 0), defScope (inClass (topS 10) 0), [], []⟩
def d_lowest : He.DefD := ⟨("lowest", none), "lowest", "lowest", defArgs (topS 11), defBody (topS 11), defScope (topS 11), [], []⟩
def d_sum_by : He.DefD := ⟨("sum_by", none), "sum_by", "sum_by", defArgs (topS 9), defBody (topS 9), defScope (topS 9), [], []⟩
def d_Plain_later : He.DefD := ⟨("Plain", some "later"), "later", "Plain.later", defArgs (inClass (topS 10) 2), defBody (inClass (topS 10) 2), defScope (inClass (topS 10) 2), [], []⟩
def d_Plain_fits : He.DefD := ⟨("Plain", some "fits"), "fits", "Plain.fits", defArgs (inClass (topS 10) 1), defBody (inClass (topS 10) 1), defScope (inClass (topS 10) 1), [], []⟩
def d_plain_in : He.DefD := ⟨("plain_in", none), "plain_in", "plain_in", defArgs (topS 12), defBody (topS 12), defScope (topS 12), [], []⟩
def d_plains_in : He.DefD := ⟨("plains_in", none), "plains_in", "plains_in", defArgs (topS 13), defBody (topS 13), defScope (topS 13), [], []⟩
def d_are_ascending : He.DefD := ⟨("are_ascending", none), "are_ascending", "are_ascending", defArgs (topS 16), defBody (topS 16), defScope (topS 16), [], []⟩
def d_Plain_point_at : He.DefD := ⟨("Plain", some "point_at"), "point_at", "Plain.point_at", defArgs (inClass (topS 10) 3), defBody (inClass (topS 10) 3), defScope (inClass (topS 10) 3), [], []⟩
def d_makes : He.DefD := ⟨("makes", none), "makes", "makes", defArgs (topS 17), defBody (topS 17), defScope (topS 17), [], []⟩
def d_is_row : He.DefD := ⟨("is_row", none), "is_row", "is_row", defArgs (topS 18), defBody (topS 18), defScope (topS 18), [], []⟩
def d_begins_well : He.DefD := ⟨("begins_well", none), "begins_well", "begins_well", defArgs (topS 19), defBody (topS 19), defScope (topS 19), [], []⟩
def d_Plain_told_by : He.DefD := ⟨("Plain", some "told_by"), "told_by", "Plain.told_by", defArgs (inClass (topS 10) 4), defBody (inClass (topS 10) 4), defScope (inClass (topS 10) 4), [], []⟩
def d_span_in : He.DefD := ⟨("span_in", none), "span_in", "span_in", defArgs (topS 20), defBody (topS 20), defScope (topS 20), [], []⟩
def d_shows_same : He.DefD := ⟨("shows_same", none), "shows_same", "shows_same", defArgs (topS 26), defBody (topS 26), defScope (topS 26), [], []⟩
def d_are_apart : He.DefD := ⟨("are_apart", none), "are_apart", "are_apart", defArgs (topS 27), defBody (topS 27), defScope (topS 27), [], []⟩
def d_shows_apart : He.DefD := ⟨("shows_apart", none), "shows_apart", "shows_apart", defArgs (topS 28), defBody (topS 28), defScope (topS 28), [], []⟩
def d_shows_parting : He.DefD := ⟨("shows_parting", none), "shows_parting", "shows_parting", defArgs (topS 29), defBody (topS 29), defScope (topS 29), [], []⟩
def d_adds_to_nothing : He.DefD := ⟨("adds_to_nothing", none), "adds_to_nothing", "adds_to_nothing", defArgs (topS 30), defBody (topS 30), defScope (topS 30), [], []⟩
def d_shows_relation : He.DefD := ⟨("shows_relation", none), "shows_relation", "shows_relation", defArgs (topS 31), defBody (topS 31), defScope (topS 31), [], []⟩
def d_accepts : He.DefD := ⟨("accepts", none), "accepts", "accepts", defArgs (topS 37), defBody (topS 37), defScope (topS 37), [], []⟩
def d__law_span_right : He.DefD := ⟨("_law_span_right", none), "_law_span_right", "_law_span_right", defArgs (topS 63), defBody (topS 63), defScope (topS 63), [], []⟩
def d__law_parting_right : He.DefD := ⟨("_law_parting_right", none), "_law_parting_right", "_law_parting_right", defArgs (topS 64), defBody (topS 64), defScope (topS 64), [], []⟩
def d__law_right : He.DefD := ⟨("_law_right", none), "_law_right", "_law_right", defArgs (topS 65), defBody (topS 65), defScope (topS 65), [], []⟩
def d_law : He.DefD := ⟨("law", none), "law", "law", defArgs (topS 66), defBody (topS 66), defScope (topS 66), [], []⟩
def fn0 : List He.DefD := [d__law_source, d__law_cell, d__law_draw, d__law_number, d__law_row, d__law_image, d__law_rule, d__law_small, d__law_digits, d__law_lines, d__law_joint, d__law_divisor, d__law_thin, d__law_cleared, d__law_fraction, d__law_factors, d__law_kept, d__law_drawn_row, d__law_paper, d__law_plain, d__law_makes, d__law_is_span, d__law_at, d__law_sums, d_is_integer, d_are_integers, d_divisor_of, d_is_fraction, d_are_fractions, d_common_bottom]
def fn1 : List He.DefD := [d_times_bottom, d_Plain_init, d_lowest, d_sum_by, d_Plain_later, d_Plain_fits, d_plain_in, d_plains_in, d_are_ascending, d_Plain_point_at, d_makes, d_is_row, d_begins_well, d_Plain_told_by, d_span_in, d_shows_same, d_are_apart, d_shows_apart, d_shows_parting, d_adds_to_nothing, d_shows_relation, d_accepts, d__law_span_right, d__law_parting_right, d__law_right, d_law]
def fnL : List He.DefD := fn0 ++ fn1
def fa0 : List He.Fa := [.glo "_law_source", .glo "_law_cell", .glo "_law_draw", .glo "_law_number", .glo "_law_row", .glo "_law_image", .glo "_law_rule", .glo "_law_small", .glo "_law_digits", .glo "_law_lines", .glo "_law_joint", .glo "_law_divisor", .glo "_law_thin", .glo "_law_cleared", .glo "_law_fraction", .glo "_law_factors", .glo "_law_kept", .glo "_law_drawn_row", .glo "_law_paper", .glo "_law_plain", .glo "_law_makes", .glo "_law_is_span", .glo "_law_at", .glo "_law_sums", .glo "is_integer", .glo "are_integers", .glo "divisor_of", .glo "is_fraction", .glo "are_fractions", .glo "common_bottom"]
def fa1 : List He.Fa := [.glo "times_bottom", .glo "lowest", .glo "sum_by", .glo "plain_in", .glo "plains_in", .glo "are_ascending", .glo "makes", .glo "is_row", .glo "begins_well", .glo "span_in", .glo "shows_same", .glo "are_apart", .glo "shows_apart", .glo "shows_parting", .glo "adds_to_nothing", .glo "shows_relation", .glo "accepts", .glo "_law_span_right", .glo "_law_parting_right", .glo "_law_right", .glo "law", .glo "Plain", .glo "SIZES", .free "abs", .free "all", .free "any", .free "bool", .free "divmod", .free "enumerate", .free "int"]
def fa2 : List He.Fa := [.free "isinstance", .free "len", .free "list", .free "max", .free "min", .free "range", .free "repr", .free "str", .free "sum", .free "tuple", .free "zip", .cls "Plain", .mkr "Plain", .meth "Plain" "later", .meth "Plain" "fits", .meth "Plain" "point_at", .meth "Plain" "told_by", .noat "Plain" "bottoms", .noat "Plain" "row", .noat "Plain" "sides", .noat "Plain" "starts", .noat "Plain" "under", .int "LARGEST" (10 ^ 300), .int "MOST_LINES" 100, .int "MOST_NUMBERS" 200]
def faL : List He.Fa := fa0 ++ fa1 ++ fa2
def tsL : List He.Tab := [((fun K => He.ga K "SIZES"), ["same", "apart", "parting", "relation", "rests", "told"])]
def kv_SIZES : List (PySem.Str × He.Dv) := [("same", .int 3), ("apart", .int 4), ("parting", .int 4), ("relation", .int 3), ("rests", .int 4), ("told", .int 3)]
def exB (K : PySem.W.Frag) : Bool := He.eqO (PySem.W.findIn K (.ref (He.ga K "Plain")) "__eq__") (some (some (.builtin "object.__eq__"))) && He.valsB K (He.ga K "SIZES") kv_SIZES
def clF (K : PySem.W.Frag) (n : Nat) : Addr := match n with
  | 0 => He.ga K "Plain"
  | _ => He.ga K "SIZES"
theorem bind_one {K : PySem.W.Frag} {x y qual : Str} {params : Arguments} {body : List Stmt} {scope : Scope} {f : Addr} {fd : FuncData} (h : ∀ (kV doc pm : Value) (an : Option Addr) (cdv ct : Value) (u : Value), bindArgs (PySem.W.fnOf x qual params body scope .none kV doc pm an cdv ct) ⟨[u], []⟩ = pure [(y, u)]) (F : FunD K x qual params body scope [] [] f fd) :
    ∀ (t : Shared) (u : Value), BindsTo t fd ⟨[u], []⟩ [(y, u)] := by
  obtain ⟨oc, od, dV, kV, doc, pm, an, cdv, ct, osl, rfl, lk, hcd, hD, hK⟩ := F.ex
  rcases hD with ⟨_, rfl⟩ | ⟨e, _⟩
  · exact fun t u => .of_eq (h kV doc pm an cdv ct u)
  · exact absurd rfl e
section
variable {P : Program} {w : World} {K : PySem.W.Frag} {h : Heap} {mg : Str → Option Value}
theorem has_SIZES {x : Str} {y : D} (e : List.lookup x ([(("same" : PySem.Str), D.int 3), (("apart" : PySem.Str), D.int 4), (("parting" : PySem.Str), D.int 4), (("relation" : PySem.Str), D.int 3), (("rests" : PySem.Str), D.int 4), (("told" : PySem.Str), D.int 3)] : List (PySem.Str × D)) = some y) : ∃ i, y = .int i ∧ (x, He.Dv.int i) ∈ kv_SIZES := by
  unfold kv_SIZES
  simp only [List.lookup_cons] at e
  by_cases c0 : (x == ("same" : PySem.Str)) = true
  · rw [c0] at e
    cases e
    have z := eq_of_beq c0
    subst z
    exact ⟨3, rfl, by simp⟩
  rw [Bool.not_eq_true] at c0
  rw [c0] at e
  by_cases c1 : (x == ("apart" : PySem.Str)) = true
  · rw [c1] at e
    cases e
    have z := eq_of_beq c1
    subst z
    exact ⟨4, rfl, by simp⟩
  rw [Bool.not_eq_true] at c1
  rw [c1] at e
  by_cases c2 : (x == ("parting" : PySem.Str)) = true
  · rw [c2] at e
    cases e
    have z := eq_of_beq c2
    subst z
    exact ⟨4, rfl, by simp⟩
  rw [Bool.not_eq_true] at c2
  rw [c2] at e
  by_cases c3 : (x == ("relation" : PySem.Str)) = true
  · rw [c3] at e
    cases e
    have z := eq_of_beq c3
    subst z
    exact ⟨3, rfl, by simp⟩
  rw [Bool.not_eq_true] at c3
  rw [c3] at e
  by_cases c4 : (x == ("rests" : PySem.Str)) = true
  · rw [c4] at e
    cases e
    have z := eq_of_beq c4
    subst z
    exact ⟨4, rfl, by simp⟩
  rw [Bool.not_eq_true] at c4
  rw [c4] at e
  by_cases c5 : (x == ("told" : PySem.Str)) = true
  · rw [c5] at e
    cases e
    have z := eq_of_beq c5
    subst z
    exact ⟨3, rfl, by simp⟩
  rw [Bool.not_eq_true] at c5
  rw [c5] at e
  cases e
theorem txt_of (X : K.In h) (G : h.Ns mainGlobals mg) (c : He.SaysX faL fnL tsL [] exB w h K) : Txt w K mg (clF K) := by
  have m := c.more
  unfold exB at m
  simp only [Bool.and_eq_true] at m
  obtain ⟨m0, m1⟩ := m
  exact {
    f_abs := He.free_ok X G (c.t.d.fact 53)
    f_all := He.free_ok X G (c.t.d.fact 54)
    f_any := He.free_ok X G (c.t.d.fact 55)
    f_bool := He.free_ok X G (c.t.d.fact 56)
    f_divmod := He.free_ok X G (c.t.d.fact 57)
    f_enumerate := He.free_ok X G (c.t.d.fact 58)
    f_int := He.free_ok X G (c.t.d.fact 59)
    f_isinstance := He.free_ok X G (c.t.d.fact 60)
    f_len := He.free_ok X G (c.t.d.fact 61)
    f_list := He.free_ok X G (c.t.d.fact 62)
    f_max := He.free_ok X G (c.t.d.fact 63)
    f_min := He.free_ok X G (c.t.d.fact 64)
    f_range := He.free_ok X G (c.t.d.fact 65)
    f_repr := He.free_ok X G (c.t.d.fact 66)
    f_str := He.free_ok X G (c.t.d.fact 67)
    f_sum := He.free_ok X G (c.t.d.fact 68)
    f_tuple := He.free_ok X G (c.t.d.fact 69)
    f_zip := He.free_ok X G (c.t.d.fact 70)
    g_LARGEST := by
      obtain ⟨t, e⟩ := He.int_ok X G (c.t.d.fact 82 (f := .int "LARGEST" (10 ^ 300)))
      exact ⟨_, e, t, rfl⟩
    g_MOST_LINES := by
      obtain ⟨t, e⟩ := He.int_ok X G (c.t.d.fact 83 (f := .int "MOST_LINES" 100))
      exact ⟨_, e, t, rfl⟩
    g_MOST_NUMBERS := by
      obtain ⟨t, e⟩ := He.int_ok X G (c.t.d.fact 84 (f := .int "MOST_NUMBERS" 200))
      exact ⟨_, e, t, rfl⟩
    cls := He.cls_ok (c.t.d.fact 71)
    mroO := mro_obj (He.mkr_ok (c.t.d.fact 72)).1
    eqO := He.eqO_ok m0
    na_bottoms := He.noat_ok (c.t.d.fact 77)
    na_row := He.noat_ok (c.t.d.fact 78)
    na_sides := He.noat_ok (c.t.d.fact 79)
    na_starts := He.noat_ok (c.t.d.fact 80)
    na_under := He.noat_ok (c.t.d.fact 81)
    d_SIZES := by
      refine ⟨c.t.tab 0, fun x y e => ?_⟩
      obtain ⟨i, rfl, hm⟩ := has_SIZES e
      obtain ⟨u, e1, e2⟩ := He.valsB_ok m1 hm
      exact ⟨u, .int i, e1, e2, fun _ => rfl⟩
    gd_SIZES := He.glo_ok X G (c.t.d.fact 52) }
theorem all_ok (X : K.In h) (G : h.Ns mainGlobals mg) (c : He.SaysX faL fnL tsL [] exB w h K) : ∃ fd, (∀ (t : Shared) (u : Value), BindsTo t fd ⟨[u], []⟩ [("cells", u)]) ∧ ∀ base : Heap, GFn P w K mg base 12 (He.ga K "law") fd ["cells"] (spV K (clF K) 1 m_law) := by
  have T := txt_of X G c
  obtain ⟨fd__law_source, F__law_source⟩ := c.t.d.def_ 0 (d := d__law_source)
  have B__law_source : Binds K fd__law_source ["cell"] [] := F__law_source.bindsN (ps := ["cell"]) fun _ _ _ _ _ _ us hl => match us, hl with | [_], _ => rfl
  obtain ⟨fd__law_cell, F__law_cell⟩ := c.t.d.def_ 1 (d := d__law_cell)
  have B__law_cell : Binds K fd__law_cell ["cells", "spot"] [] := F__law_cell.bindsN (ps := ["cells", "spot"]) fun _ _ _ _ _ _ us hl => match us, hl with | [_, _], _ => rfl
  obtain ⟨fd__law_draw, F__law_draw⟩ := c.t.d.def_ 2 (d := d__law_draw)
  have B__law_draw : Binds K fd__law_draw ["source", "many"] [] := F__law_draw.bindsN (ps := ["source", "many"]) fun _ _ _ _ _ _ us hl => match us, hl with | [_, _], _ => rfl
  obtain ⟨fd__law_number, F__law_number⟩ := c.t.d.def_ 3 (d := d__law_number)
  have B__law_number : Binds K fd__law_number ["source", "wide"] [] := F__law_number.bindsN (ps := ["source", "wide"]) fun _ _ _ _ _ _ us hl => match us, hl with | [_, _], _ => rfl
  obtain ⟨fd__law_row, F__law_row⟩ := c.t.d.def_ 4 (d := d__law_row)
  have B__law_row : Binds K fd__law_row ["source", "many", "wide"] [] := F__law_row.bindsN (ps := ["source", "many", "wide"]) fun _ _ _ _ _ _ us hl => match us, hl with | [_, _, _], _ => rfl
  obtain ⟨fd__law_image, F__law_image⟩ := c.t.d.def_ 5 (d := d__law_image)
  have B__law_image : Binds K fd__law_image ["rows", "worths"] [] := F__law_image.bindsN (ps := ["rows", "worths"]) fun _ _ _ _ _ _ us hl => match us, hl with | [_, _], _ => rfl
  obtain ⟨fd__law_rule, F__law_rule⟩ := c.t.d.def_ 6 (d := d__law_rule)
  have B__law_rule : Binds K fd__law_rule ["source", "many", "wide"] [] := F__law_rule.bindsN (ps := ["source", "many", "wide"]) fun _ _ _ _ _ _ us hl => match us, hl with | [_, _, _], _ => rfl
  obtain ⟨fd__law_small, F__law_small⟩ := c.t.d.def_ 7 (d := d__law_small)
  have B__law_small : Binds K fd__law_small ["source", "many", "wide"] [] := F__law_small.bindsN (ps := ["source", "many", "wide"]) fun _ _ _ _ _ _ us hl => match us, hl with | [_, _, _], _ => rfl
  obtain ⟨fd__law_digits, F__law_digits⟩ := c.t.d.def_ 8 (d := d__law_digits)
  have B__law_digits : Binds K fd__law_digits ["at"] [] := F__law_digits.bindsN (ps := ["at"]) fun _ _ _ _ _ _ us hl => match us, hl with | [_], _ => rfl
  obtain ⟨fd__law_lines, F__law_lines⟩ := c.t.d.def_ 9 (d := d__law_lines)
  have B__law_lines : Binds K fd__law_lines ["some", "at"] [] := F__law_lines.bindsN (ps := ["some", "at"]) fun _ _ _ _ _ _ us hl => match us, hl with | [_, _], _ => rfl
  obtain ⟨fd__law_joint, F__law_joint⟩ := c.t.d.def_ 10 (d := d__law_joint)
  have B__law_joint : Binds K fd__law_joint ["rules", "at"] [] := F__law_joint.bindsN (ps := ["rules", "at"]) fun _ _ _ _ _ _ us hl => match us, hl with | [_, _], _ => rfl
  obtain ⟨fd__law_divisor, F__law_divisor⟩ := c.t.d.def_ 11 (d := d__law_divisor)
  have B__law_divisor : Binds K fd__law_divisor ["one", "two"] [] := F__law_divisor.bindsN (ps := ["one", "two"]) fun _ _ _ _ _ _ us hl => match us, hl with | [_, _], _ => rfl
  obtain ⟨fd__law_thin, F__law_thin⟩ := c.t.d.def_ 12 (d := d__law_thin)
  have B__law_thin : Binds K fd__law_thin ["row"] [] := F__law_thin.bindsN (ps := ["row"]) fun _ _ _ _ _ _ us hl => match us, hl with | [_], _ => rfl
  obtain ⟨fd__law_cleared, F__law_cleared⟩ := c.t.d.def_ 13 (d := d__law_cleared)
  have B__law_cleared : Binds K fd__law_cleared ["row", "kept"] [] := F__law_cleared.bindsN (ps := ["row", "kept"]) fun _ _ _ _ _ _ us hl => match us, hl with | [_, _], _ => rfl
  obtain ⟨fd__law_fraction, F__law_fraction⟩ := c.t.d.def_ 14 (d := d__law_fraction)
  have B__law_fraction : Binds K fd__law_fraction ["top", "bottom"] [] := F__law_fraction.bindsN (ps := ["top", "bottom"]) fun _ _ _ _ _ _ us hl => match us, hl with | [_, _], _ => rfl
  obtain ⟨fd__law_factors, F__law_factors⟩ := c.t.d.def_ 15 (d := d__law_factors)
  have B__law_factors : Binds K fd__law_factors ["kept", "aim"] [] := F__law_factors.bindsN (ps := ["kept", "aim"]) fun _ _ _ _ _ _ us hl => match us, hl with | [_, _], _ => rfl
  obtain ⟨fd__law_kept, F__law_kept⟩ := c.t.d.def_ 16 (d := d__law_kept)
  have B__law_kept : Binds K fd__law_kept ["kept", "worths"] [] := F__law_kept.bindsN (ps := ["kept", "worths"]) fun _ _ _ _ _ _ us hl => match us, hl with | [_, _], _ => rfl
  obtain ⟨fd__law_drawn_row, F__law_drawn_row⟩ := c.t.d.def_ 17 (d := d__law_drawn_row)
  have B__law_drawn_row : Binds K fd__law_drawn_row ["source", "rules", "numbers", "later", "limit"] [] := F__law_drawn_row.bindsN (ps := ["source", "rules", "numbers", "later", "limit"]) fun _ _ _ _ _ _ us hl => match us, hl with | [_, _, _, _, _], _ => rfl
  obtain ⟨fd__law_paper, F__law_paper⟩ := c.t.d.def_ 18 (d := d__law_paper)
  have B__law_paper : Binds K fd__law_paper ["source", "rules", "limit"] [] := F__law_paper.bindsN (ps := ["source", "rules", "limit"]) fun _ _ _ _ _ _ us hl => match us, hl with | [_, _, _], _ => rfl
  obtain ⟨fd__law_plain, F__law_plain⟩ := c.t.d.def_ 19 (d := d__law_plain)
  have B__law_plain : Binds K fd__law_plain ["some"] [] := F__law_plain.bindsN (ps := ["some"]) fun _ _ _ _ _ _ us hl => match us, hl with | [_], _ => rfl
  obtain ⟨fd__law_makes, F__law_makes⟩ := c.t.d.def_ 20 (d := d__law_makes)
  have B__law_makes : Binds K fd__law_makes ["row", "points", "aim"] [] := F__law_makes.bindsN (ps := ["row", "points", "aim"]) fun _ _ _ _ _ _ us hl => match us, hl with | [_, _, _], _ => rfl
  obtain ⟨fd__law_is_span, F__law_is_span⟩ := c.t.d.def_ 21 (d := d__law_is_span)
  have B__law_is_span : Binds K fd__law_is_span ["rules", "paper", "limit"] [] := F__law_is_span.bindsN (ps := ["rules", "paper", "limit"]) fun _ _ _ _ _ _ us hl => match us, hl with | [_, _, _], _ => rfl
  obtain ⟨fd__law_at, F__law_at⟩ := c.t.d.def_ 22 (d := d__law_at)
  have B__law_at : Binds K fd__law_at ["some", "at"] [] := F__law_at.bindsN (ps := ["some", "at"]) fun _ _ _ _ _ _ us hl => match us, hl with | [_, _], _ => rfl
  obtain ⟨fd__law_sums, F__law_sums⟩ := c.t.d.def_ 23 (d := d__law_sums)
  have B__law_sums : Binds K fd__law_sums ["rules", "by", "spots"] [] := F__law_sums.bindsN (ps := ["rules", "by", "spots"]) fun _ _ _ _ _ _ us hl => match us, hl with | [_, _, _], _ => rfl
  obtain ⟨fd_is_integer, F_is_integer⟩ := c.t.d.def_ 24 (d := d_is_integer)
  have B_is_integer : Binds K fd_is_integer ["value"] [] := F_is_integer.bindsN (ps := ["value"]) fun _ _ _ _ _ _ us hl => match us, hl with | [_], _ => rfl
  obtain ⟨fd_are_integers, F_are_integers⟩ := c.t.d.def_ 25 (d := d_are_integers)
  have B_are_integers : Binds K fd_are_integers ["value", "many"] [] := F_are_integers.bindsN (ps := ["value", "many"]) fun _ _ _ _ _ _ us hl => match us, hl with | [_, _], _ => rfl
  obtain ⟨fd_divisor_of, F_divisor_of⟩ := c.t.d.def_ 26 (d := d_divisor_of)
  have B_divisor_of : Binds K fd_divisor_of ["one", "other"] [] := F_divisor_of.bindsN (ps := ["one", "other"]) fun _ _ _ _ _ _ us hl => match us, hl with | [_, _], _ => rfl
  obtain ⟨fd_is_fraction, F_is_fraction⟩ := c.t.d.def_ 27 (d := d_is_fraction)
  have B_is_fraction : Binds K fd_is_fraction ["value"] [] := F_is_fraction.bindsN (ps := ["value"]) fun _ _ _ _ _ _ us hl => match us, hl with | [_], _ => rfl
  obtain ⟨fd_are_fractions, F_are_fractions⟩ := c.t.d.def_ 28 (d := d_are_fractions)
  have B_are_fractions : Binds K fd_are_fractions ["value", "many"] [] := F_are_fractions.bindsN (ps := ["value", "many"]) fun _ _ _ _ _ _ us hl => match us, hl with | [_, _], _ => rfl
  obtain ⟨fd_common_bottom, F_common_bottom⟩ := c.t.d.def_ 29 (d := d_common_bottom)
  have B_common_bottom : Binds K fd_common_bottom ["fractions"] [] := F_common_bottom.bindsN (ps := ["fractions"]) fun _ _ _ _ _ _ us hl => match us, hl with | [_], _ => rfl
  obtain ⟨fd_times_bottom, F_times_bottom⟩ := c.t.d.def_ 30 (d := d_times_bottom)
  have B_times_bottom : Binds K fd_times_bottom ["fractions", "bottom"] [] := F_times_bottom.bindsN (ps := ["fractions", "bottom"]) fun _ _ _ _ _ _ us hl => match us, hl with | [_, _], _ => rfl
  obtain ⟨fd_Plain_init, F_Plain_init⟩ := c.t.d.def_ 31 (d := d_Plain_init)
  have B_Plain_init : Binds K fd_Plain_init ["self", "rule"] [] := F_Plain_init.bindsN (ps := ["self", "rule"]) fun _ _ _ _ _ _ us hl => match us, hl with | [_, _], _ => rfl
  obtain ⟨fd_lowest, F_lowest⟩ := c.t.d.def_ 32 (d := d_lowest)
  have B_lowest : Binds K fd_lowest ["values", "bottom"] [] := F_lowest.bindsN (ps := ["values", "bottom"]) fun _ _ _ _ _ _ us hl => match us, hl with | [_, _], _ => rfl
  obtain ⟨fd_sum_by, F_sum_by⟩ := c.t.d.def_ 33 (d := d_sum_by)
  have B_sum_by : Binds K fd_sum_by ["row", "values"] [] := F_sum_by.bindsN (ps := ["row", "values"]) fun _ _ _ _ _ _ us hl => match us, hl with | [_, _], _ => rfl
  obtain ⟨fd_Plain_later, F_Plain_later⟩ := c.t.d.def_ 34 (d := d_Plain_later)
  have B_Plain_later : Binds K fd_Plain_later ["self", "point", "digit"] [] := F_Plain_later.bindsN (ps := ["self", "point", "digit"]) fun _ _ _ _ _ _ us hl => match us, hl with | [_, _, _], _ => rfl
  obtain ⟨fd_Plain_fits, F_Plain_fits⟩ := c.t.d.def_ 35 (d := d_Plain_fits)
  have B_Plain_fits : Binds K fd_Plain_fits ["self"] [] := F_Plain_fits.bindsN (ps := ["self"]) fun _ _ _ _ _ _ us hl => match us, hl with | [_], _ => rfl
  obtain ⟨fd_plain_in, F_plain_in⟩ := c.t.d.def_ 36 (d := d_plain_in)
  have B_plain_in : Binds K fd_plain_in ["value"] [] := F_plain_in.bindsN (ps := ["value"]) fun _ _ _ _ _ _ us hl => match us, hl with | [_], _ => rfl
  obtain ⟨fd_plains_in, F_plains_in⟩ := c.t.d.def_ 37 (d := d_plains_in)
  have B_plains_in : Binds K fd_plains_in ["value"] [] := F_plains_in.bindsN (ps := ["value"]) fun _ _ _ _ _ _ us hl => match us, hl with | [_], _ => rfl
  obtain ⟨fd_are_ascending, F_are_ascending⟩ := c.t.d.def_ 38 (d := d_are_ascending)
  have B_are_ascending : Binds K fd_are_ascending ["value"] [] := F_are_ascending.bindsN (ps := ["value"]) fun _ _ _ _ _ _ us hl => match us, hl with | [_], _ => rfl
  obtain ⟨fd_Plain_point_at, F_Plain_point_at⟩ := c.t.d.def_ 39 (d := d_Plain_point_at)
  have B_Plain_point_at : Binds K fd_Plain_point_at ["self", "number"] [] := F_Plain_point_at.bindsN (ps := ["self", "number"]) fun _ _ _ _ _ _ us hl => match us, hl with | [_, _], _ => rfl
  obtain ⟨fd_makes, F_makes⟩ := c.t.d.def_ 40 (d := d_makes)
  have B_makes : Binds K fd_makes ["row", "points", "aim"] [] := F_makes.bindsN (ps := ["row", "points", "aim"]) fun _ _ _ _ _ _ us hl => match us, hl with | [_, _, _], _ => rfl
  obtain ⟨fd_is_row, F_is_row⟩ := c.t.d.def_ 41 (d := d_is_row)
  have B_is_row : Binds K fd_is_row ["row", "numbers", "later", "tables", "at", "digit"] [] := F_is_row.bindsN (ps := ["row", "numbers", "later", "tables", "at", "digit"]) fun _ _ _ _ _ _ us hl => match us, hl with | [_, _, _, _, _, _], _ => rfl
  obtain ⟨fd_begins_well, F_begins_well⟩ := c.t.d.def_ 42 (d := d_begins_well)
  have B_begins_well : Binds K fd_begins_well ["tables", "numbers", "limit"] [] := F_begins_well.bindsN (ps := ["tables", "numbers", "limit"]) fun _ _ _ _ _ _ us hl => match us, hl with | [_, _, _], _ => rfl
  obtain ⟨fd_Plain_told_by, F_Plain_told_by⟩ := c.t.d.def_ 43 (d := d_Plain_told_by)
  have B_Plain_told_by : Binds K fd_Plain_told_by ["self", "point"] [] := F_Plain_told_by.bindsN (ps := ["self", "point"]) fun _ _ _ _ _ _ us hl => match us, hl with | [_, _], _ => rfl
  obtain ⟨fd_span_in, F_span_in⟩ := c.t.d.def_ 44 (d := d_span_in)
  have B_span_in : Binds K fd_span_in ["value", "plains", "limit"] [] := F_span_in.bindsN (ps := ["value", "plains", "limit"]) fun _ _ _ _ _ _ us hl => match us, hl with | [_, _, _], _ => rfl
  obtain ⟨fd_shows_same, F_shows_same⟩ := c.t.d.def_ 45 (d := d_shows_same)
  have B_shows_same : Binds K fd_shows_same ["first", "second", "certificate"] [] := F_shows_same.bindsN (ps := ["first", "second", "certificate"]) fun _ _ _ _ _ _ us hl => match us, hl with | [_, _, _], _ => rfl
  obtain ⟨fd_are_apart, F_are_apart⟩ := c.t.d.def_ 46 (d := d_are_apart)
  have B_are_apart : Binds K fd_are_apart ["plains", "number"] [] := F_are_apart.bindsN (ps := ["plains", "number"]) fun _ _ _ _ _ _ us hl => match us, hl with | [_, _], _ => rfl
  obtain ⟨fd_shows_apart, F_shows_apart⟩ := c.t.d.def_ 47 (d := d_shows_apart)
  have B_shows_apart : Binds K fd_shows_apart ["first", "second", "number", "certificate"] [] := F_shows_apart.bindsN (ps := ["first", "second", "number", "certificate"]) fun _ _ _ _ _ _ us hl => match us, hl with | [_, _, _, _], _ => rfl
  obtain ⟨fd_shows_parting, F_shows_parting⟩ := c.t.d.def_ 48 (d := d_shows_parting)
  have B_shows_parting : Binds K fd_shows_parting ["first", "second", "number", "certificate"] [] := F_shows_parting.bindsN (ps := ["first", "second", "number", "certificate"]) fun _ _ _ _ _ _ us hl => match us, hl with | [_, _, _, _], _ => rfl
  obtain ⟨fd_adds_to_nothing, F_adds_to_nothing⟩ := c.t.d.def_ 49 (d := d_adds_to_nothing)
  have B_adds_to_nothing : Binds K fd_adds_to_nothing ["factors", "values"] [] := F_adds_to_nothing.bindsN (ps := ["factors", "values"]) fun _ _ _ _ _ _ us hl => match us, hl with | [_, _], _ => rfl
  obtain ⟨fd_shows_relation, F_shows_relation⟩ := c.t.d.def_ 50 (d := d_shows_relation)
  have B_shows_relation : Binds K fd_shows_relation ["rules", "factors", "certificate"] [] := F_shows_relation.bindsN (ps := ["rules", "factors", "certificate"]) fun _ _ _ _ _ _ us hl => match us, hl with | [_, _, _], _ => rfl
  obtain ⟨fd_accepts, F_accepts⟩ := c.t.d.def_ 51 (d := d_accepts)
  have B_accepts : Binds K fd_accepts ["claim", "certificate"] [] := F_accepts.bindsN (ps := ["claim", "certificate"]) fun _ _ _ _ _ _ us hl => match us, hl with | [_, _], _ => rfl
  obtain ⟨fd__law_span_right, F__law_span_right⟩ := c.t.d.def_ 52 (d := d__law_span_right)
  have B__law_span_right : Binds K fd__law_span_right ["source", "rules", "by"] [] := F__law_span_right.bindsN (ps := ["source", "rules", "by"]) fun _ _ _ _ _ _ us hl => match us, hl with | [_, _, _], _ => rfl
  obtain ⟨fd__law_parting_right, F__law_parting_right⟩ := c.t.d.def_ 53 (d := d__law_parting_right)
  have B__law_parting_right : Binds K fd__law_parting_right ["source", "rules"] [] := F__law_parting_right.bindsN (ps := ["source", "rules"]) fun _ _ _ _ _ _ us hl => match us, hl with | [_, _], _ => rfl
  obtain ⟨fd__law_right, F__law_right⟩ := c.t.d.def_ 54 (d := d__law_right)
  have B__law_right : Binds K fd__law_right ["source"] [] := F__law_right.bindsN (ps := ["source"]) fun _ _ _ _ _ _ us hl => match us, hl with | [_], _ => rfl
  obtain ⟨fd_law, F_law⟩ := c.t.d.def_ 55 (d := d_law)
  have B_law : Binds K fd_law ["cells"] [] := F_law.bindsN (ps := ["cells"]) fun _ _ _ _ _ _ us hl => match us, hl with | [_], _ => rfl
  refine ⟨fd_law, bind_one (fun _ _ _ _ _ _ _ => rfl) F_law, fun base => ?_⟩
  have G__law_source := ok__law_source (P := P) (base := base) T  F__law_source
  have C__law_source : CalF P w K mg base (clF K) 1 "_law_source" 1 m__law_source := ⟨_, _, _, He.glo_ok X G (c.t.d.fact 0), F__law_source.kp, B__law_source, G__law_source⟩
  have G__law_cell := ok__law_cell (P := P) (base := base) T  F__law_cell
  have C__law_cell : CalF P w K mg base (clF K) 1 "_law_cell" 2 m__law_cell := ⟨_, _, _, He.glo_ok X G (c.t.d.fact 1), F__law_cell.kp, B__law_cell, G__law_cell⟩
  have G__law_draw := ok__law_draw (P := P) (base := base) T  F__law_draw
  have C__law_draw : CalI P w K mg base (clF K) 1 "_law_draw" 2 m__law_draw := ⟨_, _, _, He.glo_ok X G (c.t.d.fact 2), F__law_draw.kp, B__law_draw, G__law_draw⟩
  have G__law_number := ok__law_number (P := P) (base := base) T C__law_draw F__law_number
  have C__law_number : CalI P w K mg base (clF K) 2 "_law_number" 2 m__law_number := ⟨_, _, _, He.glo_ok X G (c.t.d.fact 3), F__law_number.kp, B__law_number, G__law_number⟩
  have G__law_row := ok__law_row (P := P) (base := base) T C__law_number F__law_row
  have C__law_row : CalI P w K mg base (clF K) 3 "_law_row" 3 m__law_row := ⟨_, _, _, He.glo_ok X G (c.t.d.fact 4), F__law_row.kp, B__law_row, G__law_row⟩
  have G__law_image := ok__law_image (P := P) (base := base) T  F__law_image
  have C__law_image : CalF P w K mg base (clF K) 1 "_law_image" 2 m__law_image := ⟨_, _, _, He.glo_ok X G (c.t.d.fact 5), F__law_image.kp, B__law_image, G__law_image⟩
  have G__law_rule := ok__law_rule (P := P) (base := base) T C__law_draw C__law_row C__law_image F__law_rule
  have C__law_rule : CalI P w K mg base (clF K) 4 "_law_rule" 3 m__law_rule := ⟨_, _, _, He.glo_ok X G (c.t.d.fact 6), F__law_rule.kp, B__law_rule, G__law_rule⟩
  have G__law_small := ok__law_small (P := P) (base := base) T C__law_draw C__law_rule C__law_row F__law_small
  have C__law_small : CalI P w K mg base (clF K) 5 "_law_small" 3 m__law_small := ⟨_, _, _, He.glo_ok X G (c.t.d.fact 7), F__law_small.kp, B__law_small, G__law_small⟩
  have G__law_digits := ok__law_digits (P := P) (base := base) T  F__law_digits
  have C__law_digits : CalF P w K mg base (clF K) 1 "_law_digits" 1 m__law_digits := ⟨_, _, _, He.glo_ok X G (c.t.d.fact 8), F__law_digits.kp, B__law_digits, G__law_digits⟩
  have G__law_lines := ok__law_lines (P := P) (base := base) T C__law_digits C__law_image F__law_lines
  have C__law_lines : CalF P w K mg base (clF K) 2 "_law_lines" 2 m__law_lines := ⟨_, _, _, He.glo_ok X G (c.t.d.fact 9), F__law_lines.kp, B__law_lines, G__law_lines⟩
  have G__law_joint := ok__law_joint (P := P) (base := base) T C__law_lines F__law_joint
  have C__law_joint : CalF P w K mg base (clF K) 3 "_law_joint" 2 m__law_joint := ⟨_, _, _, He.glo_ok X G (c.t.d.fact 10), F__law_joint.kp, B__law_joint, G__law_joint⟩
  have G__law_divisor := ok__law_divisor (P := P) (base := base) T  F__law_divisor
  have C__law_divisor : CalF P w K mg base (clF K) 1 "_law_divisor" 2 m__law_divisor := ⟨_, _, _, He.glo_ok X G (c.t.d.fact 11), F__law_divisor.kp, B__law_divisor, G__law_divisor⟩
  have G__law_thin := ok__law_thin (P := P) (base := base) T C__law_divisor F__law_thin
  have C__law_thin : CalF P w K mg base (clF K) 2 "_law_thin" 1 m__law_thin := ⟨_, _, _, He.glo_ok X G (c.t.d.fact 12), F__law_thin.kp, B__law_thin, G__law_thin⟩
  have G__law_cleared := ok__law_cleared (P := P) (base := base) T C__law_thin F__law_cleared
  have C__law_cleared : CalF P w K mg base (clF K) 3 "_law_cleared" 2 m__law_cleared := ⟨_, _, _, He.glo_ok X G (c.t.d.fact 13), F__law_cleared.kp, B__law_cleared, G__law_cleared⟩
  have G__law_fraction := ok__law_fraction (P := P) (base := base) T C__law_divisor F__law_fraction
  have C__law_fraction : CalF P w K mg base (clF K) 2 "_law_fraction" 2 m__law_fraction := ⟨_, _, _, He.glo_ok X G (c.t.d.fact 14), F__law_fraction.kp, B__law_fraction, G__law_fraction⟩
  have G__law_factors := ok__law_factors (P := P) (base := base) T C__law_cleared C__law_fraction F__law_factors
  have C__law_factors : CalF P w K mg base (clF K) 4 "_law_factors" 2 m__law_factors := ⟨_, _, _, He.glo_ok X G (c.t.d.fact 15), F__law_factors.kp, B__law_factors, G__law_factors⟩
  have G__law_kept := ok__law_kept (P := P) (base := base) T C__law_cleared F__law_kept
  have C__law_kept : CalF P w K mg base (clF K) 4 "_law_kept" 2 m__law_kept := ⟨_, _, _, He.glo_ok X G (c.t.d.fact 16), F__law_kept.kp, B__law_kept, G__law_kept⟩
  have G__law_drawn_row := ok__law_drawn_row (P := P) (base := base) T C__law_draw C__law_joint C__law_factors C__law_kept F__law_drawn_row
  have C__law_drawn_row : CalI P w K mg base (clF K) 5 "_law_drawn_row" 5 m__law_drawn_row := ⟨_, _, _, He.glo_ok X G (c.t.d.fact 17), F__law_drawn_row.kp, B__law_drawn_row, G__law_drawn_row⟩
  have G__law_paper := ok__law_paper (P := P) (base := base) T C__law_draw C__law_drawn_row F__law_paper
  have C__law_paper : CalI P w K mg base (clF K) 6 "_law_paper" 3 m__law_paper := ⟨_, _, _, He.glo_ok X G (c.t.d.fact 18), F__law_paper.kp, B__law_paper, G__law_paper⟩
  have G__law_plain := ok__law_plain (P := P) (base := base) T  F__law_plain
  have C__law_plain : CalF P w K mg base (clF K) 1 "_law_plain" 1 m__law_plain := ⟨_, _, _, He.glo_ok X G (c.t.d.fact 19), F__law_plain.kp, B__law_plain, G__law_plain⟩
  have G__law_makes := ok__law_makes (P := P) (base := base) T  F__law_makes
  have C__law_makes : CalF P w K mg base (clF K) 1 "_law_makes" 3 m__law_makes := ⟨_, _, _, He.glo_ok X G (c.t.d.fact 20), F__law_makes.kp, B__law_makes, G__law_makes⟩
  have G__law_is_span := ok__law_is_span (P := P) (base := base) T C__law_joint C__law_makes F__law_is_span
  have C__law_is_span : CalF P w K mg base (clF K) 4 "_law_is_span" 3 m__law_is_span := ⟨_, _, _, He.glo_ok X G (c.t.d.fact 21), F__law_is_span.kp, B__law_is_span, G__law_is_span⟩
  have G__law_at := ok__law_at (P := P) (base := base) T C__law_image C__law_lines F__law_at
  have C__law_at : CalF P w K mg base (clF K) 3 "_law_at" 2 m__law_at := ⟨_, _, _, He.glo_ok X G (c.t.d.fact 22), F__law_at.kp, B__law_at, G__law_at⟩
  have G__law_sums := ok__law_sums (P := P) (base := base) T C__law_at F__law_sums
  have C__law_sums : CalF P w K mg base (clF K) 4 "_law_sums" 3 m__law_sums := ⟨_, _, _, He.glo_ok X G (c.t.d.fact 23), F__law_sums.kp, B__law_sums, G__law_sums⟩
  have G_is_integer := ok_is_integer (P := P) (base := base) T  F_is_integer
  have C_is_integer : CalF P w K mg base (clF K) 1 "is_integer" 1 m_is_integer := ⟨_, _, _, He.glo_ok X G (c.t.d.fact 24), F_is_integer.kp, B_is_integer, G_is_integer⟩
  have G_are_integers := ok_are_integers (P := P) (base := base) T C_is_integer F_are_integers
  have C_are_integers : CalF P w K mg base (clF K) 2 "are_integers" 2 m_are_integers := ⟨_, _, _, He.glo_ok X G (c.t.d.fact 25), F_are_integers.kp, B_are_integers, G_are_integers⟩
  have G_divisor_of := ok_divisor_of (P := P) (base := base) T  F_divisor_of
  have C_divisor_of : CalF P w K mg base (clF K) 1 "divisor_of" 2 m_divisor_of := ⟨_, _, _, He.glo_ok X G (c.t.d.fact 26), F_divisor_of.kp, B_divisor_of, G_divisor_of⟩
  have G_is_fraction := ok_is_fraction (P := P) (base := base) T C_are_integers C_divisor_of F_is_fraction
  have C_is_fraction : CalF P w K mg base (clF K) 3 "is_fraction" 1 m_is_fraction := ⟨_, _, _, He.glo_ok X G (c.t.d.fact 27), F_is_fraction.kp, B_is_fraction, G_is_fraction⟩
  have G_are_fractions := ok_are_fractions (P := P) (base := base) T C_is_fraction F_are_fractions
  have C_are_fractions : CalF P w K mg base (clF K) 4 "are_fractions" 2 m_are_fractions := ⟨_, _, _, He.glo_ok X G (c.t.d.fact 28), F_are_fractions.kp, B_are_fractions, G_are_fractions⟩
  have G_common_bottom := ok_common_bottom (P := P) (base := base) T C_divisor_of F_common_bottom
  have C_common_bottom : CalF P w K mg base (clF K) 2 "common_bottom" 1 m_common_bottom := ⟨_, _, _, He.glo_ok X G (c.t.d.fact 29), F_common_bottom.kp, B_common_bottom, G_common_bottom⟩
  have G_times_bottom := ok_times_bottom (P := P) (base := base) T  F_times_bottom
  have C_times_bottom : CalF P w K mg base (clF K) 1 "times_bottom" 2 m_times_bottom := ⟨_, _, _, He.glo_ok X G (c.t.d.fact 30), F_times_bottom.kp, B_times_bottom, G_times_bottom⟩
  have G_Plain_init := ok_Plain_init (P := P) (base := base) T C_common_bottom C_times_bottom F_Plain_init
  have C_Plain_init : CalC P w K mg base (clF K) 3 0 "Plain" 2 m_Plain_init := ⟨_, _, _, He.glo_ok X G (c.t.d.fact 51), He.mkr_ok (c.t.d.fact 72), B_Plain_init, G_Plain_init⟩
  have G_lowest := ok_lowest (P := P) (base := base) T C_divisor_of F_lowest
  have C_lowest : CalF P w K mg base (clF K) 2 "lowest" 2 m_lowest := ⟨_, _, _, He.glo_ok X G (c.t.d.fact 31), F_lowest.kp, B_lowest, G_lowest⟩
  have G_sum_by := ok_sum_by (P := P) (base := base) T  F_sum_by
  have C_sum_by : CalF P w K mg base (clF K) 1 "sum_by" 2 m_sum_by := ⟨_, _, _, He.glo_ok X G (c.t.d.fact 32), F_sum_by.kp, B_sum_by, G_sum_by⟩
  have G_Plain_later := ok_Plain_later (P := P) (base := base) T C_lowest C_sum_by F_Plain_later
  have C_Plain_later : CalM P w K mg base (clF K) 3 0 "later" 3 m_Plain_later := ⟨⟨_, _, _, He.meth_ok (c.t.d.fact 73), B_Plain_later, G_Plain_later⟩, T.cls⟩
  have G_Plain_fits := ok_Plain_fits (P := P) (base := base) T C_Plain_later C_lowest F_Plain_fits
  have C_Plain_fits : CalM P w K mg base (clF K) 4 0 "fits" 1 m_Plain_fits := ⟨⟨_, _, _, He.meth_ok (c.t.d.fact 74), B_Plain_fits, G_Plain_fits⟩, T.cls⟩
  have G_plain_in := ok_plain_in (P := P) (base := base) T C_are_integers C_are_fractions C_Plain_init C_Plain_fits F_plain_in
  have C_plain_in : CalF P w K mg base (clF K) 5 "plain_in" 1 m_plain_in := ⟨_, _, _, He.glo_ok X G (c.t.d.fact 33), F_plain_in.kp, B_plain_in, G_plain_in⟩
  have G_plains_in := ok_plains_in (P := P) (base := base) T C_plain_in F_plains_in
  have C_plains_in : CalF P w K mg base (clF K) 6 "plains_in" 1 m_plains_in := ⟨_, _, _, He.glo_ok X G (c.t.d.fact 34), F_plains_in.kp, B_plains_in, G_plains_in⟩
  have G_are_ascending := ok_are_ascending (P := P) (base := base) T C_is_integer F_are_ascending
  have C_are_ascending : CalF P w K mg base (clF K) 2 "are_ascending" 1 m_are_ascending := ⟨_, _, _, He.glo_ok X G (c.t.d.fact 35), F_are_ascending.kp, B_are_ascending, G_are_ascending⟩
  have G_Plain_point_at := ok_Plain_point_at (P := P) (base := base) T C_lowest C_Plain_later F_Plain_point_at
  have C_Plain_point_at : CalM P w K mg base (clF K) 4 0 "point_at" 2 m_Plain_point_at := ⟨⟨_, _, _, He.meth_ok (c.t.d.fact 75), B_Plain_point_at, G_Plain_point_at⟩, T.cls⟩
  have G_makes := ok_makes (P := P) (base := base) T C_common_bottom C_times_bottom C_sum_by F_makes
  have C_makes : CalF P w K mg base (clF K) 3 "makes" 3 m_makes := ⟨_, _, _, He.glo_ok X G (c.t.d.fact 36), F_makes.kp, B_makes, G_makes⟩
  have G_is_row := ok_is_row (P := P) (base := base) T C_are_fractions C_makes C_Plain_later F_is_row
  have C_is_row : CalF P w K mg base (clF K) 5 "is_row" 6 m_is_row := ⟨_, _, _, He.glo_ok X G (c.t.d.fact 37), F_is_row.kp, B_is_row, G_is_row⟩
  have G_begins_well := ok_begins_well (P := P) (base := base) T  F_begins_well
  have C_begins_well : CalF P w K mg base (clF K) 1 "begins_well" 3 m_begins_well := ⟨_, _, _, He.glo_ok X G (c.t.d.fact 38), F_begins_well.kp, B_begins_well, G_begins_well⟩
  have G_Plain_told_by := ok_Plain_told_by (P := P) (base := base) T C_lowest C_sum_by F_Plain_told_by
  have C_Plain_told_by : CalM P w K mg base (clF K) 3 0 "told_by" 2 m_Plain_told_by := ⟨⟨_, _, _, He.meth_ok (c.t.d.fact 76), B_Plain_told_by, G_Plain_told_by⟩, T.cls⟩
  have G_span_in := ok_span_in (P := P) (base := base) T C_are_ascending C_Plain_point_at C_is_row C_begins_well C_Plain_told_by F_span_in
  have C_span_in : CalF P w K mg base (clF K) 6 "span_in" 3 m_span_in := ⟨_, _, _, He.glo_ok X G (c.t.d.fact 39), F_span_in.kp, B_span_in, G_span_in⟩
  have G_shows_same := ok_shows_same (P := P) (base := base) T C_plains_in C_span_in F_shows_same
  have C_shows_same : CalF P w K mg base (clF K) 7 "shows_same" 3 m_shows_same := ⟨_, _, _, He.glo_ok X G (c.t.d.fact 40), F_shows_same.kp, B_shows_same, G_shows_same⟩
  have G_are_apart := ok_are_apart (P := P) (base := base) T C_Plain_told_by C_Plain_point_at F_are_apart
  have C_are_apart : CalF P w K mg base (clF K) 5 "are_apart" 2 m_are_apart := ⟨_, _, _, He.glo_ok X G (c.t.d.fact 41), F_are_apart.kp, B_are_apart, G_are_apart⟩
  have G_shows_apart := ok_shows_apart (P := P) (base := base) T C_plains_in C_is_integer C_are_apart F_shows_apart
  have C_shows_apart : CalF P w K mg base (clF K) 7 "shows_apart" 4 m_shows_apart := ⟨_, _, _, He.glo_ok X G (c.t.d.fact 42), F_shows_apart.kp, B_shows_apart, G_shows_apart⟩
  have G_shows_parting := ok_shows_parting (P := P) (base := base) T C_shows_apart C_span_in C_plains_in F_shows_parting
  have C_shows_parting : CalF P w K mg base (clF K) 8 "shows_parting" 4 m_shows_parting := ⟨_, _, _, He.glo_ok X G (c.t.d.fact 43), F_shows_parting.kp, B_shows_parting, G_shows_parting⟩
  have G_adds_to_nothing := ok_adds_to_nothing (P := P) (base := base) T  F_adds_to_nothing
  have C_adds_to_nothing : CalF P w K mg base (clF K) 1 "adds_to_nothing" 2 m_adds_to_nothing := ⟨_, _, _, He.glo_ok X G (c.t.d.fact 44), F_adds_to_nothing.kp, B_adds_to_nothing, G_adds_to_nothing⟩
  have G_shows_relation := ok_shows_relation (P := P) (base := base) T C_plains_in C_are_integers C_span_in C_adds_to_nothing F_shows_relation
  have C_shows_relation : CalF P w K mg base (clF K) 7 "shows_relation" 3 m_shows_relation := ⟨_, _, _, He.glo_ok X G (c.t.d.fact 45), F_shows_relation.kp, B_shows_relation, G_shows_relation⟩
  have G_accepts := ok_accepts (P := P) (base := base) T C_shows_same C_shows_apart C_shows_parting C_shows_relation F_accepts
  have C_accepts : CalF P w K mg base (clF K) 9 "accepts" 2 m_accepts := ⟨_, _, _, He.glo_ok X G (c.t.d.fact 46), F_accepts.kp, B_accepts, G_accepts⟩
  have G__law_span_right := ok__law_span_right (P := P) (base := base) T C__law_paper C__law_plain C__law_is_span C__law_sums C_accepts F__law_span_right
  have C__law_span_right : CalJ P w K mg base (clF K) 10 "_law_span_right" 3 m__law_span_right := ⟨_, _, _, He.glo_ok X G (c.t.d.fact 47), F__law_span_right.kp, B__law_span_right, G__law_span_right⟩
  have G__law_parting_right := ok__law_parting_right (P := P) (base := base) T C__law_sums C__law_draw C__law_paper C__law_is_span C__law_plain C_accepts F__law_parting_right
  have C__law_parting_right : CalJ P w K mg base (clF K) 10 "_law_parting_right" 2 m__law_parting_right := ⟨_, _, _, He.glo_ok X G (c.t.d.fact 48), F__law_parting_right.kp, B__law_parting_right, G__law_parting_right⟩
  have G__law_right := ok__law_right (P := P) (base := base) T C__law_small C__law_draw C__law_row C__law_span_right C__law_parting_right F__law_right
  have C__law_right : CalJ P w K mg base (clF K) 11 "_law_right" 1 m__law_right := ⟨_, _, _, He.glo_ok X G (c.t.d.fact 49), F__law_right.kp, B__law_right, G__law_right⟩
  have G_law := ok_law (P := P) (base := base) T C__law_source C__law_cell C__law_right F_law
  exact G_law
end
end VL

set_option Elab.async false
set_option linter.all false
set_option maxRecDepth 100000
set_option maxHeartbeats 0
/-! Gh: the head (printed by genhead.py). -/
namespace VL
open PySem PySem.Spec PyProof.Rows L2
def nm0 : List PySem.Str := ["MOST_LINES", "is_integer", "are_integers", "divisor_of", "is_fraction", "are_fractions", "common_bottom", "times_bottom", "sum_by", "Plain", "lowest", "plain_in", "plains_in", "MOST_NUMBERS", "are_ascending", "makes", "is_row", "begins_well", "span_in", "STATES", "LARGEST", "SIZES", "MODULI", "shows_same", "are_apart", "shows_apart", "shows_parting", "adds_to_nothing", "shows_relation", "row_behind"]
def nm1 : List PySem.Str := ["are_rests", "are_rows", "shows_rests", "shows_told", "accepts", "_law_cell", "_law_source", "_law_draw", "_law_image", "_law_digits", "_law_lines", "_law_at", "_law_number", "_law_row", "_law_rule", "_law_plain", "_law_joint", "_law_divisor", "_law_thin", "_law_fraction", "_law_cleared", "_law_factors", "_law_kept", "_law_small", "_law_drawn_row", "_law_paper", "_law_makes", "_law_is_span", "_law_sums", "_law_span_right"]
def nm2 : List PySem.Str := ["_law_parting_right", "_law_right"]
def nmL : List PySem.Str := nm0 ++ nm1 ++ nm2
abbrev R0 : PySem.W.OpenRow := PySem.W.OpenLaw.row PySem.Challenge.rw_halverules_k66_whole_accepted_claims_are
abbrev hkL : PySem.W.Hook := He.hookX 6 faL fnL tsL [] exB
def obL (s : PySem.W.SharedT) : He.AlX := He.obsX 6 faL fnL tsL [] exB (HandSHeadRun.getT s)
theorem ob_eqL (s : PySem.W.SharedT) : obL s = hkL.obs s.abs := He.obsX_eq (HandSHeadRun.getT_eq s)
theorem runF (w : World) : HandSHeadRun.RunEq R0 (PySem.W.view R0.prog [66]) hkL obL 6000 nmL (w.withFollow "special-get-raises" false) := by
  intro os
  kernel_rfl
theorem runT (w : World) : HandSHeadRun.RunEq R0 (PySem.W.view R0.prog [66]) hkL obL 6000 nmL (w.withFollow "special-get-raises" true) := by
  intro os
  kernel_rfl
theorem runL (w : World) : HandSHeadRun.RunEq R0 (PySem.W.view R0.prog [66]) hkL obL 6000 nmL w := PySem.W.byRow2 "special-get-raises" (P := fun w => HandSHeadRun.RunEq R0 (PySem.W.view R0.prog [66]) hkL obL 6000 nmL w) runF runT w
end VL

set_option Elab.async false
set_option linter.all false
set_option maxRecDepth 100000
set_option maxHeartbeats 1000000
/-! VLt: rules by which simp runs the functions on plain data. -/
namespace VL
open PySem PySem.Spec PyProof.Rows L2
@[simp] theorem fzn_ap (f : Ev) (env : Env') : fzn f env = (match f env with
  | some (.new m, env') => some (.val m.toD, env')
  | r => r) := rfl
@[simp] theorem fVar_ap (i : Nat) (env : Env') : fVar i env = (match env[i]? with
  | some (.val d) => some (.val d, env)
  | some (.own _) => some (.slot i, env)
  | some (.par _) => some (.slot i, env)
  | _ => none) := rfl
@[simp] theorem fC_ap (d : D) (env : Env') : fC d env = (some (.val d, env)) := rfl
@[simp] theorem e1_ap (g : D → Option Bv) (fa : Ev) (env : Env') : e1 g fa env = (match fzn fa env with
  | some (b, env1) => match b.get env1 with
    | some d => (g d).map fun r => (r, env1)
    | none => none
  | none => none) := rfl
@[simp] theorem e2_ap (g : D → D → Option Bv) (fa fb : Ev) (env : Env') : e2 g fa fb env = (match fzn fa env with
  | some (b, env1) => match fzn fb env1 with
    | some (c, env2) => match b.get env2, c.get env2 with
      | some d, some e => (g d e).map fun r => (r, env2)
      | _, _ => none
    | none => none
  | none => none) := rfl
@[simp] theorem aNil_ap  (env : Env') : aNil  env = (some ([], env)) := rfl
@[simp] theorem aCons_ap (f : Ev) (r : Evs) (env : Env') : aCons f r env = (match fzn f env with
  | some (b, env1) => (r env1).map fun p => (b :: p.1, p.2)
  | none => none) := rfl
@[simp] theorem eN_ap (g : List D → Option Bv) (f : Evs) (env : Env') : eN g f env = (match f env with
  | some (bs, env1) => match gets env1 bs with
    | some ds => (g ds).map fun r => (r, env1)
    | none => none
  | none => none) := rfl
@[simp] theorem tb_ap (f : Ev) (env : Env') : tb f env = (match f env with
  | some (.val (.bl k), env') => some (k, env')
  | _ => none) := rfl
@[simp] theorem tN_ap (f : Tv) (env : Env') : tN f env = ((f env).map fun p => (!p.1, p.2)) := rfl
@[simp] theorem tA_ap (f g : Tv) (env : Env') : tA f g env = (match f env with
  | some (true, env') => g env'
  | r => r) := rfl
@[simp] theorem tO_ap (f g : Tv) (env : Env') : tO f g env = (match f env with
  | some (false, env') => g env'
  | r => r) := rfl
@[simp] theorem eA_ap (f g : Ev) (env : Env') : eA f g env = (match f env with
  | some (.val (.bl true), env') => g env'
  | some (.val (.bl false), env') => some (.val (.bl false), env')
  | _ => none) := rfl
@[simp] theorem eO_ap (f g : Ev) (env : Env') : eO f g env = (match f env with
  | some (.val (.bl false), env') => g env'
  | some (.val (.bl true), env') => some (.val (.bl true), env')
  | _ => none) := rfl
@[simp] theorem eNot_ap (f : Ev) (env : Env') : eNot f env = (match f env with
  | some (.val (.bl k), env') => some (.val (.bl (!k)), env')
  | _ => none) := rfl
@[simp] theorem eIf_ap (t : Tv) (f g : Ev) (env : Env') : eIf t f g env = (match t env with
  | some (true, env') => f env'
  | some (false, env') => g env'
  | none => none) := rfl
@[simp] theorem eCh_ap (g g' : D → D → Option Bv) (fa fb fc : Ev) (env : Env') : eCh g g' fa fb fc env = (match fzn fa env with
  | some (b1, e1) => match fzn fb e1 with
    | some (b2, e2) => match b1.get e2, b2.get e2 with
      | some d1, some d2 => match isB (g d1 d2) with
        | some true => match fzn fc e2 with
          | some (b3, e3) => match b2.get e3, b3.get e3 with
            | some d2', some d3 => (isB (g' d2' d3)).map fun k => (.val (.bl k), e3)
            | _, _ => none
          | none => none
        | some false => some (.val (.bl false), e2)
        | none => none
      | _, _ => none
    | none => none
  | none => none) := rfl
@[simp] theorem fz_ap (f : Ev) (env : Env') : fz f env = (match fzn f env with
  | some (.slot i, env1) => match env1[i]? with
    | some (.own m) => some (.val m.toD, env1.set i (.val m.toD))
    | some (.val d) => some (.val d, env1)
    | _ => none
  | r => r) := rfl
@[simp] theorem sNx_ap  (env : Env') : sNx  env = (some (.nx, env)) := rfl
@[simp] theorem sSeq_ap (f g : Sm) (env : Env') : sSeq f g env = (match f env with
  | some (.nx, env') => g env'
  | r => r) := rfl
@[simp] theorem sEx_ap (f : Ev) (env : Env') : sEx f env = (match f env with
  | some (_, env') => some (.nx, env')
  | none => none) := rfl
@[simp] theorem sBk_ap  (env : Env') : sBk  env = (some (.bk, env)) := rfl
@[simp] theorem sCt_ap  (env : Env') : sCt  env = (some (.ct, env)) := rfl
@[simp] theorem fzs_ap (f : Ev) (env : Env') : fzs f env = (match f env with
  | some (.new m, env') => some (.new m, env')
  | _ => fz f env) := rfl
@[simp] theorem sRet_ap (f : Ev) (env : Env') : sRet f env = (match f env with
  | some (.val d, env') => some (.rt (.val d), env')
  | some (.new m, env') => some (.rt (.new m), env')
  | some (.slot i, env') => match env'[i]? with
    | some (.own m) => some (.rt (.new m), env'.set i .no)
    | some (.val d) => some (.rt (.val d), env')
    | _ => none
  | none => none) := rfl
@[simp] theorem sIf_ap (t : Tv) (f g : Sm) (env : Env') : sIf t f g env = (match t env with
  | some (true, env') => f env'
  | some (false, env') => g env'
  | none => none) := rfl
@[simp] theorem sSet_ap (i : Nat) (f : Ev) (env : Env') : sSet i f env = (match fzs f env with
  | some (b, env1) => (put i b env1).map fun e => (.nx, e)
  | none => none) := rfl
@[simp] theorem sAsg_ap (t : Tg) (f : Ev) (env : Env') : sAsg t f env = (match fz f env with
  | some (.val d, env1) => (asg t d env1).map fun e => (.nx, e)
  | _ => none) := rfl
@[simp] theorem sIx_ap (i : Nat) (fi fv : Ev) (env : Env') : sIx i fi fv env = (match fz fv env with
  | some (.val d, e1) => match isMut e1 i, fzn fi e1 with
    | true, some (.val (.int k), e2) => (setIx i k d e2).map fun e => (.nx, e)
    | _, _ => none
  | _ => none) := rfl
@[simp] theorem iSq_ap (f : Ev) (env : Env') : iSq f env = (match fz f env with
  | some (.val (.lst xs), e) => some (xs, e)
  | some (.val (.tup xs), e) => some (xs, e)
  | some (.val (.fl xs), e) => some (xs, e)
  | _ => none) := rfl
@[simp] theorem iRan1_ap (f : Evs) (env : Env') : iRan1 f env = (match f env with
  | some ([.val (.int j)], e) => if okR j = true then some (fromN 0 1 j.toNat, e) else none
  | _ => none) := rfl
@[simp] theorem iRan2_ap (f : Evs) (env : Env') : iRan2 f env = (match f env with
  | some ([.val (.int i), .val (.int j)], e) => if okR i = true ∧ okR j = true then some (fromN i 1 (j - i).toNat, e) else none
  | _ => none) := rfl
@[simp] theorem sFor_ap (t : Tg) (fi : Iv) (body : Sm) (env : Env') : sFor t fi body env = (match fi env with
  | some (ds, e1) => forL t body ds e1
  | none => none) := rfl
@[simp] theorem eComp_ap (vs : List Nat) (t : Tg) (fi : Iv) (ft : Tv) (fe : Ev) (env : Env') : eComp vs t fi ft fe env = (match fi env with
  | some (ds, e1) => if clean vs e1 = true ∧ ds.length < sizeLine then (compL vs t ft fe ds (wipeE e1 vs)).map fun p => (.new (.lst p.1), restoreE e1 p.2 vs) else none
  | none => none) := rfl
@[simp] theorem eComp2_ap (vs vs1 : List Nat) (t : Tg) (fi : Iv) (ft : Tv) (fi1 : Iv) (t1 : Tg) (ft1 : Tv) (fe : Ev) (env : Env') : eComp2 vs vs1 t fi ft fi1 t1 ft1 fe env = (match fi env with
  | some (ds, e1) => match clean vs e1 with
    | true => match compL2 vs vs1 t ft fi1 t1 ft1 fe ds (wipeE e1 vs) with
      | some (ys, e2) => if ys.length ≤ sizeLine then some (.new (.lst ys), restoreE e1 e2 vs) else none
      | none => none
    | false => none
  | none => none) := rfl
@[simp] theorem tYs_ap  (env : Env') : tYs  env = (some (true, env)) := rfl
@[simp] theorem eCall_ap (M : List D → Option Bv) (f : Evs) (env : Env') : eCall M f env = (match f env with
  | some (bs, e1) => match vals bs with
    | some ds => (M ds).map fun r => (r, e1)
    | none => none
  | none => none) := rfl
@[simp] theorem eCallI_ap (M : MO → List D → Option (Bv × MO)) (f : Evs) (env : Env') : eCallI M f env = (match f env with
  | some (.slot i :: bs, e1) => match e1[i]?, vals bs with
    | some l, some ds => match l.mo with
      | some m => (M m ds).map fun r => (r.1, e1.set i (l.with r.2))
      | none => none
    | _, _ => none
  | _ => none) := rfl
@[simp] theorem pNone_ap  (env : Env') : pNone  env = (some (none, env)) := rfl
@[simp] theorem pSome_ap (f : Ev) (env : Env') : pSome f env = (match fzn f env with
  | some (.val (.int i), e) => some (some i, e)
  | _ => none) := rfl
@[simp] theorem eSl_ap (f : Ev) (fl fh : Pv) (env : Env') : eSl f fl fh env = (match fzn f env with
  | some (b, e1) => match fl e1 with
    | some (lo, e2) => match fh e2 with
      | some (hi, e3) => match b.get e3 with
        | some d => (dCut d lo hi).map fun r => (r, e3)
        | none => none
      | none => none
    | none => none
  | none => none) := rfl
@[simp] theorem eLst_ap (f : Evs) (env : Env') : eLst f env = (match f env with
  | some (bs, e1) => match vals bs with
    | some ds => if ds.length ≤ sizeLine then some (.new (.lst ds), e1) else none
    | none => none
  | none => none) := rfl
@[simp] theorem eTup_ap (f : Evs) (env : Env') : eTup f env = (match f env with
  | some (bs, e1) => match vals bs with
    | some ds => if ds.length ≤ sizeLine then some (.val (.tup ds), e1) else none
    | none => none
  | none => none) := rfl
@[simp] theorem sApp_ap (i : Nat) (f : Ev) (env : Env') : sApp i f env = (match isLst env i, fz f env with
  | true, some (.val d, e1) => match (e1[i]? : Option Sl) with
    | some (.own (.lst xs)) => if xs.length < sizeLine then some (.nx, e1.set i (.own (.lst (xs ++ [d])))) else none
    | some (.par (.lst xs)) => if xs.length < sizeLine then some (.nx, e1.set i (.par (.lst (xs ++ [d])))) else none
    | _ => none
  | _, _ => none) := rfl
@[simp] theorem sNil_ap  (env : Env') : sNil  env = (some ([], env)) := rfl
@[simp] theorem sCons_ap (f : Ev) (r : Evs) (env : Env') : sCons f r env = (match fzs f env with
  | some (b, env1) => (r env1).map fun p => (b :: p.1, p.2)
  | none => none) := rfl
@[simp] theorem sPar_ap (is : List Nat) (f : Evs) (env : Env') : sPar is f env = (match f env with
  | some (bs, e1) => (putAll is bs e1).map fun e => (.nx, e)
  | none => none) := rfl
@[simp] theorem sFldS_ap (c : Nat) (i : Nat) (x : Str) (f : Ev) (env : Env') : sFldS c i x f env = (match fz f env with
  | some (.val d, e1) => match (e1[i]? : Option Sl) with
    | some (.own (.ins c' fs)) => if c' = c ∧ fs.length < 1000 then some (.nx, e1.set i (.own (.ins c' (putD x d fs)))) else none
    | some (.par (.ins c' fs)) => if c' = c ∧ fs.length < 1000 then some (.nx, e1.set i (.par (.ins c' (putD x d fs)))) else none
    | _ => none
  | _ => none) := rfl
@[simp] theorem eMk_ap (c : Nat) (M : MO → List D → Option (Bv × MO)) (f : Evs) (env : Env') : eMk c M f env = (match f env with
  | some (bs, e1) => match vals bs with
    | some ds => match M (.ins c []) ds with
      | some (.val .non, m') => some (.new m', e1)
      | _ => none
    | none => none
  | none => none) := rfl
@[simp] theorem eMeth_ap (c : Nat) (x : Str) (M : List D → Option Bv) (fo : Ev) (f : Evs) (env : Env') : eMeth c x M fo f env = (match fz fo env with
  | some (.val (.ins c' fs), e1) => if c' = c ∧ fs.lookup x = none then match f e1 with
      | some (bs, e2) => match vals bs with
        | some ds => (M (.ins c' fs :: ds)).map fun r => (r, e2)
        | none => none
      | none => none
    else none
  | _ => none) := rfl
@[simp] theorem iZp_ap (fa fb : Ev) (env : Env') : iZp fa fb env = (match fz fa env with
  | some (.val d, e1) => match fz fb e1 with
    | some (.val d2, e2) => match seqD d, seqD d2 with
      | some xs, some ys => some (List.zipWith (fun x y => D.tup [x, y]) xs ys, e2)
      | _, _ => none
    | _ => none
  | _ => none) := rfl
@[simp] theorem iEn_ap (fa : Ev) (env : Env') : iEn fa env = (match fz fa env with
  | some (.val d, e1) => match seqD d with
    | some xs => some (enumD 0 xs, e1)
    | none => none
  | _ => none) := rfl
@[simp] theorem eIndex_ap (fo f : Ev) (env : Env') : eIndex fo f env = (match fz fo env with
  | some (.val (.lst xs), e1) => match fz f e1 with
    | some (.val (.int k), e2) => match intsD xs with
      | some ns => (idxI k ns).map fun j => (.val (.int (j : Nat)), e2)
      | none => none
    | _ => none
  | _ => none) := rfl
@[simp] theorem eGet_ap (kvs : List (Str × D)) (f : Ev) (env : Env') : eGet kvs f env = (match fz f env with
  | some (.val (.str x), e1) => (kvs.lookup x).map fun d => (.val d, e1)
  | _ => none) := rfl
@[simp] theorem eLR_ap (f : Evs) (env : Env') : eLR f env = (match f env with
  | some ([.val (.int j)], e) => if 0 ≤ j ∧ j ≤ 16777216 then some (.new (.lst (fromN 0 1 j.toNat)), e) else none
  | _ => none) := rfl
@[simp] theorem pureE_ap (f : Ev) (env : Env') : pureE f env = (match f (env.map Sl.lend) with
  | some (.val d, _) => if scalD d = true then some (.val d, env) else none
  | _ => none) := rfl
@[simp] theorem get_val (env : Env') (d : D) : (Bv.val d).get env = some d := rfl
@[simp] theorem get_slot (env : Env') (i : Nat) : (Bv.slot i).get env = (match env[i]? with
  | some (.val d) => some d
  | some (.own m) => some m.toD
  | some (.par m) => some m.toD
  | _ => none) := rfl
@[simp] theorem toD_lst (xs : List D) : (MO.lst xs).toD = .lst xs := rfl
@[simp] theorem toD_ins (c : Nat) (fs : List (Str × D)) : (MO.ins c fs).toD = .ins c fs := rfl
@[simp] theorem gets_nil (env : Env') : gets env [] = some [] := rfl
@[simp] theorem gets_cons (env : Env') (b : Bv) (bs : List Bv) : gets env (b :: bs) = (match b.get env, gets env bs with
  | some d, some ds => some (d :: ds)
  | _, _ => none) := rfl
@[simp] theorem vals_nil : vals [] = some [] := rfl
@[simp] theorem vals_cons (d : D) (bs : List Bv) : vals (.val d :: bs) = (vals bs).map (d :: ·) := rfl
@[simp] theorem isB_bl (k : Bool) : isB (some (.val (.bl k))) = some k := rfl
@[simp] theorem put_val (i : Nat) (d : D) (env : Env') : put i (.val d) env = (if canSet env i = true then some (env.set i (.val d)) else none) := by
  unfold put
  cases canSet env i <;> rfl
@[simp] theorem put_new (i : Nat) (m : MO) (env : Env') : put i (.new m) env = (if canSet env i = true then some (env.set i (.own m)) else none) := by
  unfold put
  cases canSet env i <;> rfl
@[simp] theorem canSet_ap (env : Env') (i : Nat) : canSet env i = (match env[i]? with
  | some l => l.free
  | none => false) := rfl
@[simp] theorem free_no : Sl.free .no = true := rfl
@[simp] theorem free_val (d : D) : Sl.free (.val d) = true := rfl
@[simp] theorem free_own (m : MO) : Sl.free (.own m) = true := rfl
@[simp] theorem free_par (m : MO) : Sl.free (.par m) = false := rfl
@[simp] theorem putAll_nil (env : Env') : putAll [] [] env = some env := rfl
@[simp] theorem putAll_cons (i : Nat) (is : List Nat) (b : Bv) (bs : List Bv) (env : Env') : putAll (i :: is) (b :: bs) env = (match put i b env with
  | some e => putAll is bs e
  | none => none) := rfl
@[simp] theorem asg_nm (i : Nat) (d : D) (env : Env') : asg (.nm i) d env = put i (.val d) env := by simp only [asg]
@[simp] theorem asg_ix (i : Nat) (k : Int) (d : D) (env : Env') : asg (.ix i k) d env = setIx i k d env := by simp only [asg]
@[simp] theorem asg_tp (ts : List Tg) (xs : List D) (env : Env') : asg (.tp ts) (.tup xs) env = (if xs.length = ts.length then asgs ts xs env else none) := by simp only [asg]
@[simp] theorem asgs_nil (env : Env') : asgs [] [] env = some env := by simp only [asgs]
@[simp] theorem asgs_cons (t : Tg) (ts : List Tg) (d : D) (ds : List D) (env : Env') : asgs (t :: ts) (d :: ds) env = (match asg t d env with
  | some e => asgs ts ds e
  | none => none) := by
  simp only [asgs]
  try rfl
@[simp] theorem setIx_ap (i : Nat) (k : Int) (d : D) (env : Env') : setIx i k d env = (match env[i]? with
  | some (.own (.lst xs)) => (ixN xs.length k).map fun j => env.set i (.own (.lst (xs.set j d)))
  | some (.par (.lst xs)) => (ixN xs.length k).map fun j => env.set i (.par (.lst (xs.set j d)))
  | _ => none) := rfl
@[simp] theorem isMut_ap (env : Env') (i : Nat) : isMut env i = (match env[i]? with
  | some l => l.mo.isSome
  | none => false) := rfl
@[simp] theorem mo_own (m : MO) : Sl.mo (.own m) = some m := rfl
@[simp] theorem mo_par (m : MO) : Sl.mo (.par m) = some m := rfl
@[simp] theorem mo_val (d : D) : Sl.mo (.val d) = none := rfl
@[simp] theorem mo_no : Sl.mo .no = none := rfl
@[simp] theorem with_own (m m' : MO) : (Sl.own m).with m' = .own m' := rfl
@[simp] theorem with_par (m m' : MO) : (Sl.par m).with m' = .par m' := rfl
@[simp] theorem isLst_ap (env : Env') (i : Nat) : isLst env i = (match env[i]? with
  | some (.own (.lst _)) => true
  | some (.par (.lst _)) => true
  | _ => false) := rfl
@[simp] theorem wipeE_nil (env : Env') : wipeE env [] = env := rfl
@[simp] theorem wipeE_cons (env : Env') (v : Nat) (vs : List Nat) : wipeE env (v :: vs) = (wipeE env vs).set v .no := rfl
@[simp] theorem restoreE_nil (e1 e2 : Env') : restoreE e1 e2 [] = e2 := rfl
@[simp] theorem restoreE_cons (e1 e2 : Env') (v : Nat) (vs : List Nat) : restoreE e1 e2 (v :: vs) = (match e1[v]? with
  | some l => (restoreE e1 e2 vs).set v l
  | none => restoreE e1 e2 vs) := rfl
@[simp] theorem clean_nil (env : Env') : clean [] env = true := rfl
@[simp] theorem clean_cons (v : Nat) (vs : List Nat) (env : Env') : clean (v :: vs) env = ((match env[v]? with
  | some (.own _) => false
  | some (.par _) => false
  | _ => true) && clean vs env) := rfl
@[simp] theorem lend_own' (m : MO) : Sl.lend (.own m) = .val m.toD := rfl
@[simp] theorem lend_par' (m : MO) : Sl.lend (.par m) = .val m.toD := rfl
@[simp] theorem lend_val' (d : D) : Sl.lend (.val d) = .val d := rfl
@[simp] theorem lend_no' : Sl.lend .no = .no := rfl
@[simp] theorem scal_int (i : Int) : scalD (.int i) = true := rfl
/-! ### operators -/
@[simp] theorem dAdd_int (i j : Int) : dAdd (.int i) (.int j) = some (vI (i + j)) := rfl
@[simp] theorem dAdd_lst (xs ys : List D) : dAdd (.lst xs) (.lst ys) = (if xs.length + ys.length ≤ sizeLine then some (.new (.lst (xs ++ ys))) else none) := rfl
@[simp] theorem dSub_int (i j : Int) : dSub (.int i) (.int j) = some (vI (i - j)) := rfl
@[simp] theorem dMul_int (i j : Int) : dMul (.int i) (.int j) = (if mulOk i j = true then some (vI (i * j)) else none) := rfl
@[simp] theorem dMul_lst (xs : List D) (k : Int) : dMul (.lst xs) (.int k) = (if 0 ≤ k ∧ k < 2 ^ 62 ∧ xs.length * k.toNat ≤ sizeLine then some (.new (.lst (List.replicate k.toNat xs).flatten)) else none) := rfl
@[simp] theorem dFdiv_int (i j : Int) : dFdiv (.int i) (.int j) = (if divOk j = true then some (vI (i / j)) else none) := rfl
@[simp] theorem dFdivN_int (i j : Int) : dFdivN (.int i) (.int j) = (if j ≠ 0 ∧ j.natAbs.log2 < 9000 then some (vI (i.fdiv j)) else none) := rfl
@[simp] theorem dMod_int (i j : Int) : dMod (.int i) (.int j) = (if 0 < j then some (vI (i % j)) else none) := rfl
@[simp] theorem dPow_int (i j : Int) : dPow (.int i) (.int j) = (if 0 ≤ j ∧ j ≤ 1000 ∧ -1000000 ≤ i ∧ i ≤ 1000000 then some (vI (i ^ j.toNat)) else none) := rfl
@[simp] theorem dNeg_int (i : Int) : dNeg (.int i) = some (vI (-i)) := rfl
@[simp] theorem dCmp_int (p : Int → Int → Bool) (i j : Int) : dCmp p (.int i) (.int j) = some (vB (p i j)) := rfl
@[simp] theorem dIsN_non (d : D) : dIsN d .non = some (vB d.isN) := rfl
@[simp] theorem dNotN_non (d : D) : dNotN d .non = some (vB (!d.isN)) := rfl
@[simp] theorem isN_non : D.isN .non = true := rfl
@[simp] theorem isN_int (i : Int) : D.isN (.int i) = false := rfl
@[simp] theorem isN_tup (xs : List D) : D.isN (.tup xs) = false := rfl
@[simp] theorem isN_lst (xs : List D) : D.isN (.lst xs) = false := rfl
@[simp] theorem isN_ins (c : Nat) (fs : List (Str × D)) : D.isN (.ins c fs) = false := rfl
@[simp] theorem isN_bl (b : Bool) : D.isN (.bl b) = false := rfl
@[simp] theorem items_lst (xs : List D) : D.items (.lst xs) = some xs := rfl
@[simp] theorem items_tup (xs : List D) : D.items (.tup xs) = some xs := rfl
@[simp] theorem items_fl (xs : List D) : D.items (.fl xs) = some xs := rfl
@[simp] theorem dIx_tup (xs : List D) (i : Int) : dIx (.tup xs) (.int i) = (atI xs i).map .val := rfl
@[simp] theorem dIx_lst (xs : List D) (i : Int) : dIx (.lst xs) (.int i) = (atI xs i).map .val := rfl
@[simp] theorem dIx_fl (xs : List D) (i : Int) : dIx (.fl xs) (.int i) = (atI xs i).map .val := rfl
@[simp] theorem dLen_tup (xs : List D) : dLen [.tup xs] = some (vI xs.length) := rfl
@[simp] theorem dLen_lst (xs : List D) : dLen [.lst xs] = some (vI xs.length) := rfl
@[simp] theorem dLen_fl (xs : List D) : dLen [.fl xs] = some (vI xs.length) := rfl
@[simp] theorem dAbs_int (i : Int) : dAbs [.int i] = some (vI i.natAbs) := rfl
@[simp] theorem dInt_int (i : Int) : dInt [.int i] = some (vI i) := rfl
@[simp] theorem dInt_bl (b : Bool) : dInt [.bl b] = some (vI (if b then 1 else 0)) := rfl
@[simp] theorem dSum_lst (xs : List D) : dSum [.lst xs] = (intsD xs).map fun ns => vI ns.sum := rfl
@[simp] theorem dAll_lst (xs : List D) : dAll [.lst xs] = (blsD xs).map fun ns => vB (ns.all id) := rfl
@[simp] theorem dAny_lst (xs : List D) : dAny [.lst xs] = (blsD xs).map fun ns => vB (ns.any id) := rfl
@[simp] theorem dList_tup (xs : List D) : dList [.tup xs] = some (.new (.lst xs)) := rfl
@[simp] theorem dList_lst (xs : List D) : dList [.lst xs] = some (.new (.lst xs)) := rfl
@[simp] theorem dTuple_lst (xs : List D) : dTuple [.lst xs] = some (.val (.tup xs)) := rfl
@[simp] theorem dMax2_int (i j : Int) : dMax2 [.int i, .int j] = some (vI (max i j)) := rfl
@[simp] theorem dMin2_int (i j : Int) : dMin2 [.int i, .int j] = some (vI (min i j)) := rfl
@[simp] theorem dDivmod_int (i j : Int) : dDivmod [.int i, .int j] = (if 0 < j ∧ j < 1073741824 then some (.val (.tup [.int (i / j), .int (i % j)])) else none) := rfl
@[simp] theorem dRev_lst (xs : List D) : dRev (.lst xs) = some (.new (.lst xs.reverse)) := rfl
@[simp] theorem dCut_lst (xs : List D) (lo hi : Option Int) : dCut (.lst xs) lo hi = some (.new (.lst (cutD xs lo hi))) := rfl
@[simp] theorem dCut_fl (xs : List D) (lo hi : Option Int) : dCut (.fl xs) lo hi = some (.new (.lst (cutD xs lo hi))) := rfl
@[simp] theorem dCut_tup (xs : List D) (lo hi : Option Int) : dCut (.tup xs) lo hi = some (.val (.tup (cutD xs lo hi))) := rfl
@[simp] theorem seqD_lst (xs : List D) : seqD (.lst xs) = some xs := rfl
@[simp] theorem seqD_tup (xs : List D) : seqD (.tup xs) = some xs := rfl
@[simp] theorem isi_int_int (i : Int) : dIsi [.int i, .ty "int"] = some (vB true) := by kernel_rfl
@[simp] theorem isi_int_bool (i : Int) : dIsi [.int i, .ty "bool"] = some (vB false) := by kernel_rfl
@[simp] theorem isi_tup_tup (xs : List D) : dIsi [.tup xs, .ty "tuple"] = some (vB true) := by kernel_rfl
@[simp] theorem isi_non_tup : dIsi [.non, .ty "tuple"] = some (vB false) := by kernel_rfl
@[simp] theorem isi_str_str (x : Str) : dIsi [.str x, .ty "str"] = some (vB true) := by kernel_rfl
@[simp] theorem fld_ap (c : Nat) (x : Str) (f : Ev) (env : Env') : eFld c x f env = e1 (fun d => match d with
  | .ins c' fs => if c' = c then (fs.lookup x).map .val else none
  | _ => none) f env := rfl
/-! ### the outcome of a def -/
theorem runV_eq {N n : Nat} {body : Sm} {ds : List D} (h : ds.length = n) : runV N n body ds = outB (body (ds.map .val ++ List.replicate (N - n) .no)) := by unfold runV; rw [if_pos h]
theorem runI_eq {N n : Nat} {body : Sm} {m : MO} {ds : List D} (h : ds.length + 1 = n) : runI N n body m ds = (match body (Sl.par m :: (ds.map Sl.val ++ List.replicate (N - n) .no)) with
    | some (o, env) => match outB (some (o, env)), (env[0]? : Option Sl) with
      | some b, some (Sl.par m') => some (b, m')
      | _, _ => none
    | none => none) := by
  unfold runI
  rw [if_pos h]
  try rfl
@[simp] theorem outB_val (d : D) (e : Env') : outB (some (.rt (.val d), e)) = some (.val d) := rfl
@[simp] theorem outB_new (m : MO) (e : Env') : outB (some (.rt (.new m), e)) = some (.new m) := rfl
@[simp] theorem outB_nx (e : Env') : outB (some (.nx, e)) = some (.val .non) := rfl
theorem runV1 {N : Nat} {b : Sm} {x : D} : runV N 1 b [x] = outB (b (.val x :: List.replicate (N - 1) .no)) := rfl
theorem runV2 {N : Nat} {b : Sm} {x y : D} : runV N 2 b [x, y] = outB (b (.val x :: .val y :: List.replicate (N - 2) .no)) := rfl
theorem runV3 {N : Nat} {b : Sm} {x y z : D} : runV N 3 b [x, y, z] = outB (b (.val x :: .val y :: .val z :: List.replicate (N - 3) .no)) := rfl
theorem runV4 {N : Nat} {b : Sm} {x y z u : D} : runV N 4 b [x, y, z, u] = outB (b (.val x :: .val y :: .val z :: .val u :: List.replicate (N - 4) .no)) := rfl
theorem runV6 {N : Nat} {b : Sm} {x y z u v w : D} : runV N 6 b [x, y, z, u, v, w] = outB (b (.val x :: .val y :: .val z :: .val u :: .val v :: .val w :: List.replicate (N - 6) .no)) := rfl
/-- what a def with an argument of the caller's leaves -/
def outI (r : Option (Out × Env')) : Option (Bv × MO) := match r with
  | some (o, env) => match outB (some (o, env)), (env[0]? : Option Sl) with
    | some b, some (Sl.par m') => some (b, m')
    | _, _ => none
  | none => none
@[simp] theorem outI_val (d : D) (m : MO) (e : Env') : outI (some (.rt (.val d), .par m :: e)) = some (.val d, m) := rfl
@[simp] theorem outI_new (n m : MO) (e : Env') : outI (some (.rt (.new n), .par m :: e)) = some (.new n, m) := rfl
@[simp] theorem outI_nx (m : MO) (e : Env') : outI (some (.nx, .par m :: e)) = some (.val .non, m) := rfl
theorem runI1 {N : Nat} {b : Sm} {m : MO} : runI N 1 b m [] = outI (b (.par m :: List.replicate (N - 1) .no)) := rfl
theorem runI2 {N : Nat} {b : Sm} {m : MO} {x : D} : runI N 2 b m [x] = outI (b (.par m :: .val x :: List.replicate (N - 2) .no)) := rfl
theorem runI3 {N : Nat} {b : Sm} {m : MO} {x y : D} : runI N 3 b m [x, y] = outI (b (.par m :: .val x :: .val y :: List.replicate (N - 3) .no)) := rfl
theorem runI5 {N : Nat} {b : Sm} {m : MO} {x y z u : D} : runI N 5 b m [x, y, z, u] = outI (b (.par m :: .val x :: .val y :: .val z :: .val u :: List.replicate (N - 5) .no)) := rfl
/-! ### sizes -/
theorem mulOk_r {i j : Int} (h : j.natAbs < 2 ^ 60) : mulOk i j = true := by
  have : j.natAbs.log2 < 60 := by
    by_cases z : j.natAbs = 0
    · rw [z]; decide
    · exact (Nat.log2_lt z).mpr h
  unfold mulOk
  simp [this]
theorem mulOk_l {i j : Int} (h : i.natAbs < 2 ^ 60) : mulOk i j = true := by
  have : i.natAbs.log2 < 60 := by
    by_cases z : i.natAbs = 0
    · rw [z]; decide
    · exact (Nat.log2_lt z).mpr h
  unfold mulOk
  simp [this]
@[simp] theorem mulOk_lit (i : Int) (n : Nat) (h : n < 1152921504606846976) : mulOk i (no_index (OfNat.ofNat n)) = true := mulOk_r (by show Int.natAbs (Int.ofNat n) < _; simpa using h)
@[simp] theorem mulOk_litl (i : Int) (n : Nat) (h : n < 1152921504606846976) : mulOk (no_index (OfNat.ofNat n)) i = true := mulOk_l (by show Int.natAbs (Int.ofNat n) < _; simpa using h)
/-- within n bits -/
def Bd (n : Nat) (x : Int) : Prop := x.natAbs < 2 ^ n
theorem Bd.mono {n m : Nat} {x : Int} (h : Bd n x) (hm : n ≤ m) : Bd m x := Nat.lt_of_lt_of_le h (Nat.pow_le_pow_right (by decide) hm)
theorem Bd.log {n : Nat} {x : Int} (h : Bd (n + 1) x) : x.natAbs.log2 ≤ n := by
  by_cases z : x.natAbs = 0
  · rw [z]; exact Nat.zero_le _
  · exact Nat.lt_succ_iff.mp ((Nat.log2_lt z).mpr h)
theorem Bd.log' {n : Nat} {x : Int} (h : Bd n x) : x.natAbs.log2 ≤ n := Bd.log (h.mono (Nat.le_succ n))
theorem Bd.mul {n m : Nat} {x y : Int} (h : Bd n x) (g : Bd m y) : Bd (n + m) (x * y) := by
  unfold Bd at *
  rw [Int.natAbs_mul, Nat.pow_add]
  exact Nat.mul_lt_mul'' h g
theorem Bd.add {n : Nat} {x y : Int} (h : Bd n x) (g : Bd n y) : Bd (n + 1) (x + y) := by
  unfold Bd at *
  have := Int.natAbs_add_le x y
  rw [Nat.pow_succ]
  omega
theorem Bd.sub {n : Nat} {x y : Int} (h : Bd n x) (g : Bd n y) : Bd (n + 1) (x - y) := by
  unfold Bd at *
  have := Int.natAbs_sub_le x y
  rw [Nat.pow_succ]
  omega
theorem Bd.neg {n : Nat} {x : Int} (h : Bd n x) : Bd n (-x) := by
  unfold Bd at *
  rwa [Int.natAbs_neg]
theorem Bd.ok {n m : Nat} {x y : Int} (h : Bd n x) (g : Bd m y) (hs : n + m < 134217700 := by omega) : mulOk x y = true := by
  have h1 := h.log'
  have h2 := g.log'
  unfold mulOk
  simp only [Bool.or_eq_true, decide_eq_true_iff]
  omega
theorem Bd.div {n : Nat} {x : Int} (h : Bd n x) (p : 0 < x) (hn : n ≤ 9000 := by omega) : divOk x = true := by
  have h1 : x.natAbs.log2 < 9000 := by
    have hz : x.natAbs ≠ 0 := by omega
    exact Nat.lt_of_lt_of_le ((Nat.log2_lt hz).mpr h) hn
  unfold divOk
  simp [p, h1]
@[simp] theorem divOk_lit (n : Nat) (h : n < 1152921504606846976) (p : 0 < n) : divOk (no_index (OfNat.ofNat n)) = true :=
  Bd.div (n := 60) (by show Int.natAbs (Int.ofNat n) < _; simpa using h) (by show (0 : Int) < Int.ofNat n; simpa using p)
@[simp] theorem okR_lit (n : Nat) (h : n < 1152921504606846976) : okR (no_index (OfNat.ofNat n)) = true := okR_mk (by show Int.natAbs ((n : Nat) : Int) ≤ _; omega)
theorem okR_nat {n : Nat} (h : n < 2 ^ 60) : okR (n : Int) = true := okR_mk (by omega)
theorem sizeLine_n {n : Nat} (h : n ≤ 10000) : n ≤ sizeLine := Nat.le_trans h (by decide)
theorem sizeLine_l {n : Nat} (h : n ≤ 10000) : n < sizeLine := Nat.lt_of_le_of_lt h (by decide)
/-! ### loops -/
theorem whileN_succ {t : Tv} {body : Sm} {n : Nat} {env : Env'} : whileN t body (n + 1) env = (match t env with
    | some (true, e1) => match body e1 with
      | some (.nx, e2) => whileN t body n e2
      | some (.ct, e2) => whileN t body n e2
      | some (.bk, e2) => some (.nx, e2)
      | some (.rt b, e2) => some (.rt b, e2)
      | none => none
    | some (false, e1) => some (.nx, e1)
    | none => none) := rfl
theorem forL_cons {t : Tg} {body : Sm} {d : D} {ds : List D} {env : Env'} : forL t body (d :: ds) env = (match asg t d env with
    | some e1 => match body e1 with
      | some (.nx, e2) => forL t body ds e2
      | some (.ct, e2) => forL t body ds e2
      | some (.bk, e2) => some (.nx, e2)
      | some (.rt b, e2) => some (.rt b, e2)
      | none => none
    | none => none) := rfl
@[simp] theorem forL_nil {t : Tg} {body : Sm} {env : Env'} : forL t body [] env = some (.nx, env) := rfl
@[simp] theorem compL_nil {vs : List Nat} {t : Tg} {ft : Tv} {fe : Ev} {env : Env'} : compL vs t ft fe [] env = some ([], env) := rfl
theorem compL_cons {vs : List Nat} {t : Tg} {ft : Tv} {fe : Ev} {d : D} {ds : List D} {env : Env'} : compL vs t ft fe (d :: ds) env = (match asg t d env with
    | some e1 => match ft e1 with
      | some (true, e2) => match fz fe e2 with
        | some (.val y, e3) => match clean vs e3 with
          | true => (compL vs t ft fe ds (wipeE e3 vs)).map fun p => (y :: p.1, p.2)
          | false => none
        | _ => none
      | some (false, e2) => match clean vs e2 with
        | true => compL vs t ft fe ds (wipeE e2 vs)
        | false => none
      | none => none
    | none => none) := rfl
/-- a block whose every turn gives its item and leaves all as it was -/
theorem compL_map {vs : List Nat} {t : Tg} {fe : Ev} {env : Env'} {α : Type} (en : α → D) (g : α → D) : ∀ (xs : List α), (∀ x ∈ xs, ∃ e1 e3, asg t (en x) env = some e1 ∧ fz fe e1 = some (.val (g x), e3) ∧ clean vs e3 = true ∧ wipeE e3 vs = env) →
    compL vs t tYs fe (xs.map en) env = some (xs.map g, env)
  | [], _ => rfl
  | x :: xs, h => by
    obtain ⟨e1, e3, h1, h2, h3, h4⟩ := h x List.mem_cons_self
    rw [List.map_cons, compL_cons, h1]
    simp only [tYs_ap, h2, h3, h4, compL_map en g xs fun y hy => h y (List.mem_cons_of_mem _ hy)]
    rfl
end VL

set_option Elab.async false
set_option linter.all false
set_option maxRecDepth 100000
set_option maxHeartbeats 1000000
namespace VL
open PySem PySem.Spec PyProof.Rows L2
theorem is_integer_int (i : Int) : m_is_integer [.int i] = some (.val (.bl true)) := by
  unfold m_is_integer b_is_integer
  rw [runV1]
  simp
/-- the drawing of a number -/
def drawP (a b c n : Int) : Int × Int × Int × Int :=
  let c' := c + 1
  let a' := (a * 48271 + c' * 2099 + 97) % 2147483629
  if 0 < b then (b % n, a', b / n, c') else (((a' * a' + 3 * a' + c') % 2147483587 / 128) % n, a', b, c')
theorem draw_eq (a b c n : Int) (h0 : 0 < n) (h1 : n < 1000) : m__law_draw (.lst [.int a, .int b, .int c]) [.int n] = some (.val (.int (drawP a b c n).1), .lst [.int (drawP a b c n).2.1, .int (drawP a b c n).2.2.1, .int (drawP a b c n).2.2.2]) := by
  unfold m__law_draw b__law_draw drawP
  rw [runI2]
  have hb := Int.emod_nonneg (a * 48271 + (c + 1) * 2099 + 97) (show (2147483629 : Int) ≠ 0 by decide)
  have hb2 := Int.emod_lt_of_pos (a * 48271 + (c + 1) * 2099 + 97) (show (0 : Int) < 2147483629 by decide)
  generalize hz : (a * 48271 + (c + 1) * 2099 + 97) % 2147483629 = z at hb hb2
  have hm : mulOk z z = true := mulOk_r (by omega)
  by_cases hp : 0 < b
  · simp [atI, ixN, hz, hp, h0, show n < 1073741824 by omega]
  · simp [atI, ixN, hz, hp, h0, hm]
theorem draw_rng (a b c n : Int) (h0 : 0 < n) : 0 ≤ (drawP a b c n).1 ∧ (drawP a b c n).1 < n := by
  unfold drawP
  by_cases hp : 0 < b
  · rw [if_pos hp]
    exact ⟨Int.emod_nonneg _ (by omega), Int.emod_lt_of_pos _ h0⟩
  · rw [if_neg hp]
    exact ⟨Int.emod_nonneg _ (by omega), Int.emod_lt_of_pos _ h0⟩
/-- a source -/
def Src (m : MO) : Prop := ∃ a b c : Int, m = .lst [.int a, .int b, .int c]
theorem draw_ok {m : MO} (h : Src m) {n : Int} (h0 : 0 < n) (h1 : n < 1000) : ∃ r m', m__law_draw m [.int n] = some (.val (.int r), m') ∧ Src m' ∧ 0 ≤ r ∧ r < n := by
  obtain ⟨a, b, c, rfl⟩ := h
  exact ⟨_, _, draw_eq a b c n h0 h1, ⟨_, _, _, rfl⟩, draw_rng a b c n h0⟩
theorem gcd_loop (a b : D) : ∀ (l h : Nat), ∃ n, whileN (tb (e2 dGt (fVar 3) (fC (.int 0)))) (sPar [2, 3] (sCons (fVar 3) (sCons (e2 dMod (fVar 2) (fVar 3)) sNil))) n [.val a, .val b, .val (.int h), .val (.int l)] = some (.nx, [.val a, .val b, .val (.int (Nat.gcd h l)), .val (.int 0)]) := by
  intro l
  induction l using Nat.strongRecOn with
  | _ l ih =>
    intro h
    by_cases hl : 0 < l
    · obtain ⟨n, hn⟩ := ih (h % l) (Nat.mod_lt _ hl) l
      refine ⟨n + 1, ?_⟩
      rw [whileN_succ]
      have : (0 : Int) < l := by omega
      rw [Int.natCast_emod] at hn
      simp [hl, hn]
      rw [Nat.gcd_comm h l, Nat.gcd_rec l h, Nat.gcd_comm]
    · have : l = 0 := by omega
      subst this
      refine ⟨1, ?_⟩
      rw [whileN_succ]
      simp
theorem divisor_of_eq (a b : Int) : m_divisor_of [.int a, .int b] = some (.val (.int (Int.gcd a b))) := by
  unfold m_divisor_of b_divisor_of
  rw [runV2]
  obtain ⟨n, hn⟩ := gcd_loop (.int a) (.int b) b.natAbs a.natAbs
  have := sWhile_of hn
  simp [this]
  rfl
end VL

set_option Elab.async false
set_option linter.all false
set_option maxRecDepth 100000
set_option maxHeartbeats 1000000
/-! Lpa: data as lists of ints; what == says of it; the checker's small defs. -/
namespace VL
open PySem PySem.Spec PyProof.Rows L2
/-! ### ==, of flat and nested data -/
/-- plain data of at most n levels, without text -/
inductive Sh : Nat → D → Prop where
  | non {n : Nat} : Sh n .non
  | bl {n : Nat} (b : Bool) : Sh n (.bl b)
  | int {n : Nat} (i : Int) : Sh n (.int i)
  | tup {n : Nat} {xs : List D} (h : ∀ x ∈ xs, Sh n x) : Sh (n + 1) (.tup xs)
  | lst {n : Nat} {xs : List D} (h : ∀ x ∈ xs, Sh n x) : Sh (n + 1) (.lst xs)
  | str {n : Nat} (x : Str) (h : PyData.canLay0 (.str x) = true) : Sh n (.str x)
theorem sh_pys {n : Nat} : ∀ {xs : List D}, (∀ x ∈ xs, ∃ p, toPy x = some p ∧ PyData.canLay0 p = true ∧ PyData.depth p ≤ n) → ∃ ps, toPys xs = some ps ∧ PyData.canLayAll0 ps = true ∧ PyData.depthAll ps ≤ n ∧ ps.length = xs.length
  | [], _ => ⟨[], rfl, rfl, Nat.zero_le _, rfl⟩
  | x :: xs, h => by
    obtain ⟨p, h1, h2, h3⟩ := h x List.mem_cons_self
    obtain ⟨ps, g1, g2, g3, g4⟩ := sh_pys fun y hy => h y (List.mem_cons_of_mem _ hy)
    refine ⟨p :: ps, ?_, ?_, ?_, by rw [List.length_cons, List.length_cons, g4]⟩
    · show (match toPy x, toPys xs with | some p, some ps => some (p :: ps) | _, _ => none) = _
      rw [h1, g1]
    · rw [PyData.canLayAll0, h2, g2]; rfl
    · rw [PyData.depthAll]; exact Nat.max_le.mpr ⟨h3, g3⟩
theorem Sh.py {n : Nat} {d : D} (h : Sh n d) : ∃ p, toPy d = some p ∧ PyData.canLay0 p = true ∧ PyData.depth p ≤ n := by
  induction h with
  | non => exact ⟨.none, rfl, by simp only [PyData.canLay0], by simp only [PyData.depth]; exact Nat.zero_le _⟩
  | bl b => exact ⟨.bool b, rfl, by simp only [PyData.canLay0], by simp only [PyData.depth]; exact Nat.zero_le _⟩
  | int i => exact ⟨.int i, rfl, by simp only [PyData.canLay0], by simp only [PyData.depth]; exact Nat.zero_le _⟩
  | str x h => exact ⟨.str x, rfl, h, by simp only [PyData.depth]; exact Nat.zero_le _⟩
  | tup _ ih =>
    obtain ⟨ps, h1, h2, h3, _⟩ := sh_pys ih
    refine ⟨.tuple ps, ?_, by simp only [PyData.canLay0]; exact h2, by simp only [PyData.depth]; omega⟩
    show (toPys _).map PyData.tuple = _
    rw [h1]; rfl
  | lst _ ih =>
    obtain ⟨ps, h1, h2, h3, _⟩ := sh_pys ih
    refine ⟨.list ps, ?_, by simp only [PyData.canLay0]; exact h2, by simp only [PyData.depth]; omega⟩
    show (toPys _).map PyData.list = _
    rw [h1]; rfl
theorem eqD_of {d e : D} {p q : PyData} (h1 : toPy d = some p) (h2 : PyData.canLay0 p = true) (h3 : PyData.depth p ≤ 64) (g1 : toPy e = some q) (g2 : PyData.canLay0 q = true) (g3 : PyData.depth q ≤ 64) : eqD d e = some (PyData.eqv p q) := by
  unfold eqD
  rw [h1, g1]
  show (if SeqAt.shaped p = true ∧ SeqAt.shaped q = true then some (PyData.eqv p q) else none) = _
  rw [if_pos ⟨by unfold SeqAt.shaped; rw [h2, decide_eq_true h3]; rfl, by unfold SeqAt.shaped; rw [g2, decide_eq_true g3]; rfl⟩]
/-- a claim is not the empty tuple -/
theorem eq_empty {x : D} {xs : List D} {n : Nat} (h : Sh n (.tup (x :: xs))) (hn : n ≤ 64) : dEq (.tup (x :: xs)) (.tup []) = some (vB false) := by
  obtain ⟨p, h1, h2, h3⟩ := h.py
  have hp : ∃ q qs, p = .tuple (q :: qs) := by
    obtain ⟨ps, e1, e2⟩ := Option.map_eq_some_iff.mp (show (toPys (x :: xs)).map PyData.tuple = some p from h1)
    have e1' : (match toPy x, toPys xs with | some p, some ps => some (p :: ps) | _, _ => none) = some ps := e1
    split at e1'
    · rename_i q qs _ _
      cases e1'
      exact ⟨q, qs, e2.symm⟩
    · cases e1'
  obtain ⟨q, qs, rfl⟩ := hp
  unfold dEq
  rw [eqD_of h1 h2 (Nat.le_trans h3 hn) (q := .tuple []) rfl (by simp only [PyData.canLay0, PyData.canLayAll0]) (by simp only [PyData.depth, PyData.depthAll]; decide)]
  simp [PyData.eqv, PyData.eqvAll]
class En (α : Type) where
  en : α → D
  py : α → PyData
  to : ∀ a, toPy (en a) = some (py a)
  lay : ∀ a, PyData.canLay0 (py a) = true
  dep : Nat
  dle : ∀ a, PyData.depth (py a) ≤ dep
instance : En Int where
  en := .int
  py := .int
  to _ := rfl
  lay _ := by simp only [PyData.canLay0]
  dep := 0
  dle _ := by simp only [PyData.depth]; exact Nat.le_refl _
section
variable {α β : Type} [En α] [En β]
open En
theorem to_map : ∀ xs : List α, toPys (xs.map en) = some (xs.map py)
  | [] => rfl
  | x :: xs => by
    show (match toPy (en x), toPys (xs.map en) with | some p, some ps => some (p :: ps) | _, _ => none) = _
    rw [En.to, to_map xs]; rfl
theorem lay_map : ∀ xs : List α, PyData.canLayAll0 (xs.map py) = true
  | [] => by simp [PyData.canLayAll0]
  | x :: xs => by rw [List.map_cons, PyData.canLayAll0, En.lay, lay_map xs]; rfl
theorem dep_map : ∀ xs : List α, PyData.depthAll (xs.map py) ≤ En.dep α
  | [] => by simp [PyData.depthAll]
  | x :: xs => by rw [List.map_cons, PyData.depthAll]; exact Nat.max_le.mpr ⟨En.dle x, dep_map xs⟩
instance : En (List α) where
  en xs := .lst (xs.map en)
  py xs := .list (xs.map py)
  to xs := by
    show (toPys (xs.map en)).map PyData.list = _
    rw [to_map]; rfl
  lay xs := by simp only [PyData.canLay0]; exact lay_map xs
  dep := En.dep α + 1
  dle xs := by simp only [PyData.depth]; exact Nat.succ_le_succ (dep_map xs)
instance : En (α × β) where
  en p := .tup [en p.1, en p.2]
  py p := .tuple [py p.1, py p.2]
  to p := by
    show (match toPy (en p.1), toPys [en p.2] with | some q, some ps => some (q :: ps) | _, _ => none).map PyData.tuple = _
    have e : toPys [en p.2] = some [py p.2] := by
      show (match toPy (en p.2), toPys [] with | some q, some ps => some (q :: ps) | _, _ => none) = _
      rw [En.to]; rfl
    rw [En.to, e]; rfl
  lay p := by simp [PyData.canLay0, PyData.canLayAll0, En.lay]
  dep := max (En.dep α) (En.dep β) + 1
  dle p := by
    have h1 := En.dle p.1
    have h2 := En.dle p.2
    simp only [PyData.depth, PyData.depthAll]
    omega
theorem eq_en (a : α) (b : β) (h1 : En.dep α ≤ 64) (h2 : En.dep β ≤ 64) : eqD (en a) (en b) = some (PyData.eqv (py a) (py b)) := eqD_of (En.to a) (En.lay a) (Nat.le_trans (En.dle a) h1) (En.to b) (En.lay b) (Nat.le_trans (En.dle b) h2)
end
class Eqs (α : Type) [En α] [DecidableEq α] : Prop where
  eq : ∀ a b : α, PyData.eqv (En.py a) (En.py b) = decide (a = b)
instance : Eqs Int where
  eq a b := by
    show PyData.eqv (.int a) (.int b) = _
    simp only [PyData.eqv]
    rw [Bool.eq_iff_iff, decide_eq_true_iff]
    exact beq_iff_eq
section
variable {α β : Type} [En α] [En β] [DecidableEq α] [DecidableEq β] [Eqs α] [Eqs β]
theorem eqs_map : ∀ xs ys : List α, PyData.eqvAll (xs.map En.py) (ys.map En.py) = decide (xs = ys)
  | [], [] => by simp [PyData.eqvAll]
  | [], y :: ys => by simp [PyData.eqvAll]
  | x :: xs, [] => by simp [PyData.eqvAll]
  | x :: xs, y :: ys => by
    rw [List.map_cons, List.map_cons, PyData.eqvAll, Eqs.eq, eqs_map xs ys, ← Bool.decide_and]
    exact decide_eq_decide.mpr (by rw [List.cons.injEq])
instance : Eqs (List α) where
  eq xs ys := by
    show PyData.eqv (.list _) (.list _) = _
    simp only [PyData.eqv]
    exact eqs_map xs ys
instance : Eqs (α × β) where
  eq p q := by
    show PyData.eqv (.tuple [En.py p.1, En.py p.2]) (.tuple [En.py q.1, En.py q.2]) = _
    simp only [PyData.eqv, PyData.eqvAll, Eqs.eq, Bool.and_true]
    rw [← Bool.decide_and]
    exact decide_eq_decide.mpr (by rw [Prod.ext_iff])
theorem eq_dec (a b : α) (h : En.dep α ≤ 64) : dEq (En.en a) (En.en b) = some (vB (decide (a = b))) := by
  unfold dEq
  rw [eq_en a b h h, Eqs.eq]; rfl
theorem ne_dec (a b : α) (h : En.dep α ≤ 64) : dNe (En.en a) (En.en b) = some (vB (!decide (a = b))) := by
  unfold dNe
  rw [eq_en a b h h, Eqs.eq]; rfl
end
@[simp] theorem dEq_int (i j : Int) : dEq (.int i) (.int j) = some (vB (decide (i = j))) := eq_dec i j (by decide)
@[simp] theorem dNe_int (i j : Int) : dNe (.int i) (.int j) = some (vB (!decide (i = j))) := ne_dec i j (by decide)
@[simp] theorem dEq_nonint (j : Int) : dEq .non (.int j) = some (vB false) := by
  unfold dEq
  rw [eqD_of (p := .none) (q := .int j) rfl (by simp only [PyData.canLay0]) (by simp only [PyData.depth]; decide) rfl (by simp only [PyData.canLay0]) (by simp only [PyData.depth]; decide)]
  simp [PyData.eqv]
/-! ### ints as data -/
def iL (xs : List Int) : List D := xs.map .int
@[simp] theorem iL_len (xs : List Int) : (iL xs).length = xs.length := List.length_map ..
@[simp] theorem iL_ints (xs : List Int) : intsD (iL xs) = some xs := by
  induction xs with
  | nil => rfl
  | cons x xs ih =>
    show (intsD (iL xs)).map (x :: ·) = _
    rw [ih]; rfl
@[simp] theorem iL_get (xs : List Int) (i : Nat) : (iL xs)[i]? = (xs[i]?).map .int := List.getElem?_map ..
@[simp] theorem iL_nil : iL [] = [] := rfl
@[simp] theorem iL_cons (x : Int) (xs : List Int) : iL (x :: xs) = .int x :: iL xs := rfl
theorem atI_nat {α : Type} {xs : List α} {i : Nat} {x : α} (h : xs[i]? = some x) : atI xs (i : Int) = some x := by
  have hi := (List.getElem?_eq_some_iff.mp h).1
  unfold atI ixN
  rw [if_pos (by omega), if_pos (by omega)]
  simp [h]
theorem eq_ints (xs ys : List Int) : dEq (.lst (iL xs)) (.lst (iL ys)) = some (vB (decide (xs = ys))) := eq_dec (α := List Int) xs ys (by decide)
theorem ne_ints (xs ys : List Int) : dNe (.lst (iL xs)) (.lst (iL ys)) = some (vB (!decide (xs = ys))) := ne_dec (α := List Int) xs ys (by decide)
def bL (xs : List Bool) : List D := xs.map .bl
@[simp] theorem bL_len (xs : List Bool) : (bL xs).length = xs.length := List.length_map ..
@[simp] theorem bL_bls (xs : List Bool) : blsD (bL xs) = some xs := by
  induction xs with
  | nil => rfl
  | cons x xs ih =>
    show (blsD (bL xs)).map (x :: ·) = _
    rw [ih]; rfl
theorem map_iL {α : Type} (f : α → Int) (xs : List α) : (xs.map fun x => D.int (f x)) = iL (xs.map f) := by unfold iL; rw [List.map_map]; rfl
theorem map_bL {α : Type} (f : α → Bool) (xs : List α) : (xs.map fun x => D.bl (f x)) = bL (xs.map f) := by unfold bL; rw [List.map_map]; rfl
/-- a fraction -/
def fr (p : Int × Int) : D := .tup [.int p.1, .int p.2]
/-! ### the checker's small defs -/
theorem is_integer_non : m_is_integer [.non] = some (.val (.bl false)) := by
  unfold m_is_integer b_is_integer
  rw [runV1]
  have : dIsi [.non, .ty "int"] = some (vB false) := by kernel_rfl
  simp [this]
theorem are_integers_eq (xs : List Int) (n : Int) (hs : xs.length ≤ 1000) : m_are_integers [.tup (iL xs), .int n] = some (.val (.bl (decide ((xs.length : Int) = n)))) := by
  unfold m_are_integers b_are_integers
  rw [runV2]
  by_cases h : (xs.length : Int) = n
  · have hc : compL [2] (.nm 2) tYs (eCall m_is_integer (aCons (fz (fVar 2)) aNil)) (iL xs) [.val (.tup (iL xs)), .val (.int n), .no] = some (bL (xs.map fun _ => true), [.val (.tup (iL xs)), .val (.int n), .no]) := by
      unfold iL
      rw [compL_map D.int (fun _ => D.bl true) xs fun x _ => ⟨_, _, by simp; rfl, by simp [is_integer_int]; rfl, by simp, by simp⟩, map_bL]
    simp [h, hc, sizeLine_l (show xs.length ≤ 10000 by omega)]
  · simp [h]
end VL

set_option Elab.async false
set_option linter.all false
set_option maxRecDepth 100000
set_option maxHeartbeats 1000000
/-! Lpb: fractions, common bottoms, sums. -/
namespace VL
open PySem PySem.Spec PyProof.Rows L2
@[simp] theorem seqD_fl (xs : List D) : seqD (.fl xs) = some xs := rfl
def frL (xs : List (Int × Int)) : List D := xs.map fr
@[simp] theorem frL_len (xs : List (Int × Int)) : (frL xs).length = xs.length := List.length_map ..
@[simp] theorem frL_get (xs : List (Int × Int)) (i : Nat) : (frL xs)[i]? = (xs[i]?).map fr := List.getElem?_map ..
/-- in lowest terms, above a positive bottom -/
def frOk (p : Int × Int) : Bool := decide (0 < p.2) && decide (Int.gcd p.1 p.2 = 1)
theorem is_fraction_eq (p : Int × Int) : m_is_fraction [fr p] = some (.val (.bl (frOk p))) := by
  unfold m_is_fraction b_is_fraction fr frOk
  rw [runV1]
  have h : m_are_integers [.tup [.int p.1, .int p.2], .int 2] = some (.val (.bl true)) := are_integers_eq [p.1, p.2] 2 (by simp)
  by_cases hp : 0 < p.2
  · simp [h, hp, atI, ixN, divisor_of_eq]
    omega
  · simp [h, hp, atI, ixN]
theorem are_fractions_eq (xs : List (Int × Int)) (n : Int) (hs : xs.length ≤ 1000) : m_are_fractions [.tup (frL xs), .int n] = some (.val (.bl (decide ((xs.length : Int) = n) && xs.all frOk))) := by
  unfold m_are_fractions b_are_fractions
  rw [runV2]
  by_cases h : (xs.length : Int) = n
  · have hc : compL [2] (.nm 2) tYs (eCall m_is_fraction (aCons (fz (fVar 2)) aNil)) (frL xs) [.val (.tup (frL xs)), .val (.int n), .no] = some (bL (xs.map frOk), [.val (.tup (frL xs)), .val (.int n), .no]) := by
      unfold frL
      rw [compL_map fr (fun x => D.bl (frOk x)) xs fun x _ => ⟨_, _, by simp; rfl, by simp [is_fraction_eq]; rfl, by simp, by simp⟩, map_bL]
    simp [h, hc, sizeLine_l (show xs.length ≤ 10000 by omega)]
  · simp [h]
theorem are_fractions_non (n : Int) : m_are_fractions [.non, .int n] = some (.val (.bl false)) := by
  unfold m_are_fractions b_are_fractions
  rw [runV2]
  simp
/-- one bottom more -/
def lcm1 (b : Int) (p : Int × Int) : Int := b / (Int.gcd b p.2 : Int) * p.2
def lcmL (xs : List (Int × Int)) : Int := xs.foldl lcm1 1
theorem gcd_pos {b c : Int} (h : 0 < b) : (0 : Int) < (Int.gcd b c : Int) := by
  have : Int.gcd b c ≠ 0 := fun z => by
    have := (Int.gcd_eq_zero_iff.mp z).1
    omega
  omega
theorem gcd_bd {b c : Int} {n : Nat} (h : 0 < c) (hc : Bd n c) : Bd n (Int.gcd b c : Int) := by
  have : Int.gcd b c ≤ c.natAbs := Nat.le_of_dvd (by omega) (Int.gcd_dvd_natAbs_right b c)
  unfold Bd at *
  rw [Int.natAbs_natCast]
  omega
theorem lcm1_pos {b : Int} {p : Int × Int} (h : 0 < b) (hp : 0 < p.2) : 0 < lcm1 b p := by
  unfold lcm1
  have hd : (Int.gcd b p.2 : Int) ∣ b := Int.gcd_dvd_left ..
  have hg := gcd_pos (c := p.2) h
  exact Int.mul_pos (Int.ediv_pos_of_pos_of_dvd h (Int.le_of_lt hg) hd) hp
theorem lcm1_bd {b : Int} {p : Int × Int} {n m : Nat} (h : 0 < b) (hb : Bd m b) (hc : Bd n p.2) : Bd (m + n) (lcm1 b p) := by
  unfold lcm1
  refine Bd.mul ?_ hc
  unfold Bd at *
  have : (b / (Int.gcd b p.2 : Int)).natAbs ≤ b.natAbs := Int.natAbs_ediv_le_natAbs b _
  omega
theorem foldl_lcm {n : Nat} (rest : D) : ∀ (xs : List (Int × Int)) (b : Int) (m : Nat) (s2 s3 : Sl), s2.free = true → s3.free = true → 0 < b → Bd m b → (∀ p ∈ xs, 0 < p.2 ∧ Bd n p.2) → n ≤ 9000 → m + n * xs.length < 100000000 →
    ∃ s2' s3' : Sl, forL (.tp [.nm 2, .nm 3]) (sSet 1 (e2 dMul (e2 dFdiv (fVar 1) (eCall m_divisor_of (aCons (fz (fVar 1)) (aCons (fz (fVar 3)) aNil)))) (fVar 3))) (frL xs) [.val rest, .val (.int b), s2, s3] =
      some (.nx, [.val rest, .val (.int (xs.foldl lcm1 b)), s2', s3'])
  | [], b, m, s2, s3, _, _, _, _, _, _, _ => ⟨s2, s3, rfl⟩
  | p :: xs, b, m, s2, s3, f2, f3, hb, hm, hx, hn, hs => by
    obtain ⟨hp, hpn⟩ := hx p List.mem_cons_self
    rw [List.length_cons, Nat.mul_succ] at hs
    have hd : divOk (Int.gcd b p.2 : Int) = true := Bd.div (gcd_bd hp hpn) (gcd_pos hb) hn
    have hq : Bd m (b / (Int.gcd b p.2 : Int)) := by
      have : (b / (Int.gcd b p.2 : Int)).natAbs ≤ b.natAbs := Int.natAbs_ediv_le_natAbs b _
      unfold Bd at *
      omega
    have hk : mulOk (b / (Int.gcd b p.2 : Int)) p.2 = true := hq.ok hpn (by omega)
    obtain ⟨s2', s3', ih⟩ := foldl_lcm rest xs (lcm1 b p) (m + n) (.val (.int p.1)) (.val (.int p.2)) rfl rfl (lcm1_pos hb hp) (lcm1_bd hb hm hpn) (fun q hq => hx q (List.mem_cons_of_mem _ hq)) hn (by omega)
    refine ⟨s2', s3', ?_⟩
    show forL _ _ (fr p :: frL xs) _ = _
    rw [forL_cons]
    unfold lcm1 at ih
    simp [fr, f2, f3, divisor_of_eq, hd, hk, ih]
    rfl
theorem common_bottom_eq {n : Nat} {d : D} (xs : List (Int × Int)) (hd : seqD d = some (frL xs)) (hx : ∀ p ∈ xs, 0 < p.2 ∧ Bd n p.2) (hn : n ≤ 9000) (hs : n * xs.length < 90000000) : m_common_bottom [d] = some (.val (.int (lcmL xs))) := by
  unfold m_common_bottom b_common_bottom
  rw [runV1]
  obtain ⟨s2', s3', h⟩ := foldl_lcm d xs 1 1 .no .no rfl rfl (by decide) (by unfold Bd; decide) hx hn (by omega)
  unfold seqD at hd
  split at hd
  · cases hd; simp [h]; rfl
  · cases hd; simp [h]; rfl
  · cases hd; simp [h]; rfl
  · cases hd
theorem times_bottom_eq {n m : Nat} {d : D} (xs : List (Int × Int)) (b : Int) (hd : seqD d = some (frL xs)) (hx : ∀ p ∈ xs, 0 < p.2 ∧ Bd n p.2 ∧ Bd n p.1) (hb : Bd m b) (hn : n ≤ 9000) (hm : m ≤ 90000000) (hl : xs.length ≤ 1000) :
    m_times_bottom [d, .int b] = some (.new (.lst (iL (xs.map fun p => p.1 * (b / p.2))))) := by
  unfold m_times_bottom b_times_bottom
  rw [runV2]
  have hc : compL [2, 3] (.tp [.nm 2, .nm 3]) tYs (e2 dMul (fVar 2) (e2 dFdiv (fVar 1) (fVar 3))) (frL xs) [.val d, .val (.int b), .no, .no] = some (iL (xs.map fun p => p.1 * (b / p.2)), [.val d, .val (.int b), .no, .no]) := by
    unfold frL
    rw [compL_map fr (fun p => D.int (p.1 * (b / p.2))) xs fun p hp => ?_, map_iL]
    obtain ⟨h1, h2, h3⟩ := hx p hp
    have hd : divOk p.2 = true := h2.div h1 hn
    have hq : Bd m (b / p.2) := by
      have : (b / p.2).natAbs ≤ b.natAbs := Int.natAbs_ediv_le_natAbs b _
      unfold Bd at *
      omega
    have hk : mulOk p.1 (b / p.2) = true := h3.ok hq (by omega)
    exact ⟨_, _, by simp [fr]; rfl, by simp [hd, hk]; rfl, by simp, by simp⟩
  unfold seqD at hd
  split at hd
  · cases hd; simp [hc, sizeLine_l (show xs.length ≤ 10000 by omega)]
  · cases hd; simp [hc, sizeLine_l (show xs.length ≤ 10000 by omega)]
  · cases hd; simp [hc, sizeLine_l (show xs.length ≤ 10000 by omega)]
  · cases hd
/-- the sum of products -/
def dot (xs ys : List Int) : Int := (List.zipWith (· * ·) xs ys).sum
def prs : List (Int × Int) → List D := fun l => l.map fr
theorem zip_fr (xs ys : List Int) : List.zipWith (fun x y => D.tup [x, y]) (iL xs) (iL ys) = frL (List.zip xs ys) := by
  unfold iL frL fr
  induction xs generalizing ys with
  | nil => rfl
  | cons x xs ih =>
    cases ys with
    | nil => rfl
    | cons y ys => simp [ih]
theorem zipW_map (xs ys : List Int) : (List.zip xs ys).map (fun p => p.1 * p.2) = List.zipWith (· * ·) xs ys := by
  rw [List.zip, List.map_zipWith]
theorem sum_by_eq {n m : Nat} {d e : D} (xs ys : List Int) (hd : seqD d = some (iL xs)) (he : seqD e = some (iL ys)) (hx : ∀ x ∈ xs, Bd n x) (hy : ∀ y ∈ ys, Bd m y) (hs : n + m < 100000000) (hl : xs.length ≤ 1000) : m_sum_by [d, e] = some (.val (.int (dot xs ys))) := by
  unfold m_sum_by b_sum_by
  rw [runV2]
  have hc : compL [2, 3] (.tp [.nm 2, .nm 3]) tYs (e2 dMul (fVar 2) (fVar 3)) (frL (List.zip xs ys)) [.val d, .val e, .no, .no] = some (iL (List.zipWith (· * ·) xs ys), [.val d, .val e, .no, .no]) := by
    unfold frL
    rw [compL_map fr (fun p => D.int (p.1 * p.2)) (List.zip xs ys) fun p hp => ?_, map_iL, zipW_map]
    have h1 := hx p.1 (List.of_mem_zip hp).1
    have h2 := hy p.2 (List.of_mem_zip hp).2
    have hk : mulOk p.1 p.2 = true := h1.ok h2 (by omega)
    exact ⟨_, _, by simp [fr]; rfl, by simp [hk]; rfl, by simp, by simp⟩
  have hlen : min xs.length ys.length < sizeLine := sizeLine_l (by omega)
  unfold dot
  unfold seqD at hd he
  split at hd <;> split at he <;> first
    | (cases hd; done)
    | (cases he; done)
    | (cases hd; cases he; simp [zip_fr, hc, hlen])
end VL

set_option Elab.async false
set_option linter.all false
set_option maxRecDepth 100000
set_option maxHeartbeats 1000000
/-! Lpc: a rule of ints as a Plain. -/
namespace VL
open PySem PySem.Spec PyProof.Rows L2
theorem gcd1 (v : Int) : Int.gcd 1 v = 1 := by simp
/-- a slot that holds nothing, or a value -/
def Pl (s : Sl) : Prop := s = .no ∨ ∃ d, s = .val d
theorem Pl.no : Pl .no := .inl rfl
theorem Pl.v (d : D) : Pl (.val d) := .inr ⟨d, rfl⟩
theorem Pl.fr {s : Sl} (h : Pl s) : s.free = true := by rcases h with rfl | ⟨d, rfl⟩ <;> rfl
theorem lowest_loop (a b : D) : ∀ (vs : List Int) (s3 : Sl), Pl s3 → ∃ s3' : Sl, forL (.nm 3) (sSet 2 (eCall m_divisor_of (aCons (fz (fVar 2)) (aCons (fz (fVar 3)) aNil)))) (iL vs) [.val a, .val b, .val (.int 1), s3] = some (.nx, [.val a, .val b, .val (.int 1), s3']) ∧ Pl s3'
  | [], s3, h => ⟨s3, rfl, h⟩
  | v :: vs, s3, h => by
    obtain ⟨s', ih, hm⟩ := lowest_loop a b vs (.val (.int v)) (.v _)
    refine ⟨s', ?_, hm⟩
    rw [iL_cons, forL_cons]
    simp [h.fr, divisor_of_eq, ih]
theorem lowest_eq {d : D} (vs : List Int) (hd : seqD d = some (iL vs)) (hl : vs.length ≤ 1000) : m_lowest [d, .int 1] = some (.val (.tup [.lst (iL vs), .int 1])) := by
  unfold m_lowest b_lowest
  rw [runV2]
  obtain ⟨s3', h1, h2⟩ := lowest_loop d (.int 1) vs .no .no
  have hc : compL [3] (.nm 3) tYs (e2 dFdiv (fVar 3) (fVar 2)) (iL vs) [.val d, .val (.int 1), .val (.int 1), .no] = some (iL vs, [.val d, .val (.int 1), .val (.int 1), .no]) := by
    unfold iL
    rw [compL_map D.int (fun x => D.int x) vs fun x hx => ⟨_, _, by simp; rfl, by simp; rfl, by simp, by simp⟩]
  have hz : vs.length < sizeLine := sizeLine_l (by omega)
  have h2s : 2 ≤ sizeLine := by decide
  rcases h2 with rfl | ⟨e, rfl⟩
  · unfold seqD at hd
    split at hd <;> first | (cases hd; done) | (cases hd; simp [h1, hc, hz, h2s])
  · unfold seqD at hd
    split at hd <;> first | (cases hd; done) | (cases hd; simp [h1, hc, hz, h2s])
/-! ### the fields -/
abbrev nB : Str := "bottoms"
abbrev nS : Str := "sides"
abbrev nT : Str := "starts"
abbrev nU : Str := "under"
abbrev nR : Str := "row"
section
variable (a b c d e : D)
theorem put1 : putD nB a [] = [(nB, a)] := by kernel_rfl
theorem put2 : putD nS b [(nB, a)] = [(nB, a), (nS, b)] := by kernel_rfl
theorem put2' : putD nS c [(nB, a), (nS, b)] = [(nB, a), (nS, c)] := by kernel_rfl
theorem put3 : putD nT c [(nB, a), (nS, b)] = [(nB, a), (nS, b), (nT, c)] := by kernel_rfl
theorem put4 : putD nU d [(nB, a), (nS, b), (nT, c)] = [(nB, a), (nS, b), (nT, c), (nU, d)] := by kernel_rfl
theorem put5 : putD nR e [(nB, a), (nS, b), (nT, c), (nU, d)] = [(nB, a), (nS, b), (nT, c), (nU, d), (nR, e)] := by kernel_rfl
theorem look2B : List.lookup nB [(nB, a), (nS, b)] = some a := by kernel_rfl
theorem look2S : List.lookup nS [(nB, a), (nS, b)] = some b := by kernel_rfl
theorem look4U : List.lookup nU [(nB, a), (nS, b), (nT, c), (nU, d)] = some d := by kernel_rfl
theorem lookB : List.lookup nB [(nB, a), (nS, b), (nT, c), (nU, d), (nR, e)] = some a := by kernel_rfl
theorem lookS : List.lookup nS [(nB, a), (nS, b), (nT, c), (nU, d), (nR, e)] = some b := by kernel_rfl
theorem lookT : List.lookup nT [(nB, a), (nS, b), (nT, c), (nU, d), (nR, e)] = some c := by kernel_rfl
theorem lookU : List.lookup nU [(nB, a), (nS, b), (nT, c), (nU, d), (nR, e)] = some d := by kernel_rfl
theorem lookR : List.lookup nR [(nB, a), (nS, b), (nT, c), (nU, d), (nR, e)] = some e := by kernel_rfl
theorem look_later : List.lookup ("later" : Str) [(nB, a), (nS, b), (nT, c), (nU, d), (nR, e)] = none := by kernel_rfl
theorem look_fits : List.lookup ("fits" : Str) [(nB, a), (nS, b), (nT, c), (nU, d), (nR, e)] = none := by kernel_rfl
theorem look_point : List.lookup ("point_at" : Str) [(nB, a), (nS, b), (nT, c), (nU, d), (nR, e)] = none := by kernel_rfl
theorem look_told : List.lookup ("told_by" : Str) [(nB, a), (nS, b), (nT, c), (nU, d), (nR, e)] = none := by kernel_rfl
end
/-! ### a rule of ints -/
structure Ru where
  ev : List (List Int)
  od : List (List Int)
  st : List Int
  tl : List Int
/-- as the law has it -/
def mt (m : List (List Int)) : D := .tup (m.map fun r => .tup (iL r))
def Ru.d (r : Ru) : D := .tup [mt r.ev, mt r.od, .tup (iL r.st), .tup (iL r.tl)]
def one (xs : List Int) : List (Int × Int) := xs.map fun x => (x, 1)
def mf (m : List (List Int)) : D := .tup (m.map fun r => .tup (frL (one r)))
/-- as the checker is handed it -/
def Ru.pl (r : Ru) : D := .tup [mf r.ev, mf r.od, .tup (iL r.st), .tup (frL (one r.tl))]
def ml (m : List (List Int)) : D := .lst (m.map fun r => .lst (iL r))
def Ru.fs (r : Ru) : List (Str × D) := [(nB, .lst [.int 1, .int 1]), (nS, .lst [ml r.ev, ml r.od]), (nT, .lst (iL r.st)), (nU, .int 1), (nR, .lst (iL r.tl))]
/-- the Plain -/
def Ru.ins (r : Ru) : D := .ins 0 r.fs
/-- n lines of n items, within 50 bits; the first values are those behind the even step -/
structure Ru.Ok (r : Ru) (n : Nat) : Prop where
  n1 : n ≤ 50
  evl : r.ev.length = n
  odl : r.od.length = n
  stl : r.st.length = n
  tll : r.tl.length = n
  evr : ∀ x ∈ r.ev, x.length = n ∧ ∀ y ∈ x, Bd 50 y
  odr : ∀ x ∈ r.od, x.length = n ∧ ∀ y ∈ x, Bd 50 y
  stb : ∀ y ∈ r.st, Bd 50 y
  tlb : ∀ y ∈ r.tl, Bd 50 y
  fit : r.ev.map (fun x => dot x r.st) = r.st
theorem lcm_one (xs : List Int) : lcmL (one xs) = 1 := by
  unfold lcmL one
  induction xs with
  | nil => rfl
  | cons x xs ih => simpa [lcm1] using ih
theorem lcm_one' (xs : List (Int × Int)) (h : ∀ p ∈ xs, p.2 = 1) : lcmL xs = 1 := by
  unfold lcmL
  induction xs with
  | nil => rfl
  | cons x xs ih =>
    have hx := h x List.mem_cons_self
    have e : lcm1 1 x = 1 := by unfold lcm1; rw [hx]; rfl
    rw [List.foldl_cons, e]
    exact ih fun p hp => h p (List.mem_cons_of_mem _ hp)
theorem compL2_map {vs vs1 : List Nat} {t t1 : Tg} {fi1 : Iv} {fe : Ev} {env : Env'} {α : Type} (en : α → D) (g : α → List D) : ∀ (xs : List α),
    (∀ x ∈ xs, ∃ e1 ds1 e3 e4, asg t (en x) env = some e1 ∧ fi1 e1 = some (ds1, e3) ∧ clean vs1 e3 = true ∧ compL vs1 t1 tYs fe ds1 (wipeE e3 vs1) = some (g x, e4) ∧ clean vs e4 = true ∧ wipeE e4 vs = env) →
    compL2 vs vs1 t tYs fi1 t1 tYs fe (xs.map en) env = some ((xs.map g).flatten, env)
  | [], _ => rfl
  | x :: xs, h => by
    obtain ⟨e1, ds1, e3, e4, h1, h2, h3, h4, h5, h6⟩ := h x List.mem_cons_self
    have ih := compL2_map en g xs fun y hy => h y (List.mem_cons_of_mem _ hy)
    have key : compL2 vs vs1 t tYs fi1 t1 tYs fe (en x :: xs.map en) env = (match asg t (en x) env with
      | some e1 => match tYs e1 with
        | some (true, e2) => match fi1 e2 with
          | some (ds1, e3) => match clean vs1 e3 with
            | true => match compL vs1 t1 tYs fe ds1 (wipeE e3 vs1) with
              | some (ys, e4) => match clean vs e4 with
                | true => (compL2 vs vs1 t tYs fi1 t1 tYs fe (xs.map en) (wipeE e4 vs)).map fun p => (ys ++ p.1, p.2)
                | false => none
              | none => none
            | false => none
          | none => none
        | some (false, e2) => match clean vs e2 with
          | true => compL2 vs vs1 t tYs fi1 t1 tYs fe (xs.map en) (wipeE e2 vs)
          | false => none
        | none => none
      | none => none) := rfl
    rw [List.map_cons, key]
    simp only [h1, tYs_ap, h2, h3, h4, h5, h6, ih]
    rfl
end VL

set_option Elab.async false
set_option linter.all false
set_option maxRecDepth 100000
set_option maxHeartbeats 1000000
/-! Lpd: Plain(..). -/
namespace VL
open PySem PySem.Spec PyProof.Rows L2
theorem flat_fr (m : List (List Int)) : (m.map fun r => frL (one r)).flatten = frL ((m.map one).flatten) := by
  unfold frL
  rw [List.map_flatten, List.map_map]; rfl
theorem flat_comp (s0 s1 s2 s3 s4 s5 s9 : Sl) (d : D) (m : List (List Int)) (hm : ∀ x ∈ m, x.length ≤ 50) :
    compL2 [6, 7] [7] (.nm 6) tYs (iSq (fVar 6)) (.nm 7) tYs (fVar 7) (m.map fun r => D.tup (frL (one r))) [s0, s1, s2, s3, s4, s5, .no, .no, .val d, s9] = some (frL ((m.map one).flatten), [s0, s1, s2, s3, s4, s5, .no, .no, .val d, s9]) := by
  rw [compL2_map (fun r => D.tup (frL (one r))) (fun r => frL (one r)) m fun x hx => ?_, flat_fr]
  have hc : compL [7] (.nm 7) tYs (fVar 7) (frL (one x)) [s0, s1, s2, s3, s4, s5, .val (.tup (frL (one x))), .no, .val d, s9] = some (frL (one x), [s0, s1, s2, s3, s4, s5, .val (.tup (frL (one x))), .no, .val d, s9]) := by
    unfold frL
    rw [compL_map fr fr (one x) fun p _ => ⟨_, _, by simp; rfl, by simp; rfl, by simp, by simp⟩]
  exact ⟨_, _, _, _, by simp; rfl, by simp; exact ⟨rfl, rfl⟩, by simp, by simp; exact hc, by simp, by simp⟩
theorem flat_len (m : List (List Int)) (hl : m.length ≤ 50) (hm : ∀ x ∈ m, x.length ≤ 50) : (m.map one).flatten.length ≤ 2500 := by
  have : ∀ (m : List (List Int)) (k : Nat), m.length ≤ k → (∀ x ∈ m, x.length ≤ 50) → (m.map one).flatten.length ≤ 50 * k := by
    intro m
    induction m with
    | nil => intro k _ _; exact Nat.zero_le _
    | cons x m ih =>
      intro k hk hx
      cases k with
      | zero => simp at hk
      | succ k =>
        have := ih k (by simpa using hk) fun y hy => hx y (List.mem_cons_of_mem _ hy)
        have h2 := hx x List.mem_cons_self
        rw [List.map_cons, List.flatten_cons, List.length_append]
        have : (one x).length = x.length := List.length_map ..
        omega
  exact Nat.le_trans (this m 50 hl hm) (by decide)
theorem cb_one (m : List (List Int)) (hl : m.length ≤ 50) (hm : ∀ x ∈ m, x.length ≤ 50) : m_common_bottom [.lst (frL ((m.map one).flatten))] = some (.val (.int 1)) := by
  have h1 : ∀ p ∈ (m.map one).flatten, p.2 = 1 := fun p hp => by
    obtain ⟨l, hl, hp⟩ := List.mem_flatten.mp hp
    obtain ⟨x, _, e⟩ := List.mem_map.mp hl
    subst e
    obtain ⟨y, _, e⟩ := List.mem_map.mp hp
    subst e; rfl
  have hlen := flat_len m hl hm
  have hc := common_bottom_eq (n := 1) (d := .lst (frL ((m.map one).flatten))) ((m.map one).flatten) rfl (fun p hp => by rw [h1 p hp]; exact ⟨by decide, by unfold Bd; decide⟩) (by decide) (by omega)
  rw [hc, lcm_one' _ h1]
theorem tb_one (x : List Int) (hl : x.length ≤ 50) (hb : ∀ y ∈ x, Bd 50 y) : m_times_bottom [.tup (frL (one x)), .int 1] = some (.new (.lst (iL x))) := by
  have h := times_bottom_eq (n := 50) (m := 50) (d := .tup (frL (one x))) (one x) 1 rfl (fun p hp => by
    obtain ⟨y, hy, e⟩ := List.mem_map.mp hp
    subst e
    exact ⟨(by decide : (0 : Int) < 1), (by unfold Bd; decide : Bd 50 1), hb y hy⟩) (by unfold Bd; decide) (by decide) (by decide) (by unfold one; rw [List.length_map]; omega)
  rw [h]
  have e : (one x).map (fun p => p.1 * (1 / p.2)) = x := by
    unfold one
    rw [List.map_map]
    have : ((fun p : Int × Int => p.1 * (1 / p.2)) ∘ fun x : Int => (x, 1)) = id := funext fun y => by
      show y * (1 / 1) = y
      simp
    rw [this, List.map_id]
  rw [e]
theorem side_comp (s0 s1 s2 s3 s4 s5 s7 : Sl) (m : List (List Int)) (hm : ∀ x ∈ m, x.length ≤ 50 ∧ ∀ y ∈ x, Bd 50 y) :
    compL [6] (.nm 6) tYs (eCall m_times_bottom (aCons (fz (fVar 6)) (aCons (fz (fVar 9)) aNil))) (m.map fun r => D.tup (frL (one r))) [s0, s1, s2, s3, s4, s5, .no, s7, .val (mf m), .val (.int 1)] =
      some (m.map fun r => D.lst (iL r), [s0, s1, s2, s3, s4, s5, .no, s7, .val (mf m), .val (.int 1)]) := by
  rw [compL_map (fun r => D.tup (frL (one r))) (fun r => D.lst (iL r)) m fun x hx => ?_]
  exact ⟨_, _, by simp; rfl, by simp [tb_one x (hm x hx).1 (hm x hx).2]; rfl, by simp, by simp⟩
theorem bottoms_comp (s0 s1 s2 s3 s4 s5 s9 : Sl) (ms : List (List (List Int))) (hm : ∀ m ∈ ms, m.length ≤ 50 ∧ ∀ x ∈ m, x.length ≤ 50) :
    compL [8] (.nm 8) tYs (eCall m_common_bottom (aCons (fz (eComp2 [6, 7] [7] (.nm 6) (iSq (fVar 8)) tYs (iSq (fVar 6)) (.nm 7) tYs (fVar 7))) aNil)) (ms.map mf) [s0, s1, s2, s3, s4, s5, .no, .no, .no, s9] =
      some (ms.map fun _ => D.int 1, [s0, s1, s2, s3, s4, s5, .no, .no, .no, s9]) := by
  rw [compL_map mf (fun _ => D.int 1) ms fun m hx => ?_]
  obtain ⟨h1, h2⟩ := hm m hx
  have c := cb_one m h1 h2
  have f : ((m.map one).flatten).length ≤ sizeLine := sizeLine_n (Nat.le_trans (flat_len m h1 h2) (by decide))
  have g := flat_comp s0 s1 s2 s3 s4 s5 s9 (mf m) m h2
  exact ⟨_, _, by simp; rfl, by
    show fz (eCall m_common_bottom (aCons (fz (eComp2 [6, 7] [7] (.nm 6) (iSq (fVar 8)) tYs (iSq (fVar 6)) (.nm 7) tYs (fVar 7))) aNil)) [s0, s1, s2, s3, s4, s5, .no, .no, .val (.tup (m.map fun r => D.tup (frL (one r)))), s9] = _
    have g' : compL2 [6, 7] [7] (.nm 6) tYs (iSq (fVar 6)) (.nm 7) tYs (fVar 7) (m.map fun r => D.tup (frL (one r))) [s0, s1, s2, s3, s4, s5, .no, .no, .val (.tup (m.map fun r => D.tup (frL (one r)))), s9] = some (frL ((m.map one).flatten), [s0, s1, s2, s3, s4, s5, .no, .no, .val (.tup (m.map fun r => D.tup (frL (one r)))), s9]) := g
    simp [-List.length_flatten, g', f, c]
    rfl, by simp, by simp⟩
theorem times_one (x : List Int) (hl : x.length ≤ 50) (hb : ∀ y ∈ x, Bd 50 y) : m_times_bottom [.tup (frL (one x)), .int 1] = some (.new (.lst (iL x))) := tb_one x hl hb
theorem init_eq (r : Ru) (n : Nat) (h : r.Ok n) : m_Plain_init (.ins 0 []) [r.pl] = some (.val .non, .ins 0 r.fs) := by
  unfold m_Plain_init b_Plain_init
  rw [runI2]
  have n1 := h.n1
  have hev : ∀ x ∈ r.ev, x.length ≤ 50 ∧ ∀ y ∈ x, Bd 50 y := fun x hx => ⟨by rw [(h.evr x hx).1]; exact n1, (h.evr x hx).2⟩
  have hod : ∀ x ∈ r.od, x.length ≤ 50 ∧ ∀ y ∈ x, Bd 50 y := fun x hx => ⟨by rw [(h.odr x hx).1]; exact n1, (h.odr x hx).2⟩
  have l1 : r.ev.length < sizeLine := sizeLine_l (by rw [h.evl]; omega)
  have l2 : r.od.length < sizeLine := sizeLine_l (by rw [h.odl]; omega)
  have s2 : 2 ≤ sizeLine := by decide
  have s2' : 2 < sizeLine := by decide
  have hb : ∀ s4 s5 : Sl, compL [8] (.nm 8) tYs (eCall m_common_bottom (aCons (fz (eComp2 [6, 7] [7] (.nm 6) (iSq (fVar 8)) tYs (iSq (fVar 6)) (.nm 7) tYs (fVar 7))) aNil)) [mf r.ev, mf r.od] [.par (.ins 0 []), .val r.pl, .val (mf r.ev), .val (mf r.od), s4, s5, .no, .no, .no, .no] =
      some ([.int 1, .int 1], [.par (.ins 0 []), .val r.pl, .val (mf r.ev), .val (mf r.od), s4, s5, .no, .no, .no, .no]) := fun s4 s5 =>
    bottoms_comp _ _ _ _ s4 s5 .no [r.ev, r.od] fun m hm => by
      rcases List.mem_cons.mp hm with e | hm
      · subst e; exact ⟨by rw [h.evl]; exact n1, fun x hx => (hev x hx).1⟩
      · cases List.mem_singleton.mp hm
        exact ⟨by rw [h.odl]; exact n1, fun x hx => (hod x hx).1⟩
  have hs : ∀ v, sFLv nS 0 (.tp [.nm 8, .nm 9]) (iZp (eTup (aCons (fz (fVar 2)) (aCons (fz (fVar 3)) aNil))) (eFld 0 nB (fVar 0))) (eComp [6] (.nm 6) (iSq (fVar 8)) tYs (eCall m_times_bottom (aCons (fz (fVar 6)) (aCons (fz (fVar 9)) aNil)))) v
      [.par (.ins 0 [(nB, .lst [.int 1, .int 1])]), .val r.pl, .val (mf r.ev), .val (mf r.od), .val (.tup (iL r.st)), .val (.tup (frL (one r.tl))), .no, .no, .no, .no] =
      some [.par (.ins 0 [(nB, .lst [.int 1, .int 1]), (nS, .lst [ml r.ev, ml r.od])]), .val r.pl, .val (mf r.ev), .val (mf r.od), .val (.tup (iL r.st)), .val (.tup (frL (one r.tl))), .no, .no, .val (mf r.od), .val (.int 1)] := fun v => by
    have g1 := fun s0 s1 s2 s3 s4 s5 s7 => side_comp s0 s1 s2 s3 s4 s5 s7 r.ev hev
    have g2 := fun s0 s1 s2 s3 s4 s5 s7 => side_comp s0 s1 s2 s3 s4 s5 s7 r.od hod
    unfold mf at g1 g2
    unfold sFLv mf
    simp [put2, look2B, s2, rawAt, look2S, fldL, g1, g2, l1, l2, put2']
    exact ⟨rfl, rfl⟩
  have hs' := sFL_of hs
  have cbt : m_common_bottom [.tup (frL (one r.tl))] = some (.val (.int 1)) := by
    rw [common_bottom_eq (n := 1) (d := .tup (frL (one r.tl))) (one r.tl) rfl (fun p hp => by
      obtain ⟨y, _, e⟩ := List.mem_map.mp hp
      subst e
      exact ⟨(by decide : (0 : Int) < 1), (by unfold Bd; decide : Bd 1 1)⟩) (by decide) (by unfold one; rw [List.length_map, h.tll]; omega), lcm_one]
  have tbt := times_one r.tl (by rw [h.tll]; exact n1) h.tlb
  unfold Ru.pl at hb hs' ⊢
  simp [s2, s2', hb, put1, hs', put3, put4, put5, cbt, tbt, look4U]
  rfl
end VL

set_option Elab.async false
set_option linter.all false
set_option maxRecDepth 100000
set_option maxHeartbeats 1000000
/-! Lpe: the steps of a Plain. -/
namespace VL
open PySem PySem.Spec PyProof.Rows L2
theorem sum_bd {k : Nat} : ∀ (l : List Int), (∀ x ∈ l, Bd k x) → l.sum.natAbs ≤ l.length * 2 ^ k
  | [], _ => by simp
  | x :: l, h => by
    have h1 := h x List.mem_cons_self
    have h2 := sum_bd l fun y hy => h y (List.mem_cons_of_mem _ hy)
    have h3 := Int.natAbs_add_le x l.sum
    unfold Bd at h1
    rw [List.sum_cons, List.length_cons, Nat.succ_mul]
    omega
theorem dot_bd {a b : Nat} {xs ys : List Int} (hx : ∀ x ∈ xs, Bd a x) (hy : ∀ y ∈ ys, Bd b y) (hl : xs.length ≤ 50) : Bd (a + b + 6) (dot xs ys) := by
  have h := sum_bd (k := a + b) (List.zipWith (· * ·) xs ys) fun z hz => by
    rw [← zipW_map] at hz
    obtain ⟨p, hp, e⟩ := List.mem_map.mp hz
    subst e
    exact (hx p.1 (List.of_mem_zip hp).1).mul (hy p.2 (List.of_mem_zip hp).2)
  rw [List.length_zipWith] at h
  unfold Bd dot
  have h2 : min xs.length ys.length * 2 ^ (a + b) ≤ 50 * 2 ^ (a + b) := Nat.mul_le_mul_right _ (by omega)
  have h3 : 0 < 2 ^ (a + b) := Nat.two_pow_pos _
  rw [Nat.pow_add]
  omega
def img (m : List (List Int)) (v : List Int) : List Int := m.map fun row => dot row v
def Ru.side (r : Ru) (d : Nat) : List (List Int) := if d = 0 then r.ev else r.od
theorem Ru.Ok.side {r : Ru} {n : Nat} (h : r.Ok n) (d : Nat) : (r.side d).length = n ∧ ∀ x ∈ r.side d, x.length = n ∧ ∀ y ∈ x, Bd 50 y := by
  unfold Ru.side
  by_cases hd : d = 0
  · rw [if_pos hd]; exact ⟨h.evl, h.evr⟩
  · rw [if_neg hd]; exact ⟨h.odl, h.odr⟩
theorem img_len (m : List (List Int)) (v : List Int) : (img m v).length = m.length := List.length_map ..
theorem img_bd {r : Ru} {n k d : Nat} {v : List Int} (h : r.Ok n) (hv : ∀ y ∈ v, Bd k y) : ∀ y ∈ img (r.side d) v, Bd (k + 56) y := fun y hy => by
  obtain ⟨x, hx, e⟩ := List.mem_map.mp hy
  subst e
  obtain ⟨h1, h2⟩ := (h.side d).2 x hx
  exact (dot_bd h2 hv (by rw [h1]; exact h.n1)).mono (by omega)
theorem sides_at (r : Ru) {d : Nat} (hd : d < 2) : atI [ml r.ev, ml r.od] (d : Int) = some (ml (r.side d)) := by
  refine atI_nat ?_
  unfold Ru.side
  match d, hd with
  | 0, _ => rfl
  | 1, _ => rfl
theorem ones_at {d : Nat} (hd : d < 2) : atI [D.int 1, D.int 1] (d : Int) = some (.int 1) := by
  refine atI_nat ?_
  match d, hd with
  | 0, _ => rfl
  | 1, _ => rfl
theorem later_eq {r : Ru} {n k d : Nat} {v : List Int} (h : r.Ok n) (hd : d < 2) (hv : ∀ y ∈ v, Bd k y) (hk : k < 1000000) : m_Plain_later [r.ins, .tup [.lst (iL v), .int 1], .int (d : Int)] = some (.val (.tup [.lst (iL (img (r.side d) v)), .int 1])) := by
  unfold m_Plain_later b_Plain_later
  rw [runV3]
  obtain ⟨h1, h2⟩ := h.side d
  have n1 := h.n1
  have hc : ∀ s0 s1 s2 s4 : Sl, compL [5] (.nm 5) tYs (eCall m_sum_by (aCons (fz (fVar 5)) (aCons (fz (fVar 3)) aNil))) ((r.side d).map fun r => D.lst (iL r)) [s0, s1, s2, .val (.lst (iL v)), s4, .no] = some (iL (img (r.side d) v), [s0, s1, s2, .val (.lst (iL v)), s4, .no]) := fun s0 s1 s2 s4 => by
    rw [compL_map (fun r => D.lst (iL r)) (fun row => D.int (dot row v)) (r.side d) fun x hx => ?_, map_iL]
    · rfl
    · obtain ⟨g1, g2⟩ := h2 x hx
      have hs := sum_by_eq (n := 50) (m := k) (d := .lst (iL x)) (e := .lst (iL v)) x v rfl rfl g2 hv (by omega) (by omega)
      exact ⟨_, _, by simp; rfl, by simp [hs]; rfl, by simp, by simp⟩
  have l1 : (r.side d).length < sizeLine := sizeLine_l (by omega)
  have lw := lowest_eq (d := .lst (iL (img (r.side d) v))) (img (r.side d) v) rfl (by rw [img_len]; omega)
  have e1 := sides_at r hd
  have e2 := ones_at hd
  unfold ml at e1
  unfold Ru.ins Ru.fs ml
  simp [lookS, lookB, e1, e2, hc, l1, lw]
theorem told_eq {r : Ru} {n k : Nat} {v : List Int} (h : r.Ok n) (hv : ∀ y ∈ v, Bd k y) (hk : k < 1000000) : m_Plain_told_by [r.ins, .tup [.lst (iL v), .int 1]] = some (.val (.tup [.int (dot r.tl v), .int 1])) := by
  unfold m_Plain_told_by b_Plain_told_by
  rw [runV2]
  have n1 := h.n1
  have hs := sum_by_eq (n := 50) (m := k) (d := .lst (iL r.tl)) (e := .lst (iL v)) r.tl v rfl rfl h.tlb hv (by omega) (by rw [h.tll]; omega)
  have lw := lowest_eq (d := .lst [.int (dot r.tl v)]) [dot r.tl v] rfl (by simp)
  have s1 : 1 ≤ sizeLine := by decide
  have s2 : 2 ≤ sizeLine := by decide
  unfold Ru.ins Ru.fs
  simp [lookR, lookU, hs, lw, s1, s2, atI, ixN]
end VL

set_option Elab.async false
set_option linter.all false
set_option maxRecDepth 100000
set_option maxHeartbeats 1000000
/-! Lpf: the values at a number; plain_in. -/
namespace VL
open PySem PySem.Spec PyProof.Rows L2
def bits (k : Nat) : List Nat := if h : k = 0 then [] else k % 2 :: bits (k / 2)
termination_by k
decreasing_by omega
theorem bits_zero : bits 0 = [] := by rw [bits]; simp
theorem bits_pos {k : Nat} (h : 0 < k) : bits k = k % 2 :: bits (k / 2) := by rw [bits, dif_neg (by omega)]
theorem bits_lt : ∀ (k : Nat), ∀ d ∈ bits k, d < 2 := by
  intro k
  induction k using Nat.strongRecOn with
  | _ k ih =>
    intro d hd
    by_cases h : 0 < k
    · rw [bits_pos h] at hd
      rcases List.mem_cons.mp hd with e | hd
      · omega
      · exact ih (k / 2) (by omega) d hd
    · have : k = 0 := by omega
      subst this
      rw [bits_zero] at hd
      cases hd
theorem bits_len : ∀ (n k : Nat), k < 2 ^ n → (bits k).length ≤ n
  | 0, k, h => by
    have : k = 0 := by omega
    subst this
    rw [bits_zero]; exact Nat.le_refl _
  | n + 1, k, h => by
    by_cases hk : 0 < k
    · rw [bits_pos hk, List.length_cons]
      have := bits_len n (k / 2) (by rw [Nat.pow_succ] at h; omega)
      omega
    · have : k = 0 := by omega
      subst this
      rw [bits_zero]; exact Nat.zero_le _
def nL (xs : List Nat) : List D := xs.map fun (n : Nat) => .int (n : Int)
@[simp] theorem nL_len (xs : List Nat) : (nL xs).length = xs.length := List.length_map ..
/-- the values of the lines at k -/
def lns (r : Ru) (k : Nat) : List Int := (bits k).foldr (fun d v => img (r.side d) v) r.st
theorem fold_bd {r : Ru} {n : Nat} (h : r.Ok n) : ∀ (ds : List Nat) (k : Nat) (v : List Int), (∀ y ∈ v, Bd k y) → ∀ y ∈ ds.foldl (fun v d => img (r.side d) v) v, Bd (k + 56 * ds.length) y
  | [], k, v, hv => hv
  | d :: ds, k, v, hv => fun y hy => by
    have := fold_bd h ds (k + 56) (img (r.side d) v) (img_bd h hv) y hy
    rw [List.length_cons]
    exact this.mono (by omega)
theorem lns_bd {r : Ru} {n m k : Nat} (h : r.Ok n) (hk : k < 2 ^ m) : ∀ y ∈ lns r k, Bd (50 + 56 * m) y := fun y hy => by
  have h1 := bits_len m k hk
  unfold lns at hy
  rw [← List.foldl_reverse] at hy
  have := fold_bd h (bits k).reverse 50 r.st h.stb y hy
  rw [List.length_reverse] at this
  exact this.mono (by omega)
theorem digit_loop (t : Tv) (b : Sm) (mk : List D → D → Env') (ht : ∀ xs (k : Nat), t (mk xs (.int (k : Int))) = some (decide (0 < k), mk xs (.int (k : Int)))) (hb : ∀ (xs : List D) (k : Nat), xs.length < 5000 → b (mk xs (.int (k : Int))) = some (.nx, mk (xs ++ [.int ((k % 2 : Nat) : Int)]) (.int ((k / 2 : Nat) : Int)))) :
    ∀ (k : Nat) (xs : List D), xs.length + (bits k).length < 5000 → ∃ n, whileN t b n (mk xs (.int (k : Int))) = some (.nx, mk (xs ++ nL (bits k)) (.int 0)) := by
  intro k
  induction k using Nat.strongRecOn with
  | _ k ih =>
    intro xs hl
    by_cases h : 0 < k
    · rw [bits_pos h, List.length_cons] at hl
      obtain ⟨n, hn⟩ := ih (k / 2) (by omega) (xs ++ [.int ((k % 2 : Nat) : Int)]) (by rw [List.length_append]; simp; omega)
      refine ⟨n + 1, ?_⟩
      rw [whileN_succ, ht, decide_eq_true h]
      show (match b (mk xs (.int (k : Int))) with
        | some (.nx, e2) => whileN t b n e2
        | some (.ct, e2) => whileN t b n e2
        | some (.bk, e2) => some (.nx, e2)
        | some (.rt b, e2) => some (.rt b, e2)
        | none => none) = _
      rw [hb xs k (by omega)]
      show whileN t b n _ = _
      rw [hn, bits_pos h, List.append_assoc]
      rfl
    · have : k = 0 := by omega
      subst this
      refine ⟨1, ?_⟩
      rw [whileN_succ, ht, bits_zero]
      show some (Out.nx, mk xs (.int ((0 : Nat) : Int))) = _
      rw [show nL [] = [] from rfl, List.append_nil]
      rfl
theorem sizeLine_5 {n : Nat} (h : n < 5000) : n < sizeLine := Nat.lt_trans h (by decide)
theorem point_loop {r : Ru} {n : Nat} (h : r.Ok n) (s1 s2 s3 : Sl) : ∀ (ds : List Nat) (k : Nat) (v : List Int) (s5 : Sl), Pl s5 → (∀ d ∈ ds, d < 2) → (∀ y ∈ v, Bd k y) → k + 56 * ds.length < 1000000 →
    ∃ s5' : Sl, forL (.nm 5) (sSet 4 (eMeth 0 ("later" : PySem.Str) m_Plain_later (fVar 0) (aCons (fz (fVar 4)) (aCons (fz (fVar 5)) aNil)))) (nL ds) [.val r.ins, s1, s2, s3, .val (.tup [.lst (iL v), .int 1]), s5] =
      some (.nx, [.val r.ins, s1, s2, s3, .val (.tup [.lst (iL (ds.foldl (fun v d => img (r.side d) v) v)), .int 1]), s5']) ∧ Pl s5'
  | [], k, v, s5, p, _, _, _ => ⟨s5, rfl, p⟩
  | d :: ds, k, v, s5, p, hd, hv, hk => by
    rw [List.length_cons] at hk
    have hd0 := hd d List.mem_cons_self
    obtain ⟨s5', ih, p'⟩ := point_loop h s1 s2 s3 ds (k + 56) (img (r.side d) v) (.val (.int (d : Int))) (.v _) (fun x hx => hd x (List.mem_cons_of_mem _ hx)) (img_bd h hv) (by omega)
    refine ⟨s5', ?_, p'⟩
    have hl := later_eq h hd0 hv (by omega)
    show forL _ _ (D.int (d : Int) :: nL ds) _ = _
    rw [forL_cons]
    unfold Ru.ins Ru.fs at hl ih ⊢
    simp [p.fr, look_later, hl, ih]
theorem point_eq {r : Ru} {n m k : Nat} (h : r.Ok n) (hk : k < 2 ^ m) (hm : m ≤ 100) : m_Plain_point_at [r.ins, .int (k : Int)] = some (.val (.tup [.lst (iL (lns r k)), .int 1])) := by
  unfold m_Plain_point_at b_Plain_point_at
  rw [runV2]
  have n1 := h.n1
  have hbl := bits_len m k hk
  have hw0 := digit_loop (tb (e2 dGt (fVar 3) (fC (.int 0)))) (sSeq (sApp 2 (e2 dMod (fVar 3) (fC (.int 2)))) (sSet 3 (e2 dFdiv (fVar 3) (fC (.int 2)))))
    (fun xs q => [.val r.ins, .val (.int (k : Int)), .own (.lst xs), .val q, .no, .no]) (fun xs q => by simp) (fun xs q hx => by
      have := sizeLine_5 hx
      simp [this]) k [] (by simp; omega)
  obtain ⟨w, hw⟩ := hw0
  have hw' := sWhile_of hw
  have lw := lowest_eq (d := .lst (iL r.st)) r.st rfl (by rw [h.stl]; omega)
  obtain ⟨s5', hp, _⟩ := point_loop h (.val (.int (k : Int))) (.own (.lst (nL (bits k)))) (.val (.int 0)) (bits k).reverse 50 r.st .no .no (fun d hd => bits_lt k d (List.mem_reverse.mp hd)) h.stb (by rw [List.length_reverse]; omega)
  rw [List.foldl_reverse] at hp
  have er : (nL (bits k)).reverse = nL (bits k).reverse := by unfold nL; rw [List.map_reverse]
  have z0 : (0 : Nat) ≤ sizeLine := Nat.zero_le _
  unfold Ru.ins Ru.fs at hw' hp ⊢
  simp [hw', er, lookT, lw, hp]
  rfl
end VL

set_option Elab.async false
set_option linter.all false
set_option maxRecDepth 100000
set_option maxHeartbeats 1000000
/-! Lpg: plain_in, plains_in. -/
namespace VL
open PySem PySem.Spec PyProof.Rows L2
theorem eq_pt (xs ys : List Int) (i j : Int) : dEq (.tup [.lst (iL xs), .int i]) (.tup [.lst (iL ys), .int j]) = some (vB (decide ((xs, i) = (ys, j)))) := eq_dec (α := List Int × Int) (xs, i) (ys, j) (by decide)
theorem eq_fr (a b c d : Int) : dEq (.tup [.int a, .int b]) (.tup [.int c, .int d]) = some (vB (decide ((a, b) = (c, d)))) := eq_dec (α := Int × Int) (a, b) (c, d) (by decide)
theorem img_fit {r : Ru} {n : Nat} (h : r.Ok n) : img (r.side 0) r.st = r.st := h.fit
theorem fits_eq {r : Ru} {n : Nat} (h : r.Ok n) : m_Plain_fits [r.ins] = some (.val (.bl true)) := by
  unfold m_Plain_fits b_Plain_fits
  rw [runV1]
  have n1 := h.n1
  have hl := later_eq (d := 0) h (by decide) h.stb (by decide)
  rw [img_fit h] at hl
  have lw := lowest_eq (d := .lst (iL r.st)) r.st rfl (by rw [h.stl]; omega)
  have s2 : 2 ≤ sizeLine := by decide
  have e0 : ((0 : Nat) : Int) = 0 := rfl
  rw [e0] at hl
  unfold Ru.ins Ru.fs at hl ⊢
  simp [look_later, lookT, hl, lw, s2, eq_pt]
theorem one_frOk (xs : List Int) : (one xs).all frOk = true := by
  unfold one frOk
  rw [List.all_map]
  refine List.all_eq_true.mpr fun x _ => ?_
  simp
theorem side_loop (s0 s3 s4 s8 : Sl) (n : Nat) : ∀ (ms : List (List (List Int))) (s1 s2 : Sl) (s6 : Sl), Pl s6 → (∀ m ∈ ms, m.length = n ∧ n ≤ 50 ∧ ∀ x ∈ m, x.length = n) →
    ∃ s6', forL (.nm 6) (sIf (tO (tN (tb (eN dIsi (aCons (fVar 6) (aCons (fC (.ty "tuple")) aNil))))) (tO (tb (e2 dNe (eN dLen (aCons (fVar 6) aNil)) (fVar 5))) (tN (tb (eN dAll (aCons (eComp [7] (.nm 7) (iSq (fVar 6)) tYs (eCall m_are_fractions (aCons (fz (fVar 7)) (aCons (fz (fVar 5)) aNil)))) aNil)))))) (sRet (fC .non)) sNx)
      (ms.map mf) [s0, s1, s2, s3, s4, .val (.int (n : Int)), s6, .no, s8] = some (.nx, [s0, s1, s2, s3, s4, .val (.int (n : Int)), s6', .no, s8]) ∧ Pl s6'
  | [], s1, s2, s6, p, _ => ⟨s6, rfl, p⟩
  | m :: ms, s1, s2, s6, p, h => by
    obtain ⟨h1, h2, h3⟩ := h m List.mem_cons_self
    obtain ⟨s6', ih, p'⟩ := side_loop s0 s3 s4 s8 n ms s1 s2 (.val (mf m)) (.v _) fun x hx => h x (List.mem_cons_of_mem _ hx)
    refine ⟨s6', ?_, p'⟩
    have hc : compL [7] (.nm 7) tYs (eCall m_are_fractions (aCons (fz (fVar 7)) (aCons (fz (fVar 5)) aNil))) (m.map fun r => D.tup (frL (one r))) [s0, s1, s2, s3, s4, .val (.int (n : Int)), .val (mf m), .no, s8] = some (bL (m.map fun _ => true), [s0, s1, s2, s3, s4, .val (.int (n : Int)), .val (mf m), .no, s8]) := by
      rw [compL_map (fun r => D.tup (frL (one r))) (fun _ => D.bl true) m fun x hx => ?_, map_bL]
      have hl := h3 x hx
      have hf := are_fractions_eq (one x) (n : Int) (by unfold one; rw [List.length_map]; omega)
      have hol : (one x).length = n := by unfold one; rw [List.length_map]; exact hl
      rw [hol, one_frOk] at hf
      exact ⟨_, _, by simp; rfl, by simp [hf]; rfl, by simp, by simp⟩
    have lm : m.length < sizeLine := sizeLine_l (by omega)
    have ht : (m.all fun _ => true) = true := List.all_eq_true.mpr fun _ _ => rfl
    rw [List.map_cons, forL_cons]
    have hmf : mf m = .tup (m.map fun r => D.tup (frL (one r))) := rfl
    rw [hmf] at hc ih ⊢
    simp [p.fr, h1, hc, lm, ih]
    rw [h1] at lm
    simp [lm, hc, ih, ht]
theorem plain_in_eq {r : Ru} {n : Nat} (h : r.Ok n) : m_plain_in [r.pl] = some (.val r.ins) := by
  unfold m_plain_in b_plain_in
  rw [runV1]
  have n1 := h.n1
  have hi := are_integers_eq r.st (n : Int) (by rw [h.stl]; omega)
  rw [h.stl] at hi
  have hf := are_fractions_eq (one r.tl) (n : Int) (by unfold one; rw [List.length_map, h.tll]; omega)
  have hol : (one r.tl).length = n := by unfold one; rw [List.length_map]; exact h.tll
  rw [hol, one_frOk] at hf
  obtain ⟨s6', hs, p⟩ := side_loop (.val r.pl) (.val (.tup (iL r.st))) (.val (.tup (frL (one r.tl)))) .no n [r.ev, r.od] (.val (mf r.ev)) (.val (mf r.od)) .no .no fun m hm => by
    rcases List.mem_cons.mp hm with e | hm
    · subst e; exact ⟨h.evl, n1, fun x hx => (h.evr x hx).1⟩
    · cases List.mem_singleton.mp hm
      exact ⟨h.odl, n1, fun x hx => (h.odr x hx).1⟩
  have ini := init_eq r n h
  have ft := fits_eq h
  have s2 : 2 ≤ sizeLine := by decide
  have hn : ¬ ((100 : Int) < n) := by omega
  have hs' : forL _ _ [mf r.ev, mf r.od] _ = _ := hs
  unfold Ru.ins Ru.fs at ft ⊢
  unfold Ru.fs at ini
  unfold Ru.pl at ini hs' ⊢
  simp [h.stl, hn, hi, hf, s2, hs', ini, look_fits, ft]
theorem plains_in_eq (rs : List Ru) (h : ∀ r ∈ rs, ∃ n, r.Ok n) (h1 : 1 ≤ rs.length) (h2 : rs.length ≤ 6) : m_plains_in [.tup (rs.map Ru.pl)] = some (.new (.lst (rs.map Ru.ins))) := by
  unfold m_plains_in b_plains_in
  rw [runV1]
  have hc : compL [2] (.nm 2) tYs (eCall m_plain_in (aCons (fz (fVar 2)) aNil)) (rs.map Ru.pl) [.val (.tup (rs.map Ru.pl)), .no, .no] = some (rs.map Ru.ins, [.val (.tup (rs.map Ru.pl)), .no, .no]) := by
    rw [compL_map Ru.pl Ru.ins rs fun r hr => ?_]
    obtain ⟨n, hn⟩ := h r hr
    have := plain_in_eq hn
    exact ⟨_, _, by simp; rfl, by simp [this]; rfl, by simp, by simp⟩
  have g1 : (1 : Int) ≤ (rs.length : Int) := by omega
  have g2 : (rs.length : Int) ≤ 6 := by omega
  have lr : rs.length < sizeLine := sizeLine_l (by omega)
  have hno : dNoneIn 0 .non (.lst (rs.map Ru.ins)) = some (vB false) := by
    unfold dNoneIn
    have a1 : (rs.map Ru.ins).all (nonOr 0) = true := by
      rw [List.all_map]
      exact List.all_eq_true.mpr fun r _ => rfl
    have a2 : (rs.map Ru.ins).any D.isN = false := by
      rw [List.any_map]
      exact List.any_eq_false.mpr fun r _ => by show ¬ (D.isN (.ins 0 r.fs) = true); simp
    show (if (rs.map Ru.ins).all (nonOr 0) = true then some (Bv.val (.bl ((rs.map Ru.ins).any D.isN))) else none) = _
    rw [if_pos a1, a2]
  simp [g1, g2, hc, lr, hno]
end VL

set_option Elab.async false
set_option linter.all false
set_option maxRecDepth 100000
set_option maxHeartbeats 1000000
/-! Lph: loops that check; ascending numbers; makes. -/
namespace VL
open PySem PySem.Spec PyProof.Rows L2
/-- a loop that goes on while P stands, and ends the def where it does not -/
theorem forL_check {α : Type} {t : Tg} {body : Sm} {b0 : Bv} (I : Env' → Prop) (P : α → Bool) (en : α → D) : ∀ (xs : List α) (env : Env'), I env →
    (∀ x ∈ xs, ∀ env, I env → ∃ e1, asg t (en x) env = some e1 ∧ ((P x = true ∧ ∃ o e2, body e1 = some (o, e2) ∧ (o = .nx ∨ o = .ct) ∧ I e2) ∨ (P x = false ∧ ∃ e2, body e1 = some (.rt b0, e2)))) →
    (xs.all P = true ∧ ∃ e', forL t body (xs.map en) env = some (.nx, e') ∧ I e') ∨ (xs.all P = false ∧ ∃ e', forL t body (xs.map en) env = some (.rt b0, e'))
  | [], env, h, _ => .inl ⟨rfl, env, rfl, h⟩
  | x :: xs, env, h, st => by
    obtain ⟨e1, a1, h2⟩ := st x List.mem_cons_self env h
    rw [List.map_cons, forL_cons, a1, List.all_cons]
    rcases h2 with ⟨hp, o, e2, h3, ho, h4⟩ | ⟨hp, e2, h3⟩
    · rw [hp, Bool.true_and]
      have := forL_check I P en xs e2 h4 fun y hy => st y (List.mem_cons_of_mem _ hy)
      rcases ho with rfl | rfl
      · simp only [h3]; exact this
      · simp only [h3]; exact this
    · rw [hp]
      refine .inr ⟨rfl, e2, ?_⟩
      simp only [h3]
theorem fromN_nL : ∀ (n : Nat) (lo : Nat), fromN (lo : Int) 1 n = nL (List.range' lo n)
  | 0, _ => rfl
  | n + 1, lo => by
    show D.int (lo : Int) :: fromN ((lo : Int) + 1) 1 n = _
    rw [show ((lo : Int) + 1) = ((lo + 1 : Nat) : Int) by omega, fromN_nL n (lo + 1)]
    rfl
theorem from0 (n : Nat) : fromN 0 1 n = nL (List.range n) := by
  rw [List.range_eq_range']
  exact fromN_nL n 0
theorem nL_get (xs : List Nat) (i : Nat) : (nL xs)[i]? = (xs[i]?).map fun (n : Nat) => D.int (n : Int) := List.getElem?_map ..
theorem nL_at {xs : List Nat} {i n : Nat} (h : xs[i]? = some n) : atI (nL xs) (i : Int) = some (.int (n : Int)) := atI_nat (by rw [nL_get, h]; rfl)
theorem flat_nL (xs : List Nat) : flatDs (nL xs) = some (xs.map fun (n : Nat) => V.int (n : Int)) := by
  induction xs with
  | nil => rfl
  | cons x xs ih =>
    show (match flatD (.int (x : Int)), flatDs (nL xs) with | some v, some vs => some (v :: vs) | _, _ => none) = _
    rw [ih]; rfl
theorem in_nL (k : Nat) (xs : List Nat) : inV (V.int (k : Int)) (xs.map fun (n : Nat) => V.int (n : Int)) = decide (k ∈ xs) := by
  unfold inV
  induction xs with
  | nil => rfl
  | cons x xs ih =>
    rw [List.map_cons, List.any_cons, ih]
    show (((x : Int) == (k : Int)) || decide (k ∈ xs)) = decide (k ∈ x :: xs)
    rw [Bool.eq_iff_iff]
    simp only [Bool.or_eq_true, beq_iff_eq, decide_eq_true_iff, List.mem_cons]
    constructor
    · rintro (h | h)
      · exact .inl (by omega)
      · exact .inr h
    · rintro (h | h)
      · exact .inl (by omega)
      · exact .inr h
theorem dIn_nL (k : Nat) (xs : List Nat) : dIn (.int (k : Int)) (.tup (nL xs)) = some (vB (decide (k ∈ xs))) := by
  unfold dIn inD
  show ((flatDs (nL xs)).map fun ws => inV (V.int (k : Int)) ws).map vB = _
  rw [flat_nL]
  show some (vB (inV (V.int (k : Int)) (xs.map fun (n : Nat) => V.int (n : Int)))) = _
  rw [in_nL]
theorem dIn_nLl (k : Nat) (xs : List Nat) : dIn (.int (k : Int)) (.lst (nL xs)) = some (vB (decide (k ∈ xs))) := dIn_nL k xs
theorem map_nL {α : Type} (f : α → Nat) (xs : List α) : (xs.map fun x => D.int (f x : Int)) = nL (xs.map f) := by unfold nL; rw [List.map_map]; rfl
theorem ascending_eq (ns : List Nat) (h : ns.Pairwise (· < ·)) (hl : ns.length ≤ 1000) : m_are_ascending [.tup (nL ns)] = some (.val (.bl true)) := by
  unfold m_are_ascending b_are_ascending
  rw [runV1]
  have h1 : compL [1] (.nm 1) tYs (eA (eCall m_is_integer (aCons (fz (fVar 1)) aNil)) (e2 dGe (fVar 1) (fC (.int 0)))) (nL ns) [.val (.tup (nL ns)), .no, .no] = some (bL (ns.map fun _ => true), [.val (.tup (nL ns)), .no, .no]) := by
    unfold nL
    rw [compL_map (fun (n : Nat) => D.int (n : Int)) (fun _ => D.bl true) ns fun x _ => ?_, map_bL]
    have : (0 : Int) ≤ (x : Int) := by omega
    exact ⟨_, _, by simp; rfl, by simp [is_integer_int, this]; rfl, by simp, by simp⟩
  have h2 : ∀ k, k + 1 ≤ ns.length ∨ k = 0 → compL [2] (.nm 2) tYs (e2 dLt (e2 dIx (fVar 0) (fVar 2)) (e2 dIx (fVar 0) (e2 dAdd (fVar 2) (fC (.int 1))))) (nL (List.range k)) [.val (.tup (nL ns)), .no, .no] = some (bL ((List.range k).map fun _ => true), [.val (.tup (nL ns)), .no, .no]) := fun k hk => by
    unfold nL
    rw [compL_map (fun (n : Nat) => D.int (n : Int)) (fun _ => D.bl true) (List.range k) fun x hx => ?_, map_bL]
    have hx' := List.mem_range.mp hx
    have i1 : x < ns.length := by omega
    have i2 : x + 1 < ns.length := by omega
    have a1 := nL_at (List.getElem?_eq_getElem i1)
    have a2 := nL_at (List.getElem?_eq_getElem i2)
    have lt := List.pairwise_iff_getElem.mp h x (x + 1) i1 i2 (Nat.lt_succ_self x)
    have e : ((x : Int) + 1) = ((x + 1 : Nat) : Int) := by omega
    rw [← e] at a2
    unfold nL at a1 a2
    exact ⟨_, _, by simp; rfl, by simp [a1, a2, lt]; rfl, by simp, by simp⟩
  have hz : ns.length < sizeLine := sizeLine_l (by omega)
  have ht : (ns.all fun _ => true) = true := List.all_eq_true.mpr fun _ _ => rfl
  have ht2 : ∀ k, ((List.range k).all fun _ => true) = true := fun k => List.all_eq_true.mpr fun _ _ => rfl
  have ok : okR ((ns.length : Int) - 1) = true := okR_mk (by omega)
  have en : ((ns.length : Int) - 1).toNat = ns.length - 1 := by omega
  have hz2 : ns.length - 1 < sizeLine := by omega
  simp [h1, hz, ht, ok, en, from0, h2 (ns.length - 1) (by omega), hz2, ht2]
/-! ### points -/
def pt (v : List Int) : D := .tup [.lst (iL v), .int 1]
def lcF (row : List (Int × Int)) : Int := lcmL row
def tops (row : List (Int × Int)) : List Int := row.map fun p => p.1 * (lcmL row / p.2)
def col (vs : List (List Int)) (j : Nat) : List Int := vs.map fun v => v.getD j 0
def makesB (row : List (Int × Int)) (vs : List (List Int)) (w : List Int) : Bool := (List.range w.length).all fun j => decide (dot (tops row) (col vs j) = w.getD j 0 * lcmL row)
/-- a row's fractions, within b bits -/
structure RowOk (b : Nat) (row : List (Int × Int)) : Prop where
  ok : ∀ p ∈ row, frOk p = true
  b2 : ∀ p ∈ row, Bd b p.2
  b1 : ∀ p ∈ row, Bd b p.1
  sm : b ≤ 3000
  ln : row.length ≤ 12
theorem RowOk.pos {b : Nat} {row : List (Int × Int)} (h : RowOk b row) : ∀ p ∈ row, 0 < p.2 := fun p hp => by
  have := h.ok p hp
  unfold frOk at this
  exact of_decide_eq_true (Bool.and_eq_true_iff.mp this).1
theorem lcm_fold_bd {b : Nat} : ∀ (row : List (Int × Int)) (m : Nat) (x : Int), 0 < x → Bd m x → (∀ p ∈ row, 0 < p.2 ∧ Bd b p.2) → Bd (m + b * row.length) (row.foldl lcm1 x) ∧ 0 < row.foldl lcm1 x
  | [], m, x, h0, h1, _ => ⟨by simpa using h1, h0⟩
  | p :: row, m, x, h0, h1, h => by
    obtain ⟨g1, g2⟩ := h p List.mem_cons_self
    obtain ⟨i1, i2⟩ := lcm_fold_bd row (m + b) (lcm1 x p) (lcm1_pos h0 g1) (lcm1_bd h0 h1 g2) fun q hq => h q (List.mem_cons_of_mem _ hq)
    refine ⟨i1.mono ?_, i2⟩
    rw [List.length_cons, Nat.mul_succ]
    omega
theorem RowOk.lcm {b : Nat} {row : List (Int × Int)} (h : RowOk b row) : Bd (1 + b * row.length) (lcmL row) ∧ 0 < lcmL row :=
  lcm_fold_bd row 1 1 (by decide) (by unfold Bd; decide) fun p hp => ⟨h.pos p hp, h.b2 p hp⟩
theorem RowOk.lcm' {b : Nat} {row : List (Int × Int)} (h : RowOk b row) : Bd 40000 (lcmL row) := h.lcm.1.mono (by
  have : b * row.length ≤ 3000 * 12 := Nat.mul_le_mul h.sm h.ln
  omega)
theorem tops_bd {b : Nat} {row : List (Int × Int)} (h : RowOk b row) : ∀ x ∈ tops row, Bd 50000 x := fun x hx => by
  obtain ⟨p, hp, e⟩ := List.mem_map.mp hx
  subst e
  have h1 := h.b1 p hp
  have h2 : Bd 40000 (lcmL row / p.2) := by
    have := h.lcm'
    have g : (lcmL row / p.2).natAbs ≤ (lcmL row).natAbs := Int.natAbs_ediv_le_natAbs _ _
    unfold Bd at *
    omega
  have := h.sm
  exact (h1.mul h2).mono (by omega)
end VL

set_option Elab.async false
set_option linter.all false
set_option maxRecDepth 100000
set_option maxHeartbeats 1000000
/-! Lpi: makes. -/
namespace VL
open PySem PySem.Spec PyProof.Rows L2
theorem iL_at {v : List Int} {j : Nat} (h : j < v.length) : atI (iL v) (j : Int) = some (.int (v.getD j 0)) := by
  refine atI_nat ?_
  rw [iL_get, List.getElem?_eq_getElem h, List.getD_eq_getElem?_getD, List.getElem?_eq_getElem h]
  rfl
theorem getD_bd {k : Nat} {v : List Int} {j : Nat} (h : ∀ y ∈ v, Bd k y) (hj : j < v.length) : Bd k (v.getD j 0) := by
  rw [List.getD_eq_getElem?_getD, List.getElem?_eq_getElem hj]
  exact h _ (List.getElem_mem hj)
def fr1 : Int × Int := (1, 1)
theorem mk_c1 (vs : List (List Int)) (s0 s1 s2 s6 s7 s8 s9 s10 : Sl) : compL [4, 5] (.tp [.nm 4, .nm 5]) tYs (eTup (aCons (fz (fC (.int 1))) (aCons (fz (fVar 5)) aNil))) (vs.map pt) [s0, s1, s2, .no, .no, .no, s6, s7, s8, s9, s10] = some (frL (vs.map fun _ => fr1), [s0, s1, s2, .no, .no, .no, s6, s7, s8, s9, s10]) := by
  rw [compL_map pt (fun _ => fr fr1) vs fun v _ => ?_]
  · unfold frL; rw [List.map_map]; rfl
  · have s2' : 2 ≤ sizeLine := by decide
    unfold pt
    exact ⟨_, _, by simp; rfl, by simp [s2']; exact ⟨rfl, rfl⟩, by simp, by simp⟩
theorem mk_cb (vs : List (List Int)) (hvs : vs.length ≤ 200) : m_common_bottom [.lst (frL (vs.map fun _ => fr1))] = some (.val (.int 1)) := by
  rw [common_bottom_eq (n := 1) (d := .lst (frL (vs.map fun _ => fr1))) (vs.map fun _ => fr1) rfl (fun p hp => by
    obtain ⟨y, _, e⟩ := List.mem_map.mp hp
    subst e
    exact ⟨(by decide : (0 : Int) < 1), (by unfold Bd; decide : Bd 1 1)⟩) (by decide) (by rw [List.length_map]; omega), lcm_one' _ fun p hp => by
      obtain ⟨y, _, e⟩ := List.mem_map.mp hp
      subst e; rfl]
theorem mk_c2 {k n : Nat} {vs : List (List Int)} (hv : ∀ v ∈ vs, v.length = n ∧ ∀ y ∈ v, Bd k y) (j : Nat) (hj : j < n) (s0 s1 s2 s4 s5 s6 s7 s9 : Sl) : compL [10] (.nm 10) tYs (e2 dMul (e2 dIx (e2 dIx (fVar 10) (fC (.int 0))) (fVar 8)) (e2 dFdiv (fVar 3) (e2 dIx (fVar 10) (fC (.int 1))))) (vs.map pt) [s0, s1, s2, .val (.int 1), s4, s5, s6, s7, .val (.int (j : Int)), s9, .no] =
      some (iL (col vs j), [s0, s1, s2, .val (.int 1), s4, s5, s6, s7, .val (.int (j : Int)), s9, .no]) := by
  rw [compL_map pt (fun v => D.int (v.getD j 0)) vs fun v hv' => ?_, map_iL]
  · rfl
  · have a := iL_at (v := v) (j := j) (by rw [(hv v hv').1]; exact hj)
    have z0 : atI [D.lst (iL v), D.int 1] 0 = some (.lst (iL v)) := rfl
    have z1 : atI [D.lst (iL v), D.int 1] 1 = some (.int 1) := rfl
    unfold pt
    exact ⟨_, _, by simp; rfl, by simp [z0, z1, a]; rfl, by simp, by simp⟩
/-- the turn at one place -/
noncomputable def mkB : Sm := sSeq (sSet 9 (eComp [10] (.nm 10) (iSq (fVar 1)) tYs (e2 dMul (e2 dIx (e2 dIx (fVar 10) (fC (.int 0))) (fVar 8)) (e2 dFdiv (fVar 3) (e2 dIx (fVar 10) (fC (.int 1)))))))
      (sIf (tb (e2 dNe (e2 dMul (eCall m_sum_by (aCons (fz (fVar 7)) (aCons (fz (fVar 9)) aNil))) (fVar 5)) (e2 dMul (e2 dMul (e2 dIx (fVar 4) (fVar 8)) (fVar 3)) (fVar 6)))) (sRet (fC (.bl false))) sNx)
def tpD (m : MO) (b : Bool) : Sl := if b then .own m else .val m.toD
theorem mk_turn (s0 s2 : Sl) (d : D) (w ts cs : List Int) (vs : List D) (F wj dt : Int) (j : Nat) (bo : Bool) (s9 : Sl) (p9 : Pl s9) (hlen : vs.length < sizeLine) (hc : ∀ s0 s1 s2 s4 s5 s6 s7 s9 : Sl, compL [10] (.nm 10) tYs (e2 dMul (e2 dIx (e2 dIx (fVar 10) (fC (.int 0))) (fVar 8)) (e2 dFdiv (fVar 3) (e2 dIx (fVar 10) (fC (.int 1))))) vs [s0, s1, s2, .val (.int 1), s4, s5, s6, s7, .val (.int (j : Int)), s9, .no] =
      some (iL cs, [s0, s1, s2, .val (.int 1), s4, s5, s6, s7, .val (.int (j : Int)), s9, .no])) (hs : m_sum_by [.lst (iL ts), .lst (iL cs)] = some (.val (.int dt))) (ha : atI (iL w) (j : Int) = some (.int wj)) (hm : mulOk wj F = true) :
    ∃ e2, mkB [s0, .val (.lst vs), s2, .val (.int 1), .val (.lst (iL w)), .val (.int 1), .val (.int F), tpD (.lst (iL ts)) bo, .val (.int (j : Int)), s9, .no] = (if dt = wj * F then some (.nx, [s0, .val (.lst vs), s2, .val (.int 1), .val (.lst (iL w)), .val (.int 1), .val (.int F), .val (.lst (iL ts)), .val (.int (j : Int)), .val (.lst (iL cs)), .no]) else some (.rt (.val (.bl false)), e2)) := by
  unfold mkB tpD
  by_cases hd : dt = wj * F
  · refine ⟨[], ?_⟩
    rw [if_pos hd]
    cases bo
    · simp [hc, hlen, p9.fr, hs, ha, hm, hd]
    · simp [hc, hlen, p9.fr, hs, ha, hm, hd]
  · cases bo
    · exact ⟨_, by simp [hc, hlen, p9.fr, hs, ha, hm, hd]; rfl⟩
    · exact ⟨_, by simp [hc, hlen, p9.fr, hs, ha, hm, hd]; rfl⟩
theorem makes_eq {b k n : Nat} {row : List (Int × Int)} {vs : List (List Int)} {w : List Int} (hr : RowOk b row) (hv : ∀ v ∈ vs, v.length = n ∧ ∀ y ∈ v, Bd k y) (hw : w.length = n) (hwb : ∀ y ∈ w, Bd k y) (hk : k < 100000) (hn : n ≤ 200) (hvs : vs.length ≤ 200) :
    m_makes [.tup (frL row), .lst (vs.map pt), pt w] = some (.val (.bl (makesB row vs w))) := by
  have hsm := hr.sm
  have hln := hr.ln
  have hbl : b * row.length ≤ 3000 * 12 := Nat.mul_le_mul hsm hln
  have cb1 := mk_cb vs hvs
  have cb2 := common_bottom_eq (n := b) (d := .tup (frL row)) row rfl (fun p hp => ⟨hr.pos p hp, hr.b2 p hp⟩) (by omega) (by omega)
  have htb := times_bottom_eq (n := b) (m := 40000) (d := .tup (frL row)) row (lcmL row) rfl (fun p hp => ⟨hr.pos p hp, hr.b2 p hp, hr.b1 p hp⟩) hr.lcm' (by omega) (by omega) (by omega)
  have et : (row.map fun p => p.1 * (lcmL row / p.2)) = tops row := rfl
  rw [et] at htb
  have l1 : vs.length < sizeLine := sizeLine_l (by omega)
  have l1' : (vs.map pt).length < sizeLine := by rw [List.length_map]; exact l1
  have loop := forL_check (t := .nm 8) (b0 := .val (.bl false)) (body := mkB)
    (fun env => ∃ bo s8 s9, env = [.val (.tup (frL row)), .val (.lst (vs.map pt)), .val (pt w), .val (.int 1), .val (.lst (iL w)), .val (.int 1), .val (.int (lcmL row)), tpD (.lst (iL (tops row))) bo, s8, s9, .no] ∧ Pl s8 ∧ Pl s9)
    (fun j => decide (dot (tops row) (col vs j) = w.getD j 0 * lcmL row)) (fun (n : Nat) => D.int (n : Int)) (List.range n) [.val (.tup (frL row)), .val (.lst (vs.map pt)), .val (pt w), .val (.int 1), .val (.lst (iL w)), .val (.int 1), .val (.int (lcmL row)), .own (.lst (iL (tops row))), .no, .no, .no]
    ⟨true, _, _, rfl, .no, .no⟩ (by
      rintro j hj env ⟨bo, s8, s9, rfl, p8, p9⟩
      have hj' := List.mem_range.mp hj
      have a := iL_at (v := w) (j := j) (by omega)
      have bw := getD_bd hwb (j := j) (by omega)
      have hsum := sum_by_eq (n := 50000) (m := k) (d := .lst (iL (tops row))) (e := .lst (iL (col vs j))) (tops row) (col vs j) rfl rfl (tops_bd hr) (fun y hy => by
        obtain ⟨v, hv', e⟩ := List.mem_map.mp hy
        subst e
        exact getD_bd (hv v hv').2 (by rw [(hv v hv').1]; exact hj')) (by omega) (by unfold tops; rw [List.length_map]; omega)
      have mk : mulOk (w.getD j 0) (lcmL row) = true := bw.ok hr.lcm' (by omega)
      obtain ⟨e2, ht⟩ := mk_turn (.val (.tup (frL row))) (.val (pt w)) .non w (tops row) (col vs j) (vs.map pt) (lcmL row) (w.getD j 0) (dot (tops row) (col vs j)) j bo s9 p9 l1' (fun s0 s1 s2 s4 s5 s6 s7 s9 => mk_c2 hv j hj' s0 s1 s2 s4 s5 s6 s7 s9) hsum a mk
      refine ⟨_, by simp [p8.fr]; rfl, ?_⟩
      by_cases hd : dot (tops row) (col vs j) = w.getD j 0 * lcmL row
      · rw [if_pos hd] at ht
        exact .inl ⟨decide_eq_true hd, .nx, _, ht, .inl rfl, false, _, _, rfl, .v _, .v _⟩
      · rw [if_neg hd] at ht
        exact .inr ⟨decide_eq_false hd, _, ht⟩)
  have okn : okR (n : Int) = true := okR_nat (by omega)
  have hfin : (List.range n).map (fun (n : Nat) => D.int (n : Int)) = nL (List.range n) := rfl
  rw [hfin] at loop
  have c1 := mk_c1 vs
  unfold mkB pt at loop
  unfold pt at c1
  unfold m_makes b_makes pt
  rw [runV3]
  rcases loop with ⟨hP, e', hL, _⟩ | ⟨hP, e', hL⟩
  · have : makesB row vs w = true := by unfold makesB; rw [hw]; exact hP
    rw [this]
    simp [c1, l1, cb1, cb2, htb, okn, from0, hw, hL]
  · have : makesB row vs w = false := by unfold makesB; rw [hw]; exact hP
    rw [this]
    simp [c1, l1, cb1, cb2, htb, okn, from0, hw, hL]
end VL

set_option Elab.async false
set_option linter.all false
set_option maxRecDepth 100000
set_option maxHeartbeats 1000000
/-! Lpj: is_row, begins_well. -/
namespace VL
open PySem PySem.Spec PyProof.Rows L2
def tbD (ns : List Nat) (r : Ru) : D := .tup [r.ins, .lst (ns.map fun k => pt (lns r k))]
def zipB (ns : List Nat) (row : List (Int × Int)) (L : Nat) : Bool := (List.zip ns row).any fun p => decide (L < p.1) && !decide (p.2.1 = 0)
def rowB (rs : List Ru) (ns : List Nat) (row : List (Int × Int)) (L x d : Nat) : Bool := !zipB ns row L && rs.all fun r => makesB row (ns.map (lns r)) (img (r.side d) (lns r x))
theorem lns_len {r : Ru} {n : Nat} (h : r.Ok n) (k : Nat) : (lns r k).length = n := by
  unfold lns
  generalize bits k = l
  cases l with
  | nil => exact h.stl
  | cons d l => rw [List.foldr_cons, img_len]; exact (h.side d).1
theorem zip_map (ns : List Nat) (row : List (Int × Int)) : List.zipWith (fun x y => D.tup [x, y]) (nL ns) (frL row) = (List.zip ns row).map fun p => D.tup [.int (p.1 : Int), fr p.2] := by
  unfold nL frL
  induction ns generalizing row with
  | nil => rfl
  | cons n ns ih =>
    cases row with
    | nil => rfl
    | cons p row => simp [ih]
theorem row_zip (ns : List Nat) (row : List (Int × Int)) (L : Nat) (s0 s1 s3 s4 s5 s9 s10 : Sl) : compL [6, 7, 8] (.tp [.nm 6, .tp [.nm 7, .nm 8]]) tYs (eA (e2 dGt (fVar 6) (fVar 2)) (e2 dNe (fVar 7) (fC (.int 0)))) ((List.zip ns row).map fun p => D.tup [.int (p.1 : Int), fr p.2]) [s0, s1, .val (.int (L : Int)), s3, s4, s5, .no, .no, .no, s9, s10] =
    some (bL ((List.zip ns row).map fun p => decide (L < p.1) && !decide (p.2.1 = 0)), [s0, s1, .val (.int (L : Int)), s3, s4, s5, .no, .no, .no, s9, s10]) := by
  rw [compL_map (fun p : Nat × Int × Int => D.tup [.int (p.1 : Int), fr p.2]) (fun p => D.bl (decide (L < p.1) && !decide (p.2.1 = 0))) (List.zip ns row) fun p _ => ?_, map_bL]
  unfold fr
  by_cases h : L < p.1
  · exact ⟨_, _, by simp; rfl, by simp [h]; first | rfl | exact ⟨rfl, rfl⟩, by simp, by simp⟩
  · exact ⟨_, _, by simp; rfl, by simp [h]; rfl, by simp, by simp⟩
theorem pts_at {r : Ru} {ns : List Nat} {a x : Nat} (h : ns[a]? = some x) : atI (ns.map fun k => pt (lns r k)) (a : Int) = some (pt (lns r x)) := atI_nat (by rw [List.getElem?_map, h]; rfl)
theorem row_all {b a x d : Nat} {ns : List Nat} {row : List (Int × Int)} (rs : List Ru) (hrs : ∀ r ∈ rs, ∃ n, r.Ok n) (hr : RowOk b row) (hns : ∀ k ∈ ns, k < 2 ^ 10) (hl : ns.length ≤ 12) (hx : ns[a]? = some x) (hd : d < 2) (s1 s2 s3 s6 s7 s8 : Sl) :
    compL [9, 10] (.tp [.nm 9, .nm 10]) tYs (eCall m_makes (aCons (fz (fVar 0)) (aCons (fz (fVar 10)) (aCons (fz (eMeth 0 ("later" : PySem.Str) m_Plain_later (fVar 9) (aCons (fz (e2 dIx (fVar 10) (fVar 4))) (aCons (fz (fVar 5)) aNil)))) aNil)))) (rs.map (tbD ns)) [.val (.tup (frL row)), s1, s2, s3, .val (.int (a : Int)), .val (.int (d : Int)), s6, s7, s8, .no, .no] =
      some (bL (rs.map fun r => makesB row (ns.map (lns r)) (img (r.side d) (lns r x))), [.val (.tup (frL row)), s1, s2, s3, .val (.int (a : Int)), .val (.int (d : Int)), s6, s7, s8, .no, .no]) := by
  rw [compL_map (tbD ns) (fun r => D.bl (makesB row (ns.map (lns r)) (img (r.side d) (lns r x)))) rs fun r hr' => ?_, map_bL]
  obtain ⟨n, hn⟩ := hrs r hr'
  have n1 := hn.n1
  have hx' : x ∈ ns := List.mem_of_getElem? hx
  have lt := later_eq (d := d) hn hd (lns_bd hn (hns x hx')) (by omega)
  have mk := makes_eq (b := b) (k := 50 + 56 * 10 + 56) (n := n) (row := row) (vs := ns.map (lns r)) (w := img (r.side d) (lns r x)) hr (fun v hv => by
    obtain ⟨k, hk, e⟩ := List.mem_map.mp hv
    subst e
    exact ⟨lns_len hn k, fun y hy => (lns_bd hn (hns k hk) y hy).mono (by omega)⟩) (by rw [img_len]; exact (hn.side d).1) (img_bd hn (lns_bd hn (hns x hx'))) (by omega) (by omega) (by rw [List.length_map]; omega)
  rw [List.map_map] at mk
  have at_ := pts_at (r := r) hx
  unfold pt at lt mk at_
  unfold tbD Ru.ins Ru.fs pt
  unfold Ru.ins Ru.fs at lt
  have mk' : m_makes [.tup (frL row), .lst (ns.map fun k => D.tup [.lst (iL (lns r k)), .int 1]), .tup [.lst (iL (img (r.side d) (lns r x))), .int 1]] = some (.val (.bl (makesB row (ns.map (lns r)) (img (r.side d) (lns r x))))) := mk
  exact ⟨_, _, by simp; rfl, by simp [look_later, at_, lt, mk']; first | rfl | exact ⟨rfl, rfl⟩, by simp, by simp⟩
theorem is_row_eq {b a x d L : Nat} {ns : List Nat} {row : List (Int × Int)} (rs : List Ru) (hrs : ∀ r ∈ rs, ∃ n, r.Ok n) (hrl : rs.length ≤ 100) (hr : RowOk b row) (hrow : row.length = ns.length) (hns : ∀ k ∈ ns, k < 2 ^ 10) (hl : ns.length ≤ 12) (hx : ns[a]? = some x) (hd : d < 2) :
    m_is_row [.tup (frL row), .tup (nL ns), .int (L : Int), .lst (rs.map (tbD ns)), .int (a : Int), .int (d : Int)] = some (.val (.bl (rowB rs ns row L x d))) := by
  unfold m_is_row b_is_row rowB
  rw [runV6]
  have hf := are_fractions_eq row (ns.length : Int) (by omega)
  have h1 : row.all frOk = true := List.all_eq_true.mpr hr.ok
  rw [hrow, h1] at hf
  have hz := row_zip ns row L
  have ha := row_all rs hrs hr hns hl hx hd
  have l1 : (min ns.length row.length) < sizeLine := sizeLine_l (by omega)
  have l1' : ns.length < sizeLine := sizeLine_l (by omega)
  have l2 : rs.length < sizeLine := sizeLine_l (by omega)
  have hB : (((List.zip ns row).map fun p => decide (L < p.1) && !decide (p.2.1 = 0)).any id) = zipB ns row L := by rw [List.any_map]; rfl
  have hA : ((rs.map fun r => makesB row (ns.map (lns r)) (img (r.side d) (lns r x))).all id) = rs.all fun r => makesB row (ns.map (lns r)) (img (r.side d) (lns r x)) := by rw [List.all_map]; rfl
  cases hzb : zipB ns row L with
  | true =>
    rw [hzb] at hB
    simp [-List.any_map, -List.all_map, hf, zip_map, hz, l1, l1', hrow, hB]
  | false =>
    rw [hzb] at hB
    simp [-List.any_map, -List.all_map, hf, zip_map, hz, l1, l1', hrow, hB, ha, l2, hA]
theorem is_row_non (xs : List D) (d1 d2 d3 d4 : D) : m_is_row [.non, .tup xs, d1, d2, d3, d4] = some (.val (.bl false)) := by
  unfold m_is_row b_is_row
  rw [runV6]
  have := are_fractions_non (xs.length : Int)
  simp [this]
end VL

set_option Elab.async false
set_option linter.all false
set_option maxRecDepth 100000
set_option maxHeartbeats 1000000
/-! Lpk: begins_well; the turns of span_in. -/
namespace VL
open PySem PySem.Spec PyProof.Rows L2
def limD : Option Nat → D
  | none => .non
  | some l => .int (l : Int)
def beginB (rs : List Ru) (ns : List Nat) (lim : Option Nat) : Bool := decide (0 ∈ ns) || (decide (lim = some 0) || rs.all fun r => r.st.all fun x => decide (x = 0))
theorem flat_bl (rs : List Ru) : (rs.map fun r => bL (r.st.map fun x => decide (x = 0))).flatten = bL ((rs.map fun r => r.st.map fun x => decide (x = 0)).flatten) := by
  unfold bL
  rw [List.map_flatten, List.map_map]; rfl
theorem flat_len2 : ∀ (rs : List Ru), (∀ r ∈ rs, r.st.length ≤ 50) → ((rs.map fun r => r.st.map fun x => decide (x = 0)).flatten).length ≤ 50 * rs.length
  | [], _ => Nat.zero_le _
  | r :: rs, h => by
    have h1 := h r List.mem_cons_self
    have h2 := flat_len2 rs fun x hx => h x (List.mem_cons_of_mem _ hx)
    rw [List.map_cons, List.flatten_cons, List.length_append, List.length_map, List.length_cons]
    omega
theorem begins_eq {ns : List Nat} (rs : List Ru) (hrs : ∀ r ∈ rs, ∃ n, r.Ok n) (hrl : rs.length ≤ 100) (lim : Option Nat) : m_begins_well [.lst (rs.map (tbD ns)), .tup (nL ns), limD lim] = some (.val (.bl (beginB rs ns lim))) := by
  unfold m_begins_well b_begins_well beginB
  rw [runV3]
  have h0 := dIn_nL 0 ns
  have hc : ∀ s1 s2 : Sl, compL2 [3, 4, 5] [5] (.tp [.nm 3, .nm 4]) tYs (iSq (eFld 0 nT (fVar 3))) (.nm 5) tYs (e2 dEq (fVar 5) (fC (.int 0))) (rs.map (tbD ns)) [.val (.lst (rs.map (tbD ns))), s1, s2, .no, .no, .no] =
      some (bL ((rs.map fun r => r.st.map fun x => decide (x = 0)).flatten), [.val (.lst (rs.map (tbD ns))), s1, s2, .no, .no, .no]) := fun s1 s2 => by
    rw [compL2_map (tbD ns) (fun r => bL (r.st.map fun x => decide (x = 0))) rs fun r hr => ?_, flat_bl]
    have hi : ∀ s0 s1 s2 s3 s4 : Sl, compL [5] (.nm 5) tYs (e2 dEq (fVar 5) (fC (.int 0))) (iL r.st) [s0, s1, s2, s3, s4, .no] = some (bL (r.st.map fun x => decide (x = 0)), [s0, s1, s2, s3, s4, .no]) := fun s0 s1 s2 s3 s4 => by
      unfold iL
      rw [compL_map D.int (fun x => D.bl (decide (x = 0))) r.st fun x _ => ⟨_, _, by simp; rfl, by simp; rfl, by simp, by simp⟩, map_bL]
    unfold tbD Ru.ins Ru.fs
    exact ⟨_, _, _, _, by simp; rfl, by simp [lookT]; first | rfl | exact ⟨rfl, rfl⟩, by simp, by simp; exact hi _ _ _ _ _, by simp, by simp⟩
  have hlen : ((rs.map fun r => r.st.map fun x => decide (x = 0)).flatten).length ≤ sizeLine := sizeLine_n (Nat.le_trans (flat_len2 rs fun r hr => by
    obtain ⟨n, hn⟩ := hrs r hr
    rw [hn.stl]; exact hn.n1) (by omega))
  have hA : ((rs.map fun r => r.st.map fun x => decide (x = 0)).flatten).all id = rs.all fun r => r.st.all fun x => decide (x = 0) := by
    rw [List.all_flatten, List.all_map]
    congr 1
    funext r
    show (r.st.map fun x => decide (x = 0)).all id = _
    rw [List.all_map]; rfl
  have e0 : ((0 : Nat) : Int) = 0 := rfl
  rw [e0] at h0
  by_cases hz : 0 ∈ ns
  · simp [h0, hz]
  · cases lim with
    | none =>
      unfold limD
      simp [-List.length_flatten, -List.all_flatten, h0, hz, hc, hlen, hA]
    | some l =>
      unfold limD
      by_cases hl : l = 0
      · subst hl
        simp [h0, hz]
      · have : ¬ ((l : Int) = 0) := by omega
        simp [-List.length_flatten, -List.all_flatten, h0, hz, hc, hlen, hA, hl, this]
/-! ### the rows of a paper -/
abbrev Row := Option (List (Int × Int))
def rowD : Row → D
  | none => .non
  | some l => .tup (frL l)
/-- a row's line is as it should be -/
def lineB (rs : List Ru) (ns : List Nat) (lim : Option Nat) (x : Nat) (row : Row) (d : Nat) : Bool := match row with
  | none => match lim with
    | none => false
    | some l => decide (l ≤ 2 * x + d)
  | some row => rowB rs ns row (2 * x + d) x d
noncomputable def spB : Sm := (sSeq (sPar [11, 12] (sCons (e2 dAdd (e2 dMul (fC (.int 2)) (fVar 7)) (fVar 10)) (sCons (e2 dIx (e2 dIx (fVar 4) (fVar 9)) (fVar 10)) sNil)))
  (sSeq (sIf (tA (tb (e2 dIsN (fVar 12) (fC .non))) (tA (tb (e2 dNotN (fVar 2) (fC .non))) (tb (e2 dGe (fVar 11) (fVar 2))))) sCt sNx)
  (sIf (tN (tb (eCall m_is_row (aCons (fz (fVar 12)) (aCons (fz (fVar 3)) (aCons (fz (fVar 11)) (aCons (fz (fVar 6)) (aCons (fz (fVar 9)) (aCons (fz (fVar 10)) aNil))))))))) (sRet (fC .non)) sNx)))
structure RowsOk (b : Nat) (ns : List Nat) (row : Row) : Prop where
  ok : ∀ l, row = some l → RowOk b l ∧ l.length = ns.length
theorem sp_turn {b a x d : Nat} {ns : List Nat} {row : Row} {pr : List D} {prs : List D} (rs : List Ru) (hrs : ∀ r ∈ rs, ∃ n, r.Ok n) (hrl : rs.length ≤ 100) (hr : RowsOk b ns row) (hns : ∀ k ∈ ns, k < 2 ^ 10) (hl : ns.length ≤ 12) (hx : ns[a]? = some x) (hd : d < 2) (lim : Option Nat)
    (h1 : atI prs (a : Int) = some (.tup pr)) (h2 : atI pr (d : Int) = some (rowD row)) (bo : Bool) (s0 s1 s5 s8 s11 s12 s13 : Sl) (p11 : Pl s11) (p12 : Pl s12) :
    (lineB rs ns lim x row d = true ∧ ∃ o bo' s11' s12', spB [s0, s1, .val (limD lim), .val (.tup (nL ns)), .val (.tup prs), s5, tpD (.lst (rs.map (tbD ns))) bo, .val (.int (x : Int)), s8, .val (.int (a : Int)), .val (.int (d : Int)), s11, s12, s13] =
      some (o, [s0, s1, .val (limD lim), .val (.tup (nL ns)), .val (.tup prs), s5, tpD (.lst (rs.map (tbD ns))) bo', .val (.int (x : Int)), s8, .val (.int (a : Int)), .val (.int (d : Int)), s11', s12', s13]) ∧ (o = .nx ∨ o = .ct) ∧ Pl s11' ∧ Pl s12') ∨
    (lineB rs ns lim x row d = false ∧ ∃ e, spB [s0, s1, .val (limD lim), .val (.tup (nL ns)), .val (.tup prs), s5, tpD (.lst (rs.map (tbD ns))) bo, .val (.int (x : Int)), s8, .val (.int (a : Int)), .val (.int (d : Int)), s11, s12, s13] = some (.rt (.val .non), e)) := by
  unfold spB lineB
  have e : (2 * (x : Int) + (d : Int)) = ((2 * x + d : Nat) : Int) := by omega
  cases row with
  | none =>
    have hn := is_row_non (nL ns)
    cases lim with
    | none =>
      refine .inr ⟨rfl, ?_⟩
      unfold limD tpD rowD at *
      cases bo
      · exact ⟨_, by simp [h1, h2, p11.fr, p12.fr, hn]; rfl⟩
      · exact ⟨_, by simp [h1, h2, p11.fr, p12.fr, hn]; rfl⟩
    | some l =>
      unfold limD tpD rowD at *
      by_cases hl' : l ≤ 2 * x + d
      · have hl2 : (l : Int) ≤ 2 * (x : Int) + (d : Int) := by omega
        refine .inl ⟨decide_eq_true hl', .ct, bo, .val (.int (2 * (x : Int) + (d : Int))), .val .non, ?_, .inr rfl, .v _, .v _⟩
        cases bo
        · simp [h1, h2, p11.fr, p12.fr, hl2]
        · simp [h1, h2, p11.fr, p12.fr, hl2]
      · have hl2 : ¬ ((l : Int) ≤ 2 * (x : Int) + (d : Int)) := by omega
        refine .inr ⟨decide_eq_false hl', ?_⟩
        cases bo
        · exact ⟨_, by simp [h1, h2, p11.fr, p12.fr, hn, hl2]; rfl⟩
        · exact ⟨_, by simp [h1, h2, p11.fr, p12.fr, hn, hl2]; rfl⟩
  | some row =>
    obtain ⟨g1, g2⟩ := hr.ok row rfl
    have hi := is_row_eq (L := 2 * x + d) rs hrs hrl g1 g2 hns hl hx hd
    rw [← e] at hi
    cases hb : rowB rs ns row (2 * x + d) x d with
    | true =>
      rw [hb] at hi
      refine .inl ⟨hb, .nx, false, .val (.int (2 * (x : Int) + (d : Int))), .val (.tup (frL row)), ?_, .inl rfl, .v _, .v _⟩
      unfold tpD rowD at *
      cases bo
      · simp [h1, h2, p11.fr, p12.fr, hi]
      · simp [h1, h2, p11.fr, p12.fr, hi]
    | false =>
      rw [hb] at hi
      refine .inr ⟨hb, ?_⟩
      unfold tpD rowD at *
      cases bo
      · exact ⟨_, by simp [h1, h2, p11.fr, p12.fr, hi]; rfl⟩
      · exact ⟨_, by simp [h1, h2, p11.fr, p12.fr, hi]; rfl⟩
end VL

set_option Elab.async false
set_option linter.all false
set_option maxRecDepth 100000
set_option maxHeartbeats 1000000
/-! Lpl: span_in. -/
namespace VL
open PySem PySem.Spec PyProof.Rows L2
def prow (pss : List (Row × Row)) (a d : Nat) : Row := if d = 0 then (pss.getD a (none, none)).1 else (pss.getD a (none, none)).2
def prD (p : Row × Row) : D := .tup [rowD p.1, rowD p.2]
def linesB (rs : List Ru) (ns : List Nat) (pss : List (Row × Row)) (lim : Option Nat) (p : Nat × Nat) : Bool := (List.range 2).all fun d => lineB rs ns lim p.1 (prow pss p.2 d) d
def spanB (rs : List Ru) (ns : List Nat) (pss : List (Row × Row)) (lim : Option Nat) : Bool := ns.zipIdx.all (linesB rs ns pss lim) && beginB rs ns lim
def enP (p : Nat × Nat) : D := .tup [.int (p.2 : Int), .int (p.1 : Int)]
theorem enum_map : ∀ (ns : List Nat) (i : Nat), enumD i (nL ns) = (ns.zipIdx i).map enP
  | [], _ => rfl
  | n :: ns, i => by
    show D.tup [.int (i : Int), .int (n : Int)] :: enumD (i + 1) (nL ns) = _
    rw [enum_map ns (i + 1)]; rfl
structure PapOk (b : Nat) (ns : List Nat) (pss : List (Row × Row)) : Prop where
  asc : ns.Pairwise (· < ·)
  lt : ∀ k ∈ ns, k < 2 ^ 10
  ln : ns.length ≤ 12
  pl : pss.length = ns.length
  r1 : ∀ p ∈ pss, RowsOk b ns p.1
  r2 : ∀ p ∈ pss, RowsOk b ns p.2
theorem sp_inner {b a x : Nat} {ns : List Nat} {pss : List (Row × Row)} (rs : List Ru) (hrs : ∀ r ∈ rs, ∃ n, r.Ok n) (hrl : rs.length ≤ 100) (h : PapOk b ns pss) (hx : ns[a]? = some x) (lim : Option Nat) (bo : Bool) (s0 s1 s5 s8 s10 s11 s12 s13 : Sl) (p10 : Pl s10) (p11 : Pl s11) (p12 : Pl s12) :
    (linesB rs ns pss lim (x, a) = true ∧ ∃ bo' s10' s11' s12', forL (.nm 10) spB (nL (List.range 2)) [s0, s1, .val (limD lim), .val (.tup (nL ns)), .val (.tup (pss.map prD)), s5, tpD (.lst (rs.map (tbD ns))) bo, .val (.int (x : Int)), s8, .val (.int (a : Int)), s10, s11, s12, s13] =
      some (.nx, [s0, s1, .val (limD lim), .val (.tup (nL ns)), .val (.tup (pss.map prD)), s5, tpD (.lst (rs.map (tbD ns))) bo', .val (.int (x : Int)), s8, .val (.int (a : Int)), s10', s11', s12', s13]) ∧ Pl s10' ∧ Pl s11' ∧ Pl s12') ∨
    (linesB rs ns pss lim (x, a) = false ∧ ∃ e, forL (.nm 10) spB (nL (List.range 2)) [s0, s1, .val (limD lim), .val (.tup (nL ns)), .val (.tup (pss.map prD)), s5, tpD (.lst (rs.map (tbD ns))) bo, .val (.int (x : Int)), s8, .val (.int (a : Int)), s10, s11, s12, s13] = some (.rt (.val .non), e)) := by
  have hal : a < pss.length := by rw [h.pl]; exact (List.getElem?_eq_some_iff.mp hx).1
  have hp : pss[a]? = some pss[a] := List.getElem?_eq_getElem hal
  have hg : pss.getD a (none, none) = pss[a] := by rw [List.getD_eq_getElem?_getD, hp]; rfl
  have hm : pss[a] ∈ pss := List.getElem_mem hal
  have h1 : atI (pss.map prD) (a : Int) = some (prD pss[a]) := atI_nat (by rw [List.getElem?_map, hp]; rfl)
  have lp := forL_check (t := .nm 10) (body := spB) (b0 := .val .non)
    (fun env => ∃ bo' s10' s11' s12', env = [s0, s1, .val (limD lim), .val (.tup (nL ns)), .val (.tup (pss.map prD)), s5, tpD (.lst (rs.map (tbD ns))) bo', .val (.int (x : Int)), s8, .val (.int (a : Int)), s10', s11', s12', s13] ∧ Pl s10' ∧ Pl s11' ∧ Pl s12')
    (fun d => lineB rs ns lim x (prow pss a d) d) (fun (n : Nat) => D.int (n : Int)) (List.range 2) [s0, s1, .val (limD lim), .val (.tup (nL ns)), .val (.tup (pss.map prD)), s5, tpD (.lst (rs.map (tbD ns))) bo, .val (.int (x : Int)), s8, .val (.int (a : Int)), s10, s11, s12, s13]
    ⟨bo, s10, s11, s12, rfl, p10, p11, p12⟩ (by
      rintro d hd env ⟨bo', s10', s11', s12', rfl, q10, q11, q12⟩
      have hd' := List.mem_range.mp hd
      have hrow : RowsOk b ns (prow pss a d) := by
        unfold prow
        rw [hg]
        by_cases e : d = 0
        · rw [if_pos e]; exact h.r1 _ hm
        · rw [if_neg e]; exact h.r2 _ hm
      have h2 : atI [rowD (pss[a]).1, rowD (pss[a]).2] (d : Int) = some (rowD (prow pss a d)) := by
        unfold prow
        rw [hg]
        refine atI_nat ?_
        match d, hd' with
        | 0, _ => rfl
        | 1, _ => rfl
      refine ⟨_, by simp [q10.fr]; rfl, ?_⟩
      rcases sp_turn (pr := [rowD (pss[a]).1, rowD (pss[a]).2]) rs hrs hrl hrow h.lt h.ln hx hd' lim h1 h2 bo' s0 s1 s5 s8 s11' s12' s13 q11 q12 with ⟨g1, o, bo2, t11, t12, g2, g3, g4, g5⟩ | ⟨g1, e, g2⟩
      · exact .inl ⟨g1, o, _, g2, g3, bo2, _, _, _, rfl, .v _, g4, g5⟩
      · exact .inr ⟨g1, e, g2⟩)
  have hfin : (List.range 2).map (fun (n : Nat) => D.int (n : Int)) = nL (List.range 2) := rfl
  rw [hfin] at lp
  rcases lp with ⟨g1, e', g2, bo', s10', s11', s12', rfl, q⟩ | ⟨g1, e', g2⟩
  · exact .inl ⟨g1, bo', s10', s11', s12', g2, q⟩
  · exact .inr ⟨g1, e', g2⟩
noncomputable def spF : Sm := sFor (.nm 10) (iRan1 (aCons (fC (.int 2)) aNil)) spB
theorem sp_outer {b : Nat} {ns : List Nat} {pss : List (Row × Row)} (rs : List Ru) (hrs : ∀ r ∈ rs, ∃ n, r.Ok n) (hrl : rs.length ≤ 100) (h : PapOk b ns pss) (lim : Option Nat) (s0 s1 s5 s8 s13 : Sl) :
    (ns.zipIdx.all (linesB rs ns pss lim) = true ∧ ∃ bo s7 s9 s10 s11 s12, forL (.tp [.nm 9, .nm 7]) spF (ns.zipIdx.map enP) [s0, s1, .val (limD lim), .val (.tup (nL ns)), .val (.tup (pss.map prD)), s5, .own (.lst (rs.map (tbD ns))), .no, s8, .no, .no, .no, .no, s13] =
      some (.nx, [s0, s1, .val (limD lim), .val (.tup (nL ns)), .val (.tup (pss.map prD)), s5, tpD (.lst (rs.map (tbD ns))) bo, s7, s8, s9, s10, s11, s12, s13]) ∧ Pl s7 ∧ Pl s9 ∧ Pl s10 ∧ Pl s11 ∧ Pl s12) ∨
    (ns.zipIdx.all (linesB rs ns pss lim) = false ∧ ∃ e, forL (.tp [.nm 9, .nm 7]) spF (ns.zipIdx.map enP) [s0, s1, .val (limD lim), .val (.tup (nL ns)), .val (.tup (pss.map prD)), s5, .own (.lst (rs.map (tbD ns))), .no, s8, .no, .no, .no, .no, s13] = some (.rt (.val .non), e)) := by
  have lp := forL_check (t := .tp [.nm 9, .nm 7]) (body := spF) (b0 := .val .non)
    (fun env => ∃ bo s7 s9 s10 s11 s12, env = [s0, s1, .val (limD lim), .val (.tup (nL ns)), .val (.tup (pss.map prD)), s5, tpD (.lst (rs.map (tbD ns))) bo, s7, s8, s9, s10, s11, s12, s13] ∧ Pl s7 ∧ Pl s9 ∧ Pl s10 ∧ Pl s11 ∧ Pl s12)
    (linesB rs ns pss lim) enP ns.zipIdx [s0, s1, .val (limD lim), .val (.tup (nL ns)), .val (.tup (pss.map prD)), s5, .own (.lst (rs.map (tbD ns))), .no, s8, .no, .no, .no, .no, s13]
    ⟨true, _, _, _, _, _, rfl, .no, .no, .no, .no, .no⟩ (by
      rintro ⟨x, a⟩ hxa env ⟨bo, s7, s9, s10, s11, s12, rfl, q7, q9, q10, q11, q12⟩
      have hx : ns[a]? = some x := List.mem_zipIdx_iff_getElem?.mp hxa
      have hin := sp_inner rs hrs hrl h hx lim bo s0 s1 s5 s8 s10 s11 s12 s13 q10 q11 q12
      have r2 : fromN 0 1 2 = nL (List.range 2) := rfl
      unfold enP spF
      refine ⟨[s0, s1, .val (limD lim), .val (.tup (nL ns)), .val (.tup (pss.map prD)), s5, tpD (.lst (rs.map (tbD ns))) bo, .val (.int (x : Int)), s8, .val (.int (a : Int)), s10, s11, s12, s13], by simp [q9.fr, q7.fr], ?_⟩
      rcases hin with ⟨g1, bo', t10, t11, t12, g2, g3, g4, g5⟩ | ⟨g1, e, g2⟩
      · exact .inl ⟨g1, .nx, [s0, s1, .val (limD lim), .val (.tup (nL ns)), .val (.tup (pss.map prD)), s5, tpD (.lst (rs.map (tbD ns))) bo', .val (.int (x : Int)), s8, .val (.int (a : Int)), t10, t11, t12, s13], by simp [r2, g2], .inl rfl, bo', _, _, _, _, _, rfl, .v _, .v _, g3, g4, g5⟩
      · exact .inr ⟨g1, e, by simp [r2, g2]⟩)
  rcases lp with ⟨g1, e', g2, bo, s7, s9, s10, s11, s12, rfl, q⟩ | ⟨g1, e', g2⟩
  · exact .inl ⟨g1, bo, s7, s9, s10, s11, s12, g2, q⟩
  · exact .inr ⟨g1, e', g2⟩
/-- what is told at a number -/
def tellD (rs : List Ru) (x : Nat) : D := .tup [.int (x : Int), .lst (rs.map fun r => fr (dot r.tl (lns r x), 1))]
end VL

set_option Elab.async false
set_option linter.all false
set_option maxRecDepth 100000
set_option maxHeartbeats 1000000
/-! Lpm: span_in, whole. -/
namespace VL
open PySem PySem.Spec PyProof.Rows L2
theorem sp_tables {ns : List Nat} (rs : List Ru) (hrs : ∀ r ∈ rs, ∃ n, r.Ok n) (hns : ∀ k ∈ ns, k < 2 ^ 10) (hl : ns.length ≤ 12) (s0 s1 s2 s4 s5 s6 s9 s10 s11 s12 s13 : Sl) :
    compL [8] (.nm 8) tYs (eTup (aCons (fz (fVar 8)) (aCons (fz (eComp [7] (.nm 7) (iSq (fVar 3)) tYs (eMeth 0 ("point_at" : PySem.Str) m_Plain_point_at (fVar 8) (aCons (fz (fVar 7)) aNil)))) aNil))) (rs.map Ru.ins) [s0, s1, s2, .val (.tup (nL ns)), s4, s5, s6, .no, .no, s9, s10, s11, s12, s13] =
      some (rs.map (tbD ns), [s0, s1, s2, .val (.tup (nL ns)), s4, s5, s6, .no, .no, s9, s10, s11, s12, s13]) := by
  rw [compL_map Ru.ins (tbD ns) rs fun r hr => ?_]
  obtain ⟨n, hn⟩ := hrs r hr
  have hi : ∀ s0 s1 s2 s3 s4 s5 s6 s9 s10 s11 s12 s13 : Sl, compL [7] (.nm 7) tYs (eMeth 0 ("point_at" : PySem.Str) m_Plain_point_at (fVar 8) (aCons (fz (fVar 7)) aNil)) (nL ns) [s0, s1, s2, s3, s4, s5, s6, .no, .val r.ins, s9, s10, s11, s12, s13] = some (ns.map (fun k => pt (lns r k)), [s0, s1, s2, s3, s4, s5, s6, .no, .val r.ins, s9, s10, s11, s12, s13]) := fun s0 s1 s2 s3 s4 s5 s6 s9 s10 s11 s12 s13 => by
    unfold nL
    rw [compL_map (fun (n : Nat) => D.int (n : Int)) (fun k => pt (lns r k)) ns fun k hk => ?_]
    have hp := point_eq hn (hns k hk) (by decide)
    unfold Ru.ins Ru.fs at hp ⊢
    exact ⟨_, _, by simp; rfl, by simp [look_point, hp]; first | rfl | exact ⟨rfl, rfl⟩, by simp, by simp⟩
  have l1 : ns.length < sizeLine := sizeLine_l (by omega)
  have s2' : 2 ≤ sizeLine := by decide
  unfold tbD
  exact ⟨_, _, by simp; rfl, by simp [hi, l1, s2']; first | rfl | exact ⟨rfl, rfl⟩, by simp, by simp⟩
theorem sp_tell {a x : Nat} {ns : List Nat} (rs : List Ru) (hrs : ∀ r ∈ rs, ∃ n, r.Ok n) (hns : ∀ k ∈ ns, k < 2 ^ 10) (hx : ns[a]? = some x) (s0 s1 s2 s3 s4 s5 s6 s7 s10 s11 s12 : Sl) :
    compL [8, 13] (.tp [.nm 8, .nm 13]) tYs (eMeth 0 ("told_by" : PySem.Str) m_Plain_told_by (fVar 8) (aCons (fz (e2 dIx (fVar 13) (fVar 9))) aNil)) (rs.map (tbD ns)) [s0, s1, s2, s3, s4, s5, s6, s7, .no, .val (.int (a : Int)), s10, s11, s12, .no] =
      some (rs.map (fun r => fr (dot r.tl (lns r x), 1)), [s0, s1, s2, s3, s4, s5, s6, s7, .no, .val (.int (a : Int)), s10, s11, s12, .no]) := by
  rw [compL_map (tbD ns) (fun r => fr (dot r.tl (lns r x), 1)) rs fun r hr => ?_]
  obtain ⟨n, hn⟩ := hrs r hr
  have hp := told_eq hn (lns_bd hn (hns x (List.mem_of_getElem? hx))) (by omega)
  have at_ := pts_at (r := r) hx
  unfold pt at at_
  unfold tbD pt
  unfold Ru.ins Ru.fs at hp ⊢
  unfold fr
  exact ⟨_, _, by simp; rfl, by simp [look_told, hp, at_]; first | rfl | exact ⟨rfl, rfl⟩, by simp, by simp⟩
theorem sp_out {ns : List Nat} (rs : List Ru) (hrs : ∀ r ∈ rs, ∃ n, r.Ok n) (hrl : rs.length ≤ 100) (hns : ∀ k ∈ ns, k < 2 ^ 10) (s0 s1 s2 s3 s4 s5 s10 s11 s12 : Sl) :
    compL [9, 7] (.tp [.nm 9, .nm 7]) tYs (eTup (aCons (fz (fVar 7)) (aCons (fz (eComp [8, 13] (.tp [.nm 8, .nm 13]) (iSq (fVar 6)) tYs (eMeth 0 ("told_by" : PySem.Str) m_Plain_told_by (fVar 8) (aCons (fz (e2 dIx (fVar 13) (fVar 9))) aNil)))) aNil))) (ns.zipIdx.map enP) [s0, s1, s2, s3, s4, s5, .val (.lst (rs.map (tbD ns))), .no, .no, .no, s10, s11, s12, .no] =
      some (ns.map (tellD rs), [s0, s1, s2, s3, s4, s5, .val (.lst (rs.map (tbD ns))), .no, .no, .no, s10, s11, s12, .no]) := by
  rw [compL_map enP (fun p => tellD rs p.1) ns.zipIdx fun p hp => ?_]
  · have : ns.zipIdx.map (fun p => tellD rs p.1) = ns.map (tellD rs) := by
      have h := List.map_map (f := Prod.fst) (g := tellD rs) (l := ns.zipIdx)
      rw [List.zipIdx_map_fst] at h
      exact h.symm
    rw [this]
  · obtain ⟨x, a⟩ := p
    have hx : ns[a]? = some x := List.mem_zipIdx_iff_getElem?.mp hp
    have ht := sp_tell rs hrs hns hx
    have l1 : rs.length < sizeLine := sizeLine_l (by omega)
    have s2' : 2 ≤ sizeLine := by decide
    unfold enP tellD
    exact ⟨_, _, by simp; first | rfl | exact ⟨rfl, rfl⟩, by simp [ht, l1, s2']; first | rfl | exact ⟨rfl, rfl⟩, by simp, by simp⟩
end VL

set_option Elab.async false
set_option linter.all false
set_option maxRecDepth 100000
set_option maxHeartbeats 1000000
/-! Lpn: span_in. -/
namespace VL
open PySem PySem.Spec PyProof.Rows L2
theorem sp_pairs (pss : List (Row × Row)) (s0 s1 s2 s3 s4 s6 s7 s8 s9 s10 s11 s12 s13 : Sl) :
    compL [5] (.nm 5) tYs (eA (eN dIsi (aCons (fVar 5) (aCons (fC (.ty "tuple")) aNil))) (e2 dEq (eN dLen (aCons (fVar 5) aNil)) (fC (.int 2)))) (pss.map prD) [s0, s1, s2, s3, s4, .no, s6, s7, s8, s9, s10, s11, s12, s13] =
      some (bL (pss.map fun _ => true), [s0, s1, s2, s3, s4, .no, s6, s7, s8, s9, s10, s11, s12, s13]) := by
  rw [compL_map prD (fun _ => D.bl true) pss fun p _ => ?_, map_bL]
  unfold prD
  exact ⟨_, _, by simp; rfl, by simp; first | rfl | exact ⟨rfl, rfl⟩, by simp, by simp⟩
def papD (ns : List Nat) (pss : List (Row × Row)) : D := .tup [.tup (nL ns), .tup (pss.map prD)]
theorem pl_clean {s : Sl} (h : Pl s) : (match s with | .own _ => false | .par _ => false | _ => true) = true := by rcases h with rfl | ⟨d, rfl⟩ <;> rfl
theorem span_in_eq {b : Nat} {ns : List Nat} {pss : List (Row × Row)} (rs : List Ru) (hrs : ∀ r ∈ rs, ∃ n, r.Ok n) (hrl : rs.length ≤ 100) (h : PapOk b ns pss) (lim : Option Nat) :
    m_span_in [papD ns pss, .lst (rs.map Ru.ins), limD lim] = some (if spanB rs ns pss lim = true then .new (.lst (ns.map (tellD rs))) else .val .non) := by
  unfold m_span_in b_span_in
  rw [runV3]
  have ha := ascending_eq ns h.asc (by have := h.ln; omega)
  have ln := h.ln
  have hpl := h.pl
  have hn2 : ¬ ((200 : Int) < (ns.length : Int)) := by omega
  have hp := sp_pairs pss
  have lp : pss.length < sizeLine := sizeLine_l (by omega)
  have lp' : ns.length < sizeLine := sizeLine_l (by omega)
  have lr : rs.length < sizeLine := sizeLine_l (by omega)
  have ht : (pss.all fun _ => true) = true := List.all_eq_true.mpr fun _ _ => rfl
  have htb := sp_tables rs hrs h.lt h.ln
  have hbg := begins_eq (ns := ns) rs hrs hrl lim
  have hout := sp_out rs hrs hrl h.lt
  have hz : (ns.zipIdx).length < sizeLine := by rw [List.length_zipIdx]; exact lp'
  have hlp := sp_outer rs hrs hrl h lim (.val (papD ns pss)) (.val (.lst (rs.map Ru.ins))) .no .no .no
  unfold spF spB at hlp
  unfold spanB papD at *
  rcases hlp with ⟨g1, bo, s7, s9, s10, s11, s12, g2, q7, q9, q10, q11, q12⟩ | ⟨g1, e, g2⟩
  · rw [g1, Bool.true_and]
    cases hB : beginB rs ns lim with
    | true =>
      rw [hB] at hbg
      rcases q7 with rfl | ⟨d7, rfl⟩ <;> rcases q9 with rfl | ⟨d9, rfl⟩ <;> cases bo <;>
        simp [ha, hn2, hpl, hp, lp, lp', ht, htb, lr, enum_map, g2, tpD, hbg, hout, hz]
    | false =>
      rw [hB] at hbg
      cases bo <;> simp [ha, hn2, hpl, hp, lp, lp', ht, htb, lr, enum_map, g2, tpD, hbg]
  · rw [g1, Bool.false_and]
    simp [ha, hn2, hpl, hp, lp, lp', ht, htb, lr, enum_map, g2]
end VL

set_option Elab.async false
set_option linter.all false
set_option maxRecDepth 100000
set_option maxHeartbeats 1000000
/-! Lpo: what the checker accepts. -/
namespace VL
open PySem PySem.Spec PyProof.Rows L2
def told (r : Ru) (x : Nat) : Int := dot r.tl (lns r x)
def relB (r0 r1 : Ru) (b0 b1 : Int) (x : Nat) : Bool := decide (b0 * told r0 x + b1 * told r1 x = 0)
def sameB (r0 r1 : Ru) (x : Nat) : Bool := decide (told r0 x = told r1 x)
theorem adds_eq (b0 b1 v0 v1 : Int) (h0 : b0.natAbs < 2 ^ 60) (h1 : b1.natAbs < 2 ^ 60) : m_adds_to_nothing [.tup [.int b0, .int b1], .lst [fr (v0, 1), fr (v1, 1)]] = some (.val (.bl (decide (b0 * v0 + b1 * v1 = 0)))) := by
  unfold m_adds_to_nothing b_adds_to_nothing fr
  rw [runV2]
  have m0 : mulOk b0 v0 = true := mulOk_l h0
  have m1 : mulOk b1 v1 = true := mulOk_l h1
  simp [forL_cons, m0, m1]
theorem two_Ok {r0 r1 : Ru} {n0 n1 : Nat} (h0 : r0.Ok n0) (h1 : r1.Ok n1) : ∀ r ∈ [r0, r1], ∃ n, r.Ok n := fun r hr => by
  rcases List.mem_cons.mp hr with e | hr
  · subst e; exact ⟨_, h0⟩
  · cases List.mem_singleton.mp hr; exact ⟨_, h1⟩
section
variable {b n0 n1 : Nat} {ns : List Nat} {pss : List (Row × Row)} {r0 r1 : Ru}
theorem rel_comp (b0 b1 : Int) (h0 : b0.natAbs < 2 ^ 60) (h1 : b1.natAbs < 2 ^ 60) (s0 s2 s3 s4 : Sl) : compL [5, 6] (.tp [.nm 5, .nm 6]) tYs (eCall m_adds_to_nothing (aCons (fz (fVar 1)) (aCons (fz (fVar 6)) aNil))) (ns.map (tellD [r0, r1])) [s0, .val (.tup [.int b0, .int b1]), s2, s3, s4, .no, .no] =
    some (bL (ns.map (relB r0 r1 b0 b1)), [s0, .val (.tup [.int b0, .int b1]), s2, s3, s4, .no, .no]) := by
  rw [compL_map (tellD [r0, r1]) (fun x => D.bl (relB r0 r1 b0 b1 x)) ns fun x _ => ?_, map_bL]
  have ha := adds_eq b0 b1 (told r0 x) (told r1 x) h0 h1
  unfold tellD
  unfold told at ha
  exact ⟨_, _, by simp; first | rfl | exact ⟨rfl, rfl⟩, by simp [ha]; first | rfl | exact ⟨rfl, rfl⟩, by simp, by simp⟩
theorem same_comp (s0 s1 s2 s3 s4 : Sl) : compL [5, 6] (.tp [.nm 5, .nm 6]) tYs (e2 dEq (e2 dIx (fVar 6) (fC (.int 0))) (e2 dIx (fVar 6) (fC (.int 1)))) (ns.map (tellD [r0, r1])) [s0, s1, s2, s3, s4, .no, .no] =
    some (bL (ns.map (sameB r0 r1)), [s0, s1, s2, s3, s4, .no, .no]) := by
  rw [compL_map (tellD [r0, r1]) (fun x => D.bl (sameB r0 r1 x)) ns fun x _ => ?_, map_bL]
  have z0 : ∀ a b : D, atI [a, b] 0 = some a := fun _ _ => rfl
  have z1 : ∀ a b : D, atI [a, b] 1 = some b := fun _ _ => rfl
  unfold tellD fr sameB told
  exact ⟨_, _, by simp; first | rfl | exact ⟨rfl, rfl⟩, by simp [z0, z1, eq_fr]; first | rfl | exact ⟨rfl, rfl⟩, by simp, by simp⟩
theorem part_comp (L : Nat) (s0 s1 s3 s4 : Sl) : compL [5, 6] (.tp [.nm 5, .nm 6]) tYs (eA (e2 dLt (fVar 5) (fVar 2)) (e2 dEq (e2 dIx (fVar 6) (fC (.int 0))) (e2 dIx (fVar 6) (fC (.int 1))))) (ns.map (tellD [r0, r1])) [s0, s1, .val (.int (L : Int)), s3, s4, .no, .no] =
    some (bL (ns.map fun x => decide (x < L) && sameB r0 r1 x), [s0, s1, .val (.int (L : Int)), s3, s4, .no, .no]) := by
  rw [compL_map (tellD [r0, r1]) (fun x => D.bl (decide (x < L) && sameB r0 r1 x)) ns fun x _ => ?_, map_bL]
  have z0 : ∀ a b : D, atI [a, b] 0 = some a := fun _ _ => rfl
  have z1 : ∀ a b : D, atI [a, b] 1 = some b := fun _ _ => rfl
  unfold tellD fr sameB told
  by_cases hx : x < L
  · exact ⟨_, _, by simp; first | rfl | exact ⟨rfl, rfl⟩, by simp [z0, z1, eq_fr, hx]; first | rfl | exact ⟨rfl, rfl⟩, by simp, by simp⟩
  · exact ⟨_, _, by simp; first | rfl | exact ⟨rfl, rfl⟩, by simp [z0, z1, eq_fr, hx]; first | rfl | exact ⟨rfl, rfl⟩, by simp, by simp⟩
theorem relation_eq (h0 : r0.Ok n0) (h1 : r1.Ok n1) (hp : PapOk b ns pss) (b0 b1 : Int) (hb0 : b0.natAbs < 2 ^ 60) (hb1 : b1.natAbs < 2 ^ 60) :
    m_shows_relation [.tup [r0.pl, r1.pl], .tup [.int b0, .int b1], papD ns pss] = some (.val (.bl (spanB [r0, r1] ns pss none && ns.all (relB r0 r1 b0 b1)))) := by
  unfold m_shows_relation b_shows_relation
  rw [runV3]
  have hps := plains_in_eq [r0, r1] (two_Ok h0 h1) (by simp) (by simp)
  have hi := are_integers_eq [b0, b1] 2 (by simp)
  have hs := span_in_eq [r0, r1] (two_Ok h0 h1) (by simp) hp none
  have hc := rel_comp (ns := ns) (r0 := r0) (r1 := r1) b0 b1 hb0 hb1
  have ln := hp.ln
  have lp' : ns.length < sizeLine := sizeLine_l (by omega)
  have hA : (ns.map (relB r0 r1 b0 b1)).all id = ns.all (relB r0 r1 b0 b1) := by rw [List.all_map]; rfl
  unfold limD at hs
  simp at hps hi hs
  cases hB : spanB [r0, r1] ns pss none with
  | true =>
    rw [hB] at hs
    simp at hs
    simp [-List.all_map, hps, hi, hs, hc, lp', hA]
  | false =>
    rw [hB] at hs
    simp at hs
    simp [hps, hi, hs]
theorem same_eq (h0 : r0.Ok n0) (h1 : r1.Ok n1) (hp : PapOk b ns pss) :
    m_shows_same [r0.pl, r1.pl, papD ns pss] = some (.val (.bl (spanB [r0, r1] ns pss none && ns.all (sameB r0 r1)))) := by
  unfold m_shows_same b_shows_same
  rw [runV3]
  have hps := plains_in_eq [r0, r1] (two_Ok h0 h1) (by simp) (by simp)
  have hs := span_in_eq [r0, r1] (two_Ok h0 h1) (by simp) hp none
  have hc := same_comp (ns := ns) (r0 := r0) (r1 := r1)
  have ln := hp.ln
  have lp' : ns.length < sizeLine := sizeLine_l (by omega)
  have s2' : 2 ≤ sizeLine := by decide
  have hA : (ns.map (sameB r0 r1)).all id = ns.all (sameB r0 r1) := by rw [List.all_map]; rfl
  unfold limD at hs
  simp at hps hs
  cases hB : spanB [r0, r1] ns pss none with
  | true =>
    rw [hB] at hs
    simp at hs
    simp [-List.all_map, hps, s2', hs, hc, lp', hA]
  | false =>
    rw [hB] at hs
    simp at hs
    simp [hps, s2', hs]
end
end VL

set_option Elab.async false
set_option linter.all false
set_option maxRecDepth 100000
set_option maxHeartbeats 1000000
/-! Lpp: parting; accepts. -/
namespace VL
open PySem PySem.Spec PyProof.Rows L2
theorem ne_fr (a b c d : Int) : dNe (.tup [.int a, .int b]) (.tup [.int c, .int d]) = some (vB (!decide ((a, b) = (c, d)))) := ne_dec (α := Int × Int) (a, b) (c, d) (by decide)
theorem eq_emp : dEq (.tup []) (.tup []) = some (vB true) := by kernel_rfl
section
variable {b n0 n1 : Nat} {ns : List Nat} {pss : List (Row × Row)} {r0 r1 : Ru}
theorem apart_comp (h0 : r0.Ok n0) (h1 : r1.Ok n1) {L : Nat} (hL : L < 2 ^ 10) (s0 s2 : Sl) : compL [3] (.nm 3) tYs (eMeth 0 ("told_by" : PySem.Str) m_Plain_told_by (fVar 3) (aCons (fz (eMeth 0 ("point_at" : PySem.Str) m_Plain_point_at (fVar 3) (aCons (fz (fVar 1)) aNil))) aNil)) ([r0, r1].map Ru.ins) [s0, .val (.int (L : Int)), s2, .no] =
    some ([r0, r1].map (fun r => fr (told r L, 1)), [s0, .val (.int (L : Int)), s2, .no]) := by
  rw [compL_map Ru.ins (fun r => fr (told r L, 1)) [r0, r1] fun r hr => ?_]
  obtain ⟨n, hn⟩ := two_Ok h0 h1 r hr
  have hp := point_eq hn hL (by decide)
  have ht := told_eq hn (lns_bd hn hL) (by omega)
  unfold Ru.ins Ru.fs at hp ht ⊢
  unfold fr told
  exact ⟨_, _, by simp; rfl, by simp [look_point, look_told, hp, ht]; first | rfl | exact ⟨rfl, rfl⟩, by simp, by simp⟩
theorem are_apart_eq (h0 : r0.Ok n0) (h1 : r1.Ok n1) {L : Nat} (hL : L < 2 ^ 10) : m_are_apart [.lst [r0.ins, r1.ins], .int (L : Int)] = some (.val (.bl (!sameB r0 r1 L))) := by
  unfold m_are_apart b_are_apart sameB
  rw [runV2]
  have hc := apart_comp h0 h1 hL
  have z0 : ∀ a b : D, atI [a, b] 0 = some a := fun _ _ => rfl
  have z1 : ∀ a b : D, atI [a, b] 1 = some b := fun _ _ => rfl
  have s2' : 2 < sizeLine := by decide
  unfold fr at hc
  simp at hc
  simp [hc, s2', z0, z1, ne_fr]
theorem shows_apart_eq (h0 : r0.Ok n0) (h1 : r1.Ok n1) {L : Nat} (hL : L < 2 ^ 10) : m_shows_apart [r0.pl, r1.pl, .int (L : Int), .tup []] = some (.val (.bl (!sameB r0 r1 L))) := by
  unfold m_shows_apart b_shows_apart
  rw [runV4]
  have hps := plains_in_eq [r0, r1] (two_Ok h0 h1) (by simp) (by simp)
  have ha := are_apart_eq h0 h1 hL
  have hi := is_integer_int (L : Int)
  have s2' : 2 ≤ sizeLine := by decide
  have s0' : 0 ≤ sizeLine := by decide
  have g1 : (0 : Int) ≤ (L : Int) := by omega
  have g2 : (L : Int) ≤ 10 ^ 300 := by
    have : (2 : Int) ^ 10 ≤ 10 ^ 300 := by decide +kernel
    omega
  simp at hps
  simp [hps, s2', s0', hi, g1, g2, eq_emp, ha]
theorem parting_eq (h0 : r0.Ok n0) (h1 : r1.Ok n1) (hp : PapOk b ns pss) {L : Nat} (hL : L < 2 ^ 10) :
    m_shows_parting [r0.pl, r1.pl, .int (L : Int), papD ns pss] = some (.val (.bl (!sameB r0 r1 L && (spanB [r0, r1] ns pss (some L) && ns.all fun x => decide (x < L) && sameB r0 r1 x)))) := by
  unfold m_shows_parting b_shows_parting
  rw [runV4]
  have hps := plains_in_eq [r0, r1] (two_Ok h0 h1) (by simp) (by simp)
  have hs := span_in_eq [r0, r1] (two_Ok h0 h1) (by simp) hp (some L)
  have ha := shows_apart_eq h0 h1 hL
  have hc := part_comp (ns := ns) (r0 := r0) (r1 := r1) L
  have ln := hp.ln
  have lp' : ns.length < sizeLine := sizeLine_l (by omega)
  have s2' : 2 ≤ sizeLine := by decide
  have s0' : 0 ≤ sizeLine := by decide
  have hA : (ns.map fun x => decide (x < L) && sameB r0 r1 x).all id = ns.all fun x => decide (x < L) && sameB r0 r1 x := by rw [List.all_map]; rfl
  unfold limD at hs
  simp at hps hs
  cases hq : sameB r0 r1 L with
  | true =>
    rw [hq] at ha
    simp [s0', ha]
  | false =>
    rw [hq] at ha
    cases hB : spanB [r0, r1] ns pss (some L) with
    | true =>
      rw [hB] at hs
      simp at hs
      simp [-List.all_map, hps, s2', s0', ha, hs, hc, lp', hA]
    | false =>
      rw [hB] at hs
      simp at hs
      simp [hps, s2', s0', ha, hs]
end
/-! ### accepts -/
theorem sh_fr {n : Nat} (p : Int × Int) : Sh (n + 1) (fr p) := .tup fun x hx => by
  rcases List.mem_cons.mp hx with e | hx
  · subst e; exact .int _
  · cases List.mem_singleton.mp hx; exact .int _
theorem sh_frL {n : Nat} (l : List (Int × Int)) : Sh (n + 2) (.tup (frL l)) := .tup fun x hx => by
  obtain ⟨p, _, e⟩ := List.mem_map.mp hx
  subst e; exact sh_fr p
theorem sh_mf {n : Nat} (m : List (List Int)) : Sh (n + 3) (mf m) := .tup fun x hx => by
  obtain ⟨p, _, e⟩ := List.mem_map.mp hx
  subst e; exact sh_frL _
theorem sh_iL {n : Nat} (l : List Int) : Sh (n + 1) (.tup (iL l)) := .tup fun x hx => by
  obtain ⟨p, _, e⟩ := List.mem_map.mp hx
  subst e; exact .int _
theorem sh_pl {n : Nat} (r : Ru) : Sh (n + 4) r.pl := .tup fun x hx => by
  simp only [List.mem_cons, List.not_mem_nil, or_false] at hx
  rcases hx with rfl | rfl | rfl | rfl
  · exact sh_mf _
  · exact sh_mf _
  · exact sh_iL (n := n + 2) _
  · exact sh_frL (n := n + 1) _
def wRel : Str := "relation"
def wSam : Str := "same"
def wPar : Str := "parting"
def claimR (r0 r1 : Ru) (b0 b1 : Int) : D := .tup [.str wRel, .tup [r0.pl, r1.pl], .tup [.int b0, .int b1]]
def claimS (r0 r1 : Ru) : D := .tup [.str wSam, r0.pl, r1.pl]
def claimP (r0 r1 : Ru) (L : Nat) : D := .tup [.str wPar, r0.pl, r1.pl, .int (L : Int)]
theorem sh_R (r0 r1 : Ru) (b0 b1 : Int) : Sh 6 (claimR r0 r1 b0 b1) := .tup fun x hx => by
  simp only [List.mem_cons, List.not_mem_nil, or_false] at hx
  rcases hx with rfl | rfl | rfl
  · exact .str _ (by kernel_rfl)
  · refine .tup fun y hy => ?_
    simp only [List.mem_cons, List.not_mem_nil, or_false] at hy
    rcases hy with rfl | rfl
    · exact sh_pl _
    · exact sh_pl _
  · exact sh_iL (n := 4) [b0, b1]
theorem sh_S (r0 r1 : Ru) : Sh 6 (claimS r0 r1) := .tup fun x hx => by
  simp only [List.mem_cons, List.not_mem_nil, or_false] at hx
  rcases hx with rfl | rfl | rfl
  · exact .str _ (by kernel_rfl)
  · exact sh_pl (n := 1) _
  · exact sh_pl (n := 1) _
theorem sh_P (r0 r1 : Ru) (L : Nat) : Sh 6 (claimP r0 r1 L) := .tup fun x hx => by
  simp only [List.mem_cons, List.not_mem_nil, or_false] at hx
  rcases hx with rfl | rfl | rfl | rfl
  · exact .str _ (by kernel_rfl)
  · exact sh_pl (n := 1) _
  · exact sh_pl (n := 1) _
  · exact .int _
end VL

set_option Elab.async false
set_option linter.all false
set_option maxRecDepth 100000
set_option maxHeartbeats 1000000
/-! Lpq: accepts, of the three kinds of claim. -/
namespace VL
open PySem PySem.Spec PyProof.Rows L2
def szs : List (Str × D) := [("same", .int 3), ("apart", .int 4), ("parting", .int 4), ("relation", .int 3), ("rests", .int 4), ("told", .int 3)]
theorem sz_R : List.lookup wRel szs = some (.int 3) := by kernel_rfl
theorem sz_S : List.lookup wSam szs = some (.int 3) := by kernel_rfl
theorem sz_P : List.lookup wPar szs = some (.int 4) := by kernel_rfl
theorem w_RS : dEq (.str wRel) (.str ("same" : Str)) = some (vB false) := by kernel_rfl
theorem w_RA : dEq (.str wRel) (.str ("apart" : Str)) = some (vB false) := by kernel_rfl
theorem w_RP : dEq (.str wRel) (.str ("parting" : Str)) = some (vB false) := by kernel_rfl
theorem w_RR : dEq (.str wRel) (.str ("relation" : Str)) = some (vB true) := by kernel_rfl
theorem w_SS : dEq (.str wSam) (.str ("same" : Str)) = some (vB true) := by kernel_rfl
theorem w_PS : dEq (.str wPar) (.str ("same" : Str)) = some (vB false) := by kernel_rfl
theorem w_PA : dEq (.str wPar) (.str ("apart" : Str)) = some (vB false) := by kernel_rfl
theorem w_PP : dEq (.str wPar) (.str ("parting" : Str)) = some (vB true) := by kernel_rfl
theorem a3_0 (a b c : D) : atI [a, b, c] 0 = some a := rfl
theorem a3_1 (a b c : D) : atI [a, b, c] 1 = some b := rfl
theorem a3_2 (a b c : D) : atI [a, b, c] 2 = some c := rfl
theorem a4_0 (a b c d : D) : atI [a, b, c, d] 0 = some a := rfl
theorem a4_1 (a b c d : D) : atI [a, b, c, d] 1 = some b := rfl
theorem a4_2 (a b c d : D) : atI [a, b, c, d] 2 = some c := rfl
theorem a4_3 (a b c d : D) : atI [a, b, c, d] 3 = some d := rfl
section
variable {b n0 n1 : Nat} {ns : List Nat} {pss : List (Row × Row)} {r0 r1 : Ru}
theorem accepts_R (h0 : r0.Ok n0) (h1 : r1.Ok n1) (hp : PapOk b ns pss) (b0 b1 : Int) (hb0 : b0.natAbs < 2 ^ 60) (hb1 : b1.natAbs < 2 ^ 60) :
    m_accepts [claimR r0 r1 b0 b1, papD ns pss] = some (.val (.bl (spanB [r0, r1] ns pss none && ns.all (relB r0 r1 b0 b1)))) := by
  have he := eq_empty (sh_R r0 r1 b0 b1) (by decide)
  have hr := relation_eq h0 h1 hp b0 b1 hb0 hb1
  have hz := sz_R
  have s0' : 0 ≤ sizeLine := by decide
  unfold szs at hz
  unfold m_accepts b_accepts claimR
  rw [runV2]
  simp [s0', he, a3_0, a3_1, a3_2, hz, w_RS, w_RA, w_RP, w_RR, hr]
theorem accepts_S (h0 : r0.Ok n0) (h1 : r1.Ok n1) (hp : PapOk b ns pss) : m_accepts [claimS r0 r1, papD ns pss] = some (.val (.bl (spanB [r0, r1] ns pss none && ns.all (sameB r0 r1)))) := by
  have he := eq_empty (sh_S r0 r1) (by decide)
  have hr := same_eq h0 h1 hp
  have hz := sz_S
  have s0' : 0 ≤ sizeLine := by decide
  unfold szs at hz
  unfold m_accepts b_accepts claimS
  rw [runV2]
  simp [s0', he, a3_0, a3_1, a3_2, hz, w_SS, hr]
theorem accepts_P (h0 : r0.Ok n0) (h1 : r1.Ok n1) (hp : PapOk b ns pss) {L : Nat} (hL : L < 2 ^ 10) :
    m_accepts [claimP r0 r1 L, papD ns pss] = some (.val (.bl (!sameB r0 r1 L && (spanB [r0, r1] ns pss (some L) && ns.all fun x => decide (x < L) && sameB r0 r1 x)))) := by
  have he := eq_empty (sh_P r0 r1 L) (by decide)
  have hr := parting_eq h0 h1 hp hL
  have hz := sz_P
  have s0' : 0 ≤ sizeLine := by decide
  unfold szs at hz
  unfold m_accepts b_accepts claimP
  rw [runV2]
  simp [s0', he, a4_0, a4_1, a4_2, a4_3, hz, w_PS, w_PA, w_PP, hr]
end
end VL

set_option Elab.async false
set_option linter.all false
set_option maxRecDepth 100000
set_option maxHeartbeats 1000000
/-! Lqa: the law's own steps. -/
namespace VL
open PySem PySem.Spec PyProof.Rows L2
theorem dot_range : ∀ (r w : List Int), r.length = w.length → ((List.range w.length).map fun j => r.getD j 0 * w.getD j 0).sum = dot r w
  | [], [], _ => rfl
  | [], _ :: _, h => by cases h
  | _ :: _, [], h => by cases h
  | x :: r, y :: w, h => by
    have ih := dot_range r w (Nat.succ.inj h)
    rw [List.length_cons, List.range_succ_eq_map, List.map_cons, List.map_map, List.sum_cons]
    have e : ((fun j => (x :: r).getD j 0 * (y :: w).getD j 0) ∘ Nat.succ) = fun j => r.getD j 0 * w.getD j 0 := funext fun j => by simp
    rw [e, ih]
    rfl
theorem image_inner {k : Nat} (en : List Int → D) (hen : ∀ r, D.items (en r) = some (iL r)) (r w : List Int) (hl : r.length = w.length) (hr : ∀ y ∈ r, Bd 50 y) (s0 : Sl) :
    compL [2] (.nm 2) tYs (e2 dMul (e2 dIx (fVar 3) (fVar 2)) (e2 dIx (fVar 1) (fVar 2))) (nL (List.range w.length)) [s0, .val (.lst (iL w)), .no, .val (en r)] = some (iL ((List.range w.length).map fun j => r.getD j 0 * w.getD j 0), [s0, .val (.lst (iL w)), .no, .val (en r)]) := by
  unfold nL
  rw [compL_map (fun (n : Nat) => D.int (n : Int)) (fun j => D.int (r.getD j 0 * w.getD j 0)) (List.range w.length) fun j hj => ?_, map_iL]
  have hj' := List.mem_range.mp hj
  have a1 : dIx (en r) (.int (j : Int)) = some (.val (.int (r.getD j 0))) := by
    unfold dIx
    rw [hen]
    show (atI (iL r) (j : Int)).map Bv.val = _
    rw [iL_at (by omega)]; rfl
  have a2 := iL_at (v := w) (j := j) hj'
  have b1 := getD_bd hr (j := j) (by omega)
  have m : mulOk (r.getD j 0) (w.getD j 0) = true := mulOk_l (Nat.lt_trans b1 (by decide))
  rw [List.getD_eq_getElem?_getD, List.getD_eq_getElem?_getD] at *
  exact ⟨_, _, by simp; rfl, by simp [a1, a2, m]; first | rfl | exact ⟨rfl, rfl⟩, by simp, by simp⟩
theorem image_eq (en : List Int → D) (hen : ∀ r, D.items (en r) = some (iL r)) {d : D} (m : List (List Int)) (hd : seqD d = some (m.map en)) (w : List Int) (hm : ∀ r ∈ m, r.length = w.length ∧ ∀ y ∈ r, Bd 50 y) (hw : w.length ≤ 50) (hml : m.length ≤ 100) :
    m__law_image [d, .lst (iL w)] = some (.new (.lst (iL (img m w)))) := by
  unfold m__law_image b__law_image
  rw [runV2]
  have lw : w.length < sizeLine := sizeLine_l (by omega)
  have lm : m.length < sizeLine := sizeLine_l (by omega)
  have okw : okR (w.length : Int) = true := okR_nat (by omega)
  have hc : ∀ s0 : Sl, compL [3] (.nm 3) tYs (eN dSum (aCons (eComp [2] (.nm 2) (iRan1 (aCons (eN dLen (aCons (fVar 1) aNil)) aNil)) tYs (e2 dMul (e2 dIx (fVar 3) (fVar 2)) (e2 dIx (fVar 1) (fVar 2)))) aNil)) (m.map en) [s0, .val (.lst (iL w)), .no, .no] =
      some (iL (img m w), [s0, .val (.lst (iL w)), .no, .no]) := fun s0 => by
    rw [compL_map en (fun r => D.int (dot r w)) m fun r hr => ?_, map_iL]
    · rfl
    · obtain ⟨h1, h2⟩ := hm r hr
      have hi := image_inner (k := 0) en hen r w h1 h2 s0
      have hs := dot_range r w h1
      simp only [List.getD_eq_getElem?_getD] at hs
      exact ⟨_, _, by simp; rfl, by simp [okw, from0, lw, hi, hs]; first | rfl | exact ⟨rfl, rfl⟩, by simp, by simp⟩
  unfold seqD at hd
  split at hd
  · cases hd; simp [hc, lm]
  · cases hd; simp [hc, lm]
  · cases hd; simp [hc, lm]
  · cases hd
theorem digits_eq {m k : Nat} (hk : k < 2 ^ m) (hm : m ≤ 100) : m__law_digits [.int (k : Int)] = some (.new (.lst (nL (bits k).reverse))) := by
  unfold m__law_digits b__law_digits
  rw [runV1]
  have hbl := bits_len m k hk
  obtain ⟨w, hw⟩ := digit_loop (tb (e2 dGt (fVar 2) (fC (.int 0)))) (sSeq (sApp 1 (e2 dMod (eN dInt (aCons (fVar 2) aNil)) (fC (.int 2)))) (sSet 2 (e2 dFdiv (fVar 2) (fC (.int 2)))))
    (fun xs q => [.val (.int (k : Int)), .own (.lst xs), .val q]) (fun xs q => by simp) (fun xs q hx => by
      have := sizeLine_5 hx
      simp [this]) k [] (by simp; omega)
  have hw' := sWhile_of hw
  have er : (nL (bits k)).reverse = nL (bits k).reverse := by unfold nL; rw [List.map_reverse]
  have z0 : (0 : Nat) ≤ sizeLine := Nat.zero_le _
  simp [hw', er]
/-! ### a rule's lines -/
theorem mt_at (r : Ru) {d : Nat} (hd : d < 2) (x y : D) : atI [mt r.ev, mt r.od, x, y] (d : Int) = some (mt (r.side d)) := by
  refine atI_nat ?_
  unfold Ru.side
  match d, hd with
  | 0, _ => rfl
  | 1, _ => rfl
theorem fold_len {r : Ru} {n : Nat} (h : r.Ok n) : ∀ (ds : List Nat) (v : List Int), v.length = n → (ds.foldl (fun v d => img (r.side d) v) v).length = n
  | [], v, hv => hv
  | d :: ds, v, hv => by
    rw [List.foldl_cons]
    exact fold_len h ds _ (by rw [img_len]; exact (h.side d).1)
theorem lines_loop {r : Ru} {n : Nat} (h : r.Ok n) (s1 : Sl) : ∀ (ds : List Nat) (v : List Int) (s3 : Sl), Pl s3 → (∀ d ∈ ds, d < 2) → v.length = n →
    ∃ s3' : Sl, forL (.nm 3) (sSet 2 (eCall m__law_image (aCons (fz (e2 dIx (fVar 0) (fVar 3))) (aCons (fz (fVar 2)) aNil)))) (nL ds) [.val r.d, s1, .own (.lst (iL v)), s3] =
      some (.nx, [.val r.d, s1, .own (.lst (iL (ds.foldl (fun v d => img (r.side d) v) v))), s3']) ∧ Pl s3'
  | [], v, s3, p, _, _ => ⟨s3, rfl, p⟩
  | d :: ds, v, s3, p, hd, hv => by
    have hd0 := hd d List.mem_cons_self
    obtain ⟨g1, g2⟩ := h.side d
    have n1 := h.n1
    obtain ⟨s3', ih, p'⟩ := lines_loop h s1 ds (img (r.side d) v) (.val (.int (d : Int))) (.v _) (fun x hx => hd x (List.mem_cons_of_mem _ hx)) (by rw [img_len]; exact g1)
    refine ⟨s3', ?_, p'⟩
    have hi := image_eq (fun r => D.tup (iL r)) (fun _ => rfl) (d := mt (r.side d)) (r.side d) rfl v (fun x hx => ⟨by rw [(g2 x hx).1, hv], (g2 x hx).2⟩) (by omega) (by omega)
    have ha := mt_at r hd0 (.tup (iL r.st)) (.tup (iL r.tl))
    show forL _ _ (D.int (d : Int) :: nL ds) _ = _
    rw [forL_cons]
    unfold Ru.d at ih ⊢
    simp [p.fr, ha, hi, ih]
theorem lines_eq {r : Ru} {n m k : Nat} (h : r.Ok n) (hk : k < 2 ^ m) (hm : m ≤ 100) : m__law_lines [r.d, .int (k : Int)] = some (.new (.lst (iL (lns r k)))) := by
  unfold m__law_lines b__law_lines
  rw [runV2]
  have hdg := digits_eq hk hm
  obtain ⟨s3', hl, _⟩ := lines_loop h (.val (.int (k : Int))) (bits k).reverse r.st .no .no (fun d hd => bits_lt k d (List.mem_reverse.mp hd)) h.stl
  rw [List.foldl_reverse] at hl
  have a2 : ∀ a b c d : D, atI [a, b, c, d] 2 = some c := fun _ _ _ _ => rfl
  unfold Ru.d at hl ⊢
  simp [hdg, a2, hl]
  rfl
theorem at_eq {r : Ru} {n m k : Nat} (h : r.Ok n) (hk : k < 2 ^ m) (hm : m ≤ 100) : m__law_at [r.d, .int (k : Int)] = some (.val (.int (told r k))) := by
  unfold m__law_at b__law_at
  rw [runV2]
  have hl := lines_eq h hk hm
  have n1 := h.n1
  have hi := image_eq (fun r => D.tup (iL r)) (fun _ => rfl) (d := .lst [.tup (iL r.tl)]) [r.tl] rfl (lns r k) (fun x hx => by
    cases List.mem_singleton.mp hx
    exact ⟨by rw [h.tll, lns_len h], h.tlb⟩) (by rw [lns_len h]; exact n1) (by simp)
  have a3 : ∀ a b c d : D, atI [a, b, c, d] 3 = some d := fun _ _ _ _ => rfl
  have z0 : ∀ a : D, atI [a] 0 = some a := fun _ => rfl
  have s1' : 1 ≤ sizeLine := by decide
  have e : img [r.tl] (lns r k) = [told r k] := rfl
  rw [e] at hi
  unfold Ru.d at hl ⊢
  simp at hi
  simp [hl, a3, s1', hi, z0]
end VL

set_option Elab.async false
set_option linter.all false
set_option maxRecDepth 100000
set_option maxHeartbeats 1000000
/-! Lqb: the rule as the checker's; joint values; sums. -/
namespace VL
open PySem PySem.Spec PyProof.Rows L2
theorem one_comp (x : List Int) (s0 s1 s3 s4 : Sl) : compL [2] (.nm 2) tYs (eTup (aCons (fz (fVar 2)) (aCons (fz (fC (.int 1))) aNil))) (iL x) [s0, s1, .no, s3, s4] = some (frL (one x), [s0, s1, .no, s3, s4]) := by
  unfold iL
  rw [compL_map D.int (fun y => fr (y, 1)) x fun y _ => ?_]
  · unfold frL one; rw [List.map_map]; rfl
  · have s2' : 2 ≤ sizeLine := by decide
    unfold fr
    exact ⟨_, _, by simp; rfl, by simp [s2']; first | rfl | exact ⟨rfl, rfl⟩, by simp, by simp⟩
theorem side_conv (m : List (List Int)) (hm : ∀ x ∈ m, x.length ≤ 50) (s0 s1 s4 : Sl) : compL [3] (.nm 3) tYs (eN dTuple (aCons (eComp [2] (.nm 2) (iSq (fVar 3)) tYs (eTup (aCons (fz (fVar 2)) (aCons (fz (fC (.int 1))) aNil)))) aNil)) (m.map fun r => .tup (iL r)) [s0, s1, .no, .no, s4] =
    some (m.map (fun r => .tup (frL (one r))), [s0, s1, .no, .no, s4]) := by
  rw [compL_map (fun r => D.tup (iL r)) (fun r => D.tup (frL (one r))) m fun x hx => ?_]
  have hc := one_comp x
  have lx : x.length < sizeLine := sizeLine_l (by have := hm x hx; omega)
  exact ⟨_, _, by simp; rfl, by simp [hc, lx]; first | rfl | exact ⟨rfl, rfl⟩, by simp, by simp⟩
theorem sides_conv (ms : List (List (List Int))) (hm : ∀ m ∈ ms, m.length ≤ 50 ∧ ∀ x ∈ m, x.length ≤ 50) (s0 s1 : Sl) : compL [4] (.nm 4) tYs (eN dTuple (aCons (eComp [3] (.nm 3) (iSq (fVar 4)) tYs (eN dTuple (aCons (eComp [2] (.nm 2) (iSq (fVar 3)) tYs (eTup (aCons (fz (fVar 2)) (aCons (fz (fC (.int 1))) aNil)))) aNil))) aNil)) (ms.map mt) [s0, s1, .no, .no, .no] =
    some (ms.map mf, [s0, s1, .no, .no, .no]) := by
  rw [compL_map mt mf ms fun m hx => ?_]
  obtain ⟨h1, h2⟩ := hm m hx
  have hc := side_conv m h2
  have lx : m.length < sizeLine := sizeLine_l (by omega)
  unfold mt mf
  exact ⟨_, _, by simp; rfl, by simp [hc, lx]; first | rfl | exact ⟨rfl, rfl⟩, by simp, by simp⟩
theorem plain_eq {r : Ru} {n : Nat} (h : r.Ok n) : m__law_plain [r.d] = some (.val r.pl) := by
  unfold m__law_plain b__law_plain
  rw [runV1]
  have n1 := h.n1
  have hc := sides_conv [r.ev, r.od] fun m hm => by
    rcases List.mem_cons.mp hm with e | hm
    · subst e; exact ⟨by rw [h.evl]; exact n1, fun x hx => by rw [(h.evr x hx).1]; exact n1⟩
    · cases List.mem_singleton.mp hm
      exact ⟨by rw [h.odl]; exact n1, fun x hx => by rw [(h.odr x hx).1]; exact n1⟩
  have ho := one_comp r.tl
  have lt : r.tl.length < sizeLine := sizeLine_l (by rw [h.tll]; omega)
  have hcut : cutD [mt r.ev, mt r.od, .tup (iL r.st), .tup (iL r.tl)] none (some 2) = [mt r.ev, mt r.od] := rfl
  have a0 : ∀ a b : D, atI [a, b] 0 = some a := fun _ _ => rfl
  have a1 : ∀ a b : D, atI [a, b] 1 = some b := fun _ _ => rfl
  have a2 : ∀ a b c d : D, atI [a, b, c, d] 2 = some c := fun _ _ _ _ => rfl
  have a3 : ∀ a b c d : D, atI [a, b, c, d] 3 = some d := fun _ _ _ _ => rfl
  have s2' : 2 < sizeLine := by decide
  have s4' : 4 ≤ sizeLine := by decide
  have s2'' : 2 ≤ sizeLine := by decide
  simp at hc
  unfold Ru.d Ru.pl
  simp [hcut, hc, s2', s2'', s4', a0, a1, a2, a3, ho, lt]
def jnt (r0 r1 : Ru) (k : Nat) : List Int := lns r0 k ++ lns r1 k
theorem joint_eq {r0 r1 : Ru} {n0 n1 m k : Nat} (h0 : r0.Ok n0) (h1 : r1.Ok n1) (hk : k < 2 ^ m) (hm : m ≤ 100) : m__law_joint [.lst [r0.d, r1.d], .int (k : Int)] = some (.new (.lst (iL (jnt r0 r1 k)))) := by
  unfold m__law_joint b__law_joint jnt
  rw [runV2]
  have l0 := lines_eq h0 hk hm
  have l1 := lines_eq h1 hk hm
  have g0 := lns_len h0 k
  have g1 := lns_len h1 k
  have m0 := h0.n1
  have m1 := h1.n1
  have z0 : (0 : Nat) ≤ sizeLine := Nat.zero_le _
  have z1 : n0 ≤ sizeLine := sizeLine_n (by omega)
  have z2 : n0 + n1 ≤ sizeLine := sizeLine_n (by omega)
  have e : iL (lns r0 k) ++ iL (lns r1 k) = iL (lns r0 k ++ lns r1 k) := by unfold iL; rw [List.map_append]
  simp [forL_cons, l0, l1, g0, g1, z0, z1, z2, e]
theorem ldivisor_eq (a b : Int) : m__law_divisor [.int a, .int b] = some (.val (.int (Int.gcd a b))) := by
  have loop : ∀ (l h : Nat), ∃ n, whileN (tb (e2 dGt (fVar 3) (fC (.int 0)))) (sPar [2, 3] (sCons (fVar 3) (sCons (e2 dMod (eN dInt (aCons (fVar 2) aNil)) (fVar 3)) sNil))) n [.val (.int a), .val (.int b), .val (.int h), .val (.int l)] = some (.nx, [.val (.int a), .val (.int b), .val (.int (Nat.gcd h l)), .val (.int 0)]) := by
    intro l
    induction l using Nat.strongRecOn with
    | _ l ih =>
      intro h
      by_cases hl : 0 < l
      · obtain ⟨n, hn⟩ := ih (h % l) (Nat.mod_lt _ hl) l
        refine ⟨n + 1, ?_⟩
        rw [whileN_succ]
        rw [Int.natCast_emod] at hn
        simp [hl, hn]
        rw [Nat.gcd_comm h l, Nat.gcd_rec l h, Nat.gcd_comm]
      · have : l = 0 := by omega
        subst this
        refine ⟨1, ?_⟩
        rw [whileN_succ]
        simp
  unfold m__law_divisor b__law_divisor
  rw [runV2]
  obtain ⟨n, hn⟩ := loop b.natAbs a.natAbs
  have := sWhile_of hn
  simp [this]
  rfl
theorem sums_eq {r0 r1 : Ru} {n0 n1 : Nat} (h0 : r0.Ok n0) (h1 : r1.Ok n1) (b0 b1 : Int) (hb0 : b0.natAbs < 2 ^ 60) (hb1 : b1.natAbs < 2 ^ 60) {d : D} (ks : List Nat) (hd : seqD d = some (nL ks)) (hk : ∀ k ∈ ks, k < 2 ^ 10) (hl : ks.length ≤ 1000) :
    m__law_sums [.lst [r0.d, r1.d], .tup [.int b0, .int b1], d] = some (.new (.lst (iL (ks.map fun k => b0 * told r0 k + b1 * told r1 k)))) := by
  unfold m__law_sums b__law_sums
  rw [runV3]
  have hc : ∀ s2 : Sl, compL [3] (.nm 3) tYs (e2 dAdd (e2 dMul (e2 dIx (fVar 1) (fC (.int 0))) (eCall m__law_at (aCons (fz (e2 dIx (fVar 0) (fC (.int 0)))) (aCons (fz (fVar 3)) aNil)))) (e2 dMul (e2 dIx (fVar 1) (fC (.int 1))) (eCall m__law_at (aCons (fz (e2 dIx (fVar 0) (fC (.int 1)))) (aCons (fz (fVar 3)) aNil))))) (nL ks) [.val (.lst [r0.d, r1.d]), .val (.tup [.int b0, .int b1]), s2, .no] =
      some (iL (ks.map fun k => b0 * told r0 k + b1 * told r1 k), [.val (.lst [r0.d, r1.d]), .val (.tup [.int b0, .int b1]), s2, .no]) := fun s2 => by
    unfold nL
    rw [compL_map (fun (n : Nat) => D.int (n : Int)) (fun k => D.int (b0 * told r0 k + b1 * told r1 k)) ks fun k hk' => ?_, map_iL]
    have t0 := at_eq h0 (hk k hk') (by decide)
    have t1 := at_eq h1 (hk k hk') (by decide)
    have m0 : mulOk b0 (told r0 k) = true := mulOk_l hb0
    have m1 : mulOk b1 (told r1 k) = true := mulOk_l hb1
    have a0 : ∀ a b : D, atI [a, b] 0 = some a := fun _ _ => rfl
    have a1 : ∀ a b : D, atI [a, b] 1 = some b := fun _ _ => rfl
    exact ⟨_, _, by simp; rfl, by simp [a0, a1, t0, t1, m0, m1]; first | rfl | exact ⟨rfl, rfl⟩, by simp, by simp⟩
  have lk : ks.length < sizeLine := sizeLine_l (by omega)
  unfold seqD at hd
  split at hd
  · cases hd; simp [hc, lk]
  · cases hd; simp [hc, lk]
  · cases hd; simp [hc, lk]
  · cases hd
end VL

set_option Elab.async false
set_option linter.all false
set_option maxRecDepth 100000
set_option maxHeartbeats 1000000
/-! Lqc: the law's makes. -/
namespace VL
open PySem PySem.Spec PyProof.Rows L2
def prB (row : List (Int × Int)) : Int := row.foldl (fun b p => b * p.2) 1
def topB (row : List (Int × Int)) : List Int := row.map fun p => p.1 * (prB row / p.2)
def makesL (row : List (Int × Int)) (vs : List (List Int)) (w : List Int) : Bool := (List.range w.length).all fun j => decide (dot (topB row) (col vs j) = prB row * w.getD j 0)
theorem pr_fold {b : Nat} : ∀ (row : List (Int × Int)) (m : Nat) (x : Int), 0 < x → Bd m x → (∀ p ∈ row, 0 < p.2 ∧ Bd b p.2) → Bd (m + b * row.length) (row.foldl (fun b p => b * p.2) x) ∧ 0 < row.foldl (fun b p => b * p.2) x
  | [], m, x, h0, h1, _ => ⟨by simpa using h1, h0⟩
  | p :: row, m, x, h0, h1, h => by
    obtain ⟨g1, g2⟩ := h p List.mem_cons_self
    obtain ⟨i1, i2⟩ := pr_fold row (m + b) (x * p.2) (Int.mul_pos h0 g1) (h1.mul g2) fun q hq => h q (List.mem_cons_of_mem _ hq)
    refine ⟨i1.mono ?_, i2⟩
    rw [List.length_cons, Nat.mul_succ]
    omega
theorem RowOk.pr {b : Nat} {row : List (Int × Int)} (h : RowOk b row) : Bd 40000 (prB row) ∧ 0 < prB row := by
  obtain ⟨h1, h2⟩ := pr_fold (b := b) row 1 1 (by decide) (by unfold Bd; decide) fun p hp => ⟨h.pos p hp, h.b2 p hp⟩
  refine ⟨h1.mono ?_, h2⟩
  have : b * row.length ≤ 3000 * 12 := Nat.mul_le_mul h.sm h.ln
  omega
theorem topB_bd {b : Nat} {row : List (Int × Int)} (h : RowOk b row) : ∀ x ∈ topB row, Bd 50000 x := fun x hx => by
  obtain ⟨p, hp, e⟩ := List.mem_map.mp hx
  subst e
  have h1 := h.b1 p hp
  have h2 : Bd 40000 (prB row / p.2) := by
    have := h.pr.1
    have g : (prB row / p.2).natAbs ≤ (prB row).natAbs := Int.natAbs_ediv_le_natAbs _ _
    unfold Bd at *
    omega
  have := h.sm
  exact (h1.mul h2).mono (by omega)
theorem pr_loop {b : Nat} (s0 s1 s2 s6 s7 s8 : Sl) : ∀ (row : List (Int × Int)) (x : Int) (m : Nat) (s4 s5 : Sl), Pl s4 → Pl s5 → Bd m x → (∀ p ∈ row, Bd b p.2) → m + b * row.length < 1000000 →
    ∃ s4' s5', forL (.tp [.nm 4, .nm 5]) (sSet 3 (e2 dMul (fVar 3) (fVar 5))) (frL row) [s0, s1, s2, .val (.int x), s4, s5, s6, s7, s8] = some (.nx, [s0, s1, s2, .val (.int (row.foldl (fun b p => b * p.2) x)), s4', s5', s6, s7, s8]) ∧ Pl s4' ∧ Pl s5'
  | [], x, m, s4, s5, p4, p5, _, _, _ => ⟨s4, s5, rfl, p4, p5⟩
  | p :: row, x, m, s4, s5, p4, p5, hx, h, hs => by
    rw [List.length_cons, Nat.mul_succ] at hs
    have g := h p List.mem_cons_self
    obtain ⟨s4', s5', ih, q4, q5⟩ := pr_loop s0 s1 s2 s6 s7 s8 row (x * p.2) (m + b) (.val (.int p.1)) (.val (.int p.2)) (.v _) (.v _) (hx.mul g) (fun q hq => h q (List.mem_cons_of_mem _ hq)) (by omega)
    refine ⟨s4', s5', ?_, q4, q5⟩
    have hm : mulOk x p.2 = true := hx.ok g (by omega)
    show forL _ _ (fr p :: frL row) _ = _
    rw [forL_cons]
    simp [fr, p4.fr, p5.fr, hm, ih]
theorem top_comp {b : Nat} {row : List (Int × Int)} (h : RowOk b row) (s0 s1 s2 s6 s7 s8 : Sl) : compL [4, 5] (.tp [.nm 4, .nm 5]) tYs (e2 dMul (fVar 4) (e2 dFdiv (fVar 3) (fVar 5))) (frL row) [s0, s1, s2, .val (.int (prB row)), .no, .no, s6, s7, s8] =
    some (iL (topB row), [s0, s1, s2, .val (.int (prB row)), .no, .no, s6, s7, s8]) := by
  unfold frL
  rw [compL_map fr (fun p => D.int (p.1 * (prB row / p.2))) row fun p hp => ?_, map_iL]
  · rfl
  · have hsm := h.sm
    have hd : divOk p.2 = true := (h.b2 p hp).div (h.pos p hp) (by omega)
    have h2 : Bd 40000 (prB row / p.2) := by
      have := h.pr.1
      have g : (prB row / p.2).natAbs ≤ (prB row).natAbs := Int.natAbs_ediv_le_natAbs _ _
      unfold Bd at *
      omega
    have hk : mulOk p.1 (prB row / p.2) = true := (h.b1 p hp).ok h2 (by omega)
    unfold fr
    exact ⟨_, _, by simp; first | rfl | exact ⟨rfl, rfl⟩, by simp [hd, hk]; first | rfl | exact ⟨rfl, rfl⟩, by simp, by simp⟩
theorem col_len (vs : List (List Int)) (j : Nat) : (col vs j).length = vs.length := List.length_map ..
theorem lm_comp {k n : Nat} {ts : List Int} {vs : List (List Int)} (hv : ∀ v ∈ vs, v.length = n ∧ ∀ y ∈ v, Bd k y) (ht : ∀ x ∈ ts, Bd 50000 x) (hk : k < 100000) (hl : ts.length = vs.length) (j : Nat) (hj : j < n) (s0 s2 s3 s4 s5 : Sl) :
    compL [8] (.nm 8) tYs (e2 dMul (e2 dIx (fVar 6) (fVar 8)) (e2 dIx (e2 dIx (fVar 1) (fVar 8)) (fVar 7))) (nL (List.range ts.length)) [s0, .val (.lst (vs.map fun v => .lst (iL v))), s2, s3, s4, s5, .own (.lst (iL ts)), .val (.int (j : Int)), .no] =
      some (iL ((List.range ts.length).map fun i => ts.getD i 0 * (col vs j).getD i 0), [s0, .val (.lst (vs.map fun v => .lst (iL v))), s2, s3, s4, s5, .own (.lst (iL ts)), .val (.int (j : Int)), .no]) := by
  unfold nL
  rw [compL_map (fun (n : Nat) => D.int (n : Int)) (fun i => D.int (ts.getD i 0 * (col vs j).getD i 0)) (List.range ts.length) fun i hi => ?_, map_iL]
  have hi' := List.mem_range.mp hi
  have hv' : i < vs.length := by omega
  have a1 := iL_at (v := ts) (j := i) hi'
  have a2 : atI (vs.map fun v => D.lst (iL v)) (i : Int) = some (.lst (iL vs[i])) := atI_nat (by rw [List.getElem?_map, List.getElem?_eq_getElem hv']; rfl)
  obtain ⟨g1, g2⟩ := hv vs[i] (List.getElem_mem hv')
  have a3 := iL_at (v := vs[i]) (j := j) (by omega)
  have e : (col vs j).getD i 0 = (vs[i]).getD j 0 := by
    unfold col
    rw [List.getD_eq_getElem?_getD, List.getElem?_map, List.getElem?_eq_getElem hv']; rfl
  have m : mulOk (ts.getD i 0) ((vs[i]).getD j 0) = true := (getD_bd ht hi').ok (getD_bd g2 (by omega)) (by omega)
  rw [e]
  simp only [List.getD_eq_getElem?_getD] at a1 a3 m ⊢
  exact ⟨_, _, by simp; rfl, by simp [a1, a2, a3, m]; first | rfl | exact ⟨rfl, rfl⟩, by simp, by simp⟩
end VL

set_option Elab.async false
set_option linter.all false
set_option maxRecDepth 100000
set_option maxHeartbeats 1000000
/-! Lqd: the law's makes; it says what the checker's does. -/
namespace VL
open PySem PySem.Spec PyProof.Rows L2
noncomputable def lmB : Sm := (sIf (tb (e2 dNe (eN dSum (aCons (eComp [8] (.nm 8) (iRan1 (aCons (eN dLen (aCons (fVar 0) aNil)) aNil)) tYs (e2 dMul (e2 dIx (fVar 6) (fVar 8)) (e2 dIx (e2 dIx (fVar 1) (fVar 8)) (fVar 7)))) aNil)) (e2 dMul (fVar 3) (e2 dIx (fVar 2) (fVar 7))))) (sRet (fC (.bl false))) sNx)
theorem lmakes_eq {b k n : Nat} {row : List (Int × Int)} {vs : List (List Int)} {w : List Int} (hr : RowOk b row) (hv : ∀ v ∈ vs, v.length = n ∧ ∀ y ∈ v, Bd k y) (hw : w.length = n) (hwb : ∀ y ∈ w, Bd k y) (hk : k < 100000) (hn : n ≤ 200) (hrow : row.length = vs.length) :
    m__law_makes [.tup (frL row), .lst (vs.map fun v => .lst (iL v)), .lst (iL w)] = some (.val (.bl (makesL row vs w))) := by
  have hln := hr.ln
  have hpr := hr.pr.1
  have htl : (topB row).length = row.length := List.length_map ..
  obtain ⟨s4', s5', h1, p4, p5⟩ := pr_loop (b := b) (.val (.tup (frL row))) (.val (.lst (vs.map fun v => .lst (iL v)))) (.val (.lst (iL w))) .no .no .no row 1 1 .no .no .no .no (by unfold Bd; decide) hr.b2 (by
    have : b * row.length ≤ 3000 * 12 := Nat.mul_le_mul hr.sm hr.ln
    omega)
  have h1' : forL (.tp [.nm 4, .nm 5]) (sSet 3 (e2 dMul (fVar 3) (fVar 5))) (frL row) [.val (.tup (frL row)), .val (.lst (vs.map fun v => .lst (iL v))), .val (.lst (iL w)), .val (.int 1), .no, .no, .no, .no, .no] = some (.nx, [.val (.tup (frL row)), .val (.lst (vs.map fun v => .lst (iL v))), .val (.lst (iL w)), .val (.int (prB row)), s4', s5', .no, .no, .no]) := h1
  have h2 := top_comp hr
  have lr : row.length < sizeLine := sizeLine_l (by omega)
  have okr : okR (row.length : Int) = true := okR_nat (by omega)
  have okn : okR (n : Int) = true := okR_nat (by omega)
  have loop := fun s4 s5 : Sl => forL_check (t := .nm 7) (b0 := .val (.bl false)) (body := lmB)
    (fun env => ∃ s7, env = [.val (.tup (frL row)), .val (.lst (vs.map fun v => .lst (iL v))), .val (.lst (iL w)), .val (.int (prB row)), s4, s5, .own (.lst (iL (topB row))), s7, .no] ∧ Pl s7)
    (fun j => decide (dot (topB row) (col vs j) = prB row * w.getD j 0)) (fun (n : Nat) => D.int (n : Int)) (List.range n) [.val (.tup (frL row)), .val (.lst (vs.map fun v => .lst (iL v))), .val (.lst (iL w)), .val (.int (prB row)), s4, s5, .own (.lst (iL (topB row))), .no, .no]
    ⟨_, rfl, .no⟩ (by
      rintro j hj env ⟨s7, rfl, p7⟩
      have hj' := List.mem_range.mp hj
      have hc := lm_comp hv (topB_bd hr) hk (by omega) j hj' (.val (.tup (frL row))) (.val (.lst (iL w))) (.val (.int (prB row))) s4 s5
      rw [htl] at hc
      have hs := dot_range (topB row) (col vs j) (by rw [col_len, htl]; exact hrow)
      rw [col_len, ← hrow] at hs
      have a := iL_at (v := w) (j := j) (by omega)
      have m : mulOk (prB row) (w.getD j 0) = true := hpr.ok (getD_bd hwb (by omega)) (by omega)
      refine ⟨_, by simp [p7.fr]; rfl, ?_⟩
      unfold lmB
      by_cases hd : dot (topB row) (col vs j) = prB row * w.getD j 0
      · refine .inl ⟨decide_eq_true hd, .nx, [.val (.tup (frL row)), .val (.lst (vs.map fun v => .lst (iL v))), .val (.lst (iL w)), .val (.int (prB row)), s4, s5, .own (.lst (iL (topB row))), .val (.int (j : Int)), .no], ?_, .inl rfl, _, rfl, .v _⟩
        simp only [List.getD_eq_getElem?_getD] at hs a m hd hc
        simp [okr, from0, hc, lr, hs, a, m, hd]
      · refine .inr ⟨decide_eq_false hd, [.val (.tup (frL row)), .val (.lst (vs.map fun v => .lst (iL v))), .val (.lst (iL w)), .val (.int (prB row)), s4, s5, .own (.lst (iL (topB row))), .val (.int (j : Int)), .no], ?_⟩
        simp only [List.getD_eq_getElem?_getD] at hs a m hd hc
        simp [okr, from0, hc, lr, hs, a, m, hd])
  have hfin : (List.range n).map (fun (n : Nat) => D.int (n : Int)) = nL (List.range n) := rfl
  rw [hfin] at loop
  unfold lmB at loop
  unfold m__law_makes b__law_makes
  rw [runV3]
  rcases loop s4' s5' with ⟨hP, e', hL, _⟩ | ⟨hP, e', hL⟩
  · have : makesL row vs w = true := by unfold makesL; rw [hw]; exact hP
    rw [this]
    clear this loop
    rcases p4 with rfl | ⟨d4, rfl⟩ <;> rcases p5 with rfl | ⟨d5, rfl⟩ <;> simp [h1', h2, lr, hw, okn, from0, hL]
  · have : makesL row vs w = false := by unfold makesL; rw [hw]; exact hP
    rw [this]
    clear this loop
    rcases p4 with rfl | ⟨d4, rfl⟩ <;> rcases p5 with rfl | ⟨d5, rfl⟩ <;> simp [h1', h2, lr, hw, okn, from0, hL]
/-! ### the two makes say the same -/
theorem lcm1_dvd (b : Int) (p : Int × Int) : b ∣ lcm1 b p ∧ p.2 ∣ lcm1 b p := by
  unfold lcm1
  refine ⟨?_, Int.dvd_mul_left ..⟩
  have h1 : (Int.gcd b p.2 : Int) ∣ b := Int.gcd_dvd_left ..
  have h2 : (Int.gcd b p.2 : Int) ∣ p.2 := Int.gcd_dvd_right ..
  obtain ⟨c, hc⟩ := h2
  by_cases hz : (Int.gcd b p.2 : Int) = 0
  · have := Int.gcd_eq_zero_iff.mp (by omega : Int.gcd b p.2 = 0)
    rw [this.1, this.2]
    simp
  · refine ⟨c, ?_⟩
    generalize (Int.gcd b p.2 : Int) = g at *
    obtain ⟨e, he⟩ := h1
    rw [he, Int.mul_ediv_cancel_left _ hz, hc, Int.mul_comm g e, Int.mul_assoc]
theorem fold_dvd : ∀ (row : List (Int × Int)) (x : Int), x ∣ row.foldl lcm1 x ∧ ∀ p ∈ row, p.2 ∣ row.foldl lcm1 x
  | [], x => ⟨Int.dvd_refl x, fun p hp => by cases hp⟩
  | p :: row, x => by
    obtain ⟨h1, h2⟩ := fold_dvd row (lcm1 x p)
    obtain ⟨g1, g2⟩ := lcm1_dvd x p
    refine ⟨Int.dvd_trans g1 h1, fun q hq => ?_⟩
    rcases List.mem_cons.mp hq with e | hq
    · subst e; exact Int.dvd_trans g2 h1
    · exact h2 q hq
theorem prod_dvd : ∀ (row : List (Int × Int)) (x : Int), x ∣ row.foldl (fun b p => b * p.2) x ∧ ∀ p ∈ row, p.2 ∣ row.foldl (fun b p => b * p.2) x
  | [], x => ⟨Int.dvd_refl x, fun p hp => by cases hp⟩
  | p :: row, x => by
    obtain ⟨h1, h2⟩ := prod_dvd row (x * p.2)
    refine ⟨Int.dvd_trans (Int.dvd_mul_right ..) h1, fun q hq => ?_⟩
    rcases List.mem_cons.mp hq with e | hq
    · subst e; exact Int.dvd_trans (Int.dvd_mul_left ..) h1
    · exact h2 q hq
theorem dot_scale (c : Int) : ∀ (xs ys : List Int), dot (xs.map (c * ·)) ys = c * dot xs ys
  | [], _ => by simp [dot]
  | _ :: _, [] => by simp [dot]
  | x :: xs, y :: ys => by
    have ih := dot_scale c xs ys
    unfold dot at *
    simp only [List.map_cons, List.zipWith_cons_cons, List.sum_cons] at *
    rw [ih, Int.mul_add, Int.mul_assoc]
theorem cross {b : Nat} {row : List (Int × Int)} (h : RowOk b row) (c : List Int) : lcmL row * dot (topB row) c = prB row * dot (tops row) c := by
  rw [← dot_scale, ← dot_scale]
  congr 1
  unfold topB tops
  rw [List.map_map, List.map_map]
  refine List.map_congr_left fun p hp => ?_
  show lcmL row * (p.1 * (prB row / p.2)) = prB row * (p.1 * (lcmL row / p.2))
  obtain ⟨x, hx⟩ := (prod_dvd row 1).2 p hp
  obtain ⟨y, hy⟩ := (fold_dvd row 1).2 p hp
  have hx' : prB row = p.2 * x := hx
  have hy' : lcmL row = p.2 * y := hy
  have hz : p.2 ≠ 0 := by have := h.pos p hp; omega
  rw [hx', hy', Int.mul_ediv_cancel_left _ hz, Int.mul_ediv_cancel_left _ hz]
  rw [Int.mul_assoc, Int.mul_assoc, Int.mul_left_comm y p.1 x, Int.mul_left_comm x p.1 y, Int.mul_comm y x]
theorem same_turn {b : Nat} {row : List (Int × Int)} (h : RowOk b row) (c : List Int) (a : Int) : dot (topB row) c = prB row * a ↔ dot (tops row) c = a * lcmL row := by
  have hc := cross h c
  have hp : prB row ≠ 0 := by have := h.pr.2; omega
  have hl : lcmL row ≠ 0 := by have := h.lcm.2; omega
  constructor
  · intro e
    rw [e] at hc
    have : prB row * (a * lcmL row) = prB row * dot (tops row) c := by rw [← hc, ← Int.mul_assoc, Int.mul_comm (lcmL row)]
    exact (Int.eq_of_mul_eq_mul_left hp this).symm
  · intro e
    rw [e] at hc
    have : lcmL row * dot (topB row) c = lcmL row * (prB row * a) := by rw [hc, ← Int.mul_assoc, Int.mul_comm (prB row * a)]
    exact Int.eq_of_mul_eq_mul_left hl this
theorem makes_same {b : Nat} {row : List (Int × Int)} (h : RowOk b row) (vs : List (List Int)) (w : List Int) : makesL row vs w = makesB row vs w := by
  unfold makesL makesB
  congr 1
  funext j
  exact decide_eq_decide.mpr (same_turn h (col vs j) (w.getD j 0))
end VL

set_option Elab.async false
set_option linter.all false
set_option maxRecDepth 100000
set_option maxHeartbeats 1000000
/-! Lqe: joint values and the checker's tables say the same; blocks with a test. -/
namespace VL
open PySem PySem.Spec PyProof.Rows L2
/-- a block with a test, every turn leaves all as it was -/
theorem compL_filter {vs : List Nat} {t : Tg} {ft : Tv} {fe : Ev} {env : Env'} {α : Type} (en : α → D) (g : α → D) (P : α → Bool) : ∀ (xs : List α),
    (∀ x ∈ xs, ∃ e1 e2, asg t (en x) env = some e1 ∧ ft e1 = some (P x, e2) ∧ (P x = true → ∃ e3, fz fe e2 = some (.val (g x), e3) ∧ clean vs e3 = true ∧ wipeE e3 vs = env) ∧ (P x = false → clean vs e2 = true ∧ wipeE e2 vs = env)) →
    compL vs t ft fe (xs.map en) env = some ((xs.filter P).map g, env)
  | [], _ => rfl
  | x :: xs, h => by
    obtain ⟨e1, e2, h1, h2, h3, h4⟩ := h x List.mem_cons_self
    have ih := compL_filter en g P xs fun y hy => h y (List.mem_cons_of_mem _ hy)
    rw [List.map_cons, compL_cons, h1]
    cases hp : P x with
    | true =>
      obtain ⟨e3, g1, g2, g3⟩ := h3 hp
      rw [hp] at h2
      rw [List.filter_cons_of_pos hp]
      simp only [h2, g1, g2, g3, ih]
      rfl
    | false =>
      obtain ⟨g2, g3⟩ := h4 hp
      rw [hp] at h2
      rw [List.filter_cons_of_neg (by simp [hp])]
      simp only [h2, g2, g3, ih]
theorem lns_step {r : Ru} {n : Nat} (h : r.Ok n) (x d : Nat) (hd : d < 2) : lns r (2 * x + d) = img (r.side d) (lns r x) := by
  by_cases hz : 0 < 2 * x + d
  · unfold lns
    rw [bits_pos hz, show (2 * x + d) % 2 = d by omega, show (2 * x + d) / 2 = x by omega]
    rfl
  · have h1 : x = 0 := by omega
    have h2 : d = 0 := by omega
    subst h1 h2
    have e : lns r 0 = r.st := by unfold lns; rw [bits_zero]; rfl
    show lns r 0 = img (r.side 0) (lns r 0)
    rw [e, img_fit h]
theorem getD_app_l {a b : List Int} {j : Nat} (h : j < a.length) : (a ++ b).getD j 0 = a.getD j 0 := by
  rw [List.getD_eq_getElem?_getD, List.getD_eq_getElem?_getD, List.getElem?_append_left h]
theorem getD_app_r {a b : List Int} {j : Nat} : (a ++ b).getD (a.length + j) 0 = b.getD j 0 := by
  rw [List.getD_eq_getElem?_getD, List.getD_eq_getElem?_getD, List.getElem?_append_right (Nat.le_add_right _ _), Nat.add_sub_cancel_left]
theorem col_app_l {ks : List Nat} {f g : Nat → List Int} {n j : Nat} (h : ∀ k ∈ ks, (f k).length = n) (hj : j < n) : col (ks.map fun k => f k ++ g k) j = col (ks.map f) j := by
  unfold col
  rw [List.map_map, List.map_map]
  refine List.map_congr_left fun k hk => ?_
  show (f k ++ g k).getD j 0 = (f k).getD j 0
  exact getD_app_l (by rw [h k hk]; exact hj)
theorem col_app_r {ks : List Nat} {f g : Nat → List Int} {n j : Nat} (h : ∀ k ∈ ks, (f k).length = n) : col (ks.map fun k => f k ++ g k) (n + j) = col (ks.map g) j := by
  unfold col
  rw [List.map_map, List.map_map]
  refine List.map_congr_left fun k hk => ?_
  show (f k ++ g k).getD (n + j) 0 = (g k).getD j 0
  rw [← h k hk]
  exact getD_app_r
theorem makesL_app {row : List (Int × Int)} {ks : List Nat} {f g : Nat → List Int} {a b : List Int} (h : ∀ k ∈ ks, (f k).length = a.length) : makesL row (ks.map fun k => f k ++ g k) (a ++ b) = (makesL row (ks.map f) a && makesL row (ks.map g) b) := by
  unfold makesL
  rw [List.length_append, List.range_add, List.all_append, List.all_map]
  congr 1
  · rw [Bool.eq_iff_iff, List.all_eq_true, List.all_eq_true]
    refine ⟨fun H j hj => ?_, fun H j hj => ?_⟩
    · have hj' := List.mem_range.mp hj
      have := H j hj
      rw [col_app_l h hj', getD_app_l hj'] at this
      exact this
    · have hj' := List.mem_range.mp hj
      have := H j hj
      rw [col_app_l h hj', getD_app_l hj']
      exact this
  · rw [Bool.eq_iff_iff, List.all_eq_true, List.all_eq_true]
    refine ⟨fun H j hj => ?_, fun H j hj => ?_⟩
    · have := H j hj
      show decide (dot (topB row) (col (ks.map g) j) = prB row * b.getD j 0) = true
      have e : decide (dot (topB row) (col (ks.map fun k => f k ++ g k) (a.length + j)) = prB row * (a ++ b).getD (a.length + j) 0) = true := this
      rw [col_app_r h, getD_app_r] at e
      exact e
    · have := H j hj
      show decide (dot (topB row) (col (ks.map fun k => f k ++ g k) (a.length + j)) = prB row * (a ++ b).getD (a.length + j) 0) = true
      rw [col_app_r h, getD_app_r]
      exact this
/-- the law's test of a row is the checker's -/
theorem row_same {b n0 n1 x d : Nat} {r0 r1 : Ru} {ns : List Nat} {row : List (Int × Int)} (h0 : r0.Ok n0) (h1 : r1.Ok n1) (hr : RowOk b row) (hd : d < 2) (L : Nat) (hL : L = 2 * x + d) :
    (makesL row (ns.map (jnt r0 r1)) (jnt r0 r1 L) && !zipB ns row L) = rowB [r0, r1] ns row L x d := by
  subst hL
  unfold rowB
  have e : makesL row (ns.map (jnt r0 r1)) (jnt r0 r1 (2 * x + d)) = (makesL row (ns.map (lns r0)) (lns r0 (2 * x + d)) && makesL row (ns.map (lns r1)) (lns r1 (2 * x + d))) :=
    makesL_app fun k _ => by rw [lns_len h0, lns_len h0]
  rw [e, makes_same hr, makes_same hr, lns_step h0 x d hd, lns_step h1 x d hd, Bool.and_comm]
  simp
end VL

set_option Elab.async false
set_option linter.all false
set_option maxRecDepth 100000
set_option maxHeartbeats 1000000
/-! Lqf: the turns of the law's is_span. -/
namespace VL
open PySem PySem.Spec PyProof.Rows L2
theorem ne_nL (js : List Nat) : dNe (.lst (nL js)) (.lst []) = some (vB (!decide (js = []))) := by
  have e : nL js = iL (js.map fun (n : Nat) => (n : Int)) := by unfold nL iL; rw [List.map_map]; rfl
  have h := ne_ints (js.map fun (n : Nat) => (n : Int)) []
  rw [e]
  rw [show iL [] = [] from rfl] at h
  rw [h]
  congr 2
  cases js with
  | nil => rfl
  | cons j js => simp
def zP (ns : List Nat) (row : List (Int × Int)) (L j : Nat) : Bool := decide (L < ns.getD j 0) && !decide ((row.getD j (0, 1)).1 = 0)
theorem zip_range {ns : List Nat} {row : List (Int × Int)} (h : row.length = ns.length) (L : Nat) : (!decide ((List.range row.length).filter (zP ns row L) = [])) = zipB ns row L := by
  unfold zipB
  rw [Bool.eq_iff_iff, List.any_eq_true]
  simp only [Bool.not_eq_true', decide_eq_false_iff_not, List.filter_eq_nil_iff, List.mem_range]
  constructor
  · intro H
    have : ∃ j, j < row.length ∧ zP ns row L j = true := by
      by_cases q : ∃ j, j < row.length ∧ zP ns row L j = true
      · exact q
      · exact absurd (fun a ha hz => q ⟨a, ha, hz⟩) H
    obtain ⟨j, hj, hz⟩ := this
    have hj2 : j < (List.zip ns row).length := by rw [List.length_zip]; omega
    refine ⟨(List.zip ns row)[j], List.getElem_mem hj2, ?_⟩
    rw [List.getElem_zip]
    unfold zP at hz
    rw [List.getD_eq_getElem?_getD, List.getD_eq_getElem?_getD, List.getElem?_eq_getElem (show j < ns.length by omega), List.getElem?_eq_getElem hj] at hz
    exact hz
  · rintro ⟨p, hp, hz⟩ H
    obtain ⟨j, hj, e⟩ := List.mem_iff_getElem.mp hp
    rw [List.length_zip] at hj
    rw [List.getElem_zip] at e
    refine H j (by omega) ?_
    unfold zP
    rw [List.getD_eq_getElem?_getD, List.getD_eq_getElem?_getD, List.getElem?_eq_getElem (show j < ns.length by omega), List.getElem?_eq_getElem (show j < row.length by omega)]
    subst e
    exact hz
theorem z_comp {ns : List Nat} {row : List (Int × Int)} (h : row.length = ns.length) (L : Nat) (s0 s1 s2 s4 s5 s6 s7 s8 : Sl) :
    compL [11] (.nm 11) (tA (tb (e2 dGt (e2 dIx (fVar 3) (fVar 11)) (fVar 9))) (tb (e2 dNe (e2 dIx (e2 dIx (fVar 10) (fVar 11)) (fC (.int 0))) (fC (.int 0))))) (fVar 11) (nL (List.range row.length)) [s0, s1, s2, .val (.tup (nL ns)), s4, s5, s6, s7, s8, .val (.int (L : Int)), .val (.tup (frL row)), .no] =
      some (nL ((List.range row.length).filter (zP ns row L)), [s0, s1, s2, .val (.tup (nL ns)), s4, s5, s6, s7, s8, .val (.int (L : Int)), .val (.tup (frL row)), .no]) := by
  unfold nL
  rw [compL_filter (fun (n : Nat) => D.int (n : Int)) (fun (n : Nat) => D.int (n : Int)) (zP ns row L) (List.range row.length) fun j hj => ?_]
  have hj' := List.mem_range.mp hj
  have hj2 : j < ns.length := by omega
  have a1 := nL_at (List.getElem?_eq_getElem hj2)
  have a2 : atI (frL row) (j : Int) = some (fr row[j]) := atI_nat (by rw [frL_get, List.getElem?_eq_getElem hj']; rfl)
  have z0 : ∀ a b : D, atI [a, b] 0 = some a := fun _ _ => rfl
  have e1 : ns.getD j 0 = ns[j] := by rw [List.getD_eq_getElem?_getD, List.getElem?_eq_getElem hj2]; rfl
  have e2 : row.getD j (0, 1) = row[j] := by rw [List.getD_eq_getElem?_getD, List.getElem?_eq_getElem hj']; rfl
  unfold zP
  rw [e1, e2]
  unfold nL at a1
  unfold fr at a2
  by_cases q1 : L < ns[j]
  · by_cases q2 : (row[j]).1 = 0
    · exact ⟨[s0, s1, s2, .val (.tup (ns.map fun (n : Nat) => D.int (n : Int))), s4, s5, s6, s7, s8, .val (.int (L : Int)), .val (.tup (frL row)), .val (.int (j : Int))], [s0, s1, s2, .val (.tup (ns.map fun (n : Nat) => D.int (n : Int))), s4, s5, s6, s7, s8, .val (.int (L : Int)), .val (.tup (frL row)), .val (.int (j : Int))], by simp, by simp [a1, a2, z0, q1, q2], by simp [q1, q2], by simp [q1, q2]⟩
    · exact ⟨[s0, s1, s2, .val (.tup (ns.map fun (n : Nat) => D.int (n : Int))), s4, s5, s6, s7, s8, .val (.int (L : Int)), .val (.tup (frL row)), .val (.int (j : Int))], [s0, s1, s2, .val (.tup (ns.map fun (n : Nat) => D.int (n : Int))), s4, s5, s6, s7, s8, .val (.int (L : Int)), .val (.tup (frL row)), .val (.int (j : Int))], by simp, by simp [a1, a2, z0, q1, q2], by simp [q1, q2], by simp [q1, q2]⟩
  · exact ⟨[s0, s1, s2, .val (.tup (ns.map fun (n : Nat) => D.int (n : Int))), s4, s5, s6, s7, s8, .val (.int (L : Int)), .val (.tup (frL row)), .val (.int (j : Int))], [s0, s1, s2, .val (.tup (ns.map fun (n : Nat) => D.int (n : Int))), s4, s5, s6, s7, s8, .val (.int (L : Int)), .val (.tup (frL row)), .val (.int (j : Int))], by simp, by simp [a1, q1], by simp [q1], by simp [q1]⟩
end VL

set_option Elab.async false
set_option linter.all false
set_option maxRecDepth 100000
set_option maxHeartbeats 1000000
/-! Lqg: the law's is_span: one line. -/
namespace VL
open PySem PySem.Spec PyProof.Rows L2
noncomputable def isB' : Sm := (sSeq (sPar [9, 10] (sCons (e2 dAdd (e2 dMul (fC (.int 2)) (e2 dIx (fVar 3) (fVar 7))) (fVar 8)) (sCons (e2 dIx (e2 dIx (fVar 4) (fVar 7)) (fVar 8)) sNil)))
  (sIf (tb (e2 dIsN (fVar 10) (fC .non))) (sIf (tO (tb (e2 dIsN (fVar 2) (fC .non))) (tb (e2 dLt (fVar 9) (fVar 2)))) (sRet (fC (.bl false))) sNx) (sIf (tN (tb (eCall m__law_makes (aCons (fz (fVar 10)) (aCons (fz (fVar 5)) (aCons (fz (eCall m__law_joint (aCons (fz (fVar 0)) (aCons (fz (fVar 9)) aNil)))) aNil)))))) (sRet (fC (.bl false))) (sIf (tb (e2 dNe (eComp [11] (.nm 11) (iRan1 (aCons (eN dLen (aCons (fVar 10) aNil)) aNil)) (tA (tb (e2 dGt (e2 dIx (fVar 3) (fVar 11)) (fVar 9))) (tb (e2 dNe (e2 dIx (e2 dIx (fVar 10) (fVar 11)) (fC (.int 0))) (fC (.int 0))))) (fVar 11)) (eLst aNil))) (sRet (fC (.bl false))) sNx))))
def jD (r0 r1 : Ru) (ns : List Nat) : List D := ns.map fun k => .lst (iL (jnt r0 r1 k))
section
variable {b n0 n1 : Nat} {ns : List Nat} {r0 r1 : Ru}
theorem jnt_len (h0 : r0.Ok n0) (h1 : r1.Ok n1) (k : Nat) : (jnt r0 r1 k).length = n0 + n1 := by unfold jnt; rw [List.length_append, lns_len h0, lns_len h1]
theorem jnt_bd (h0 : r0.Ok n0) (h1 : r1.Ok n1) {k m : Nat} (hk : k < 2 ^ m) : ∀ y ∈ jnt r0 r1 k, Bd (50 + 56 * m) y := fun y hy => by
  unfold jnt at hy
  rcases List.mem_append.mp hy with hy | hy
  · exact lns_bd h0 hk y hy
  · exact lns_bd h1 hk y hy
theorem is_turn {a x d : Nat} {row : Row} {pr prs : List D} (h0 : r0.Ok n0) (h1 : r1.Ok n1) (hr : RowsOk b ns row) (hns : ∀ k ∈ ns, k < 2 ^ 10) (hl : ns.length ≤ 12) (hx : ns[a]? = some x) (hd : d < 2) (lim : Option Nat)
    (g1 : atI prs (a : Int) = some (.tup pr)) (g2 : atI pr (d : Int) = some (rowD row)) (bo : Bool) (s1 s6 s9 s10 : Sl) (p9 : Pl s9) (p10 : Pl s10) :
    (lineB [r0, r1] ns lim x row d = true ∧ ∃ bo' s9' s10', isB' [.val (.lst [r0.d, r1.d]), s1, .val (limD lim), .val (.tup (nL ns)), .val (.tup prs), tpD (.lst (jD r0 r1 ns)) bo, s6, .val (.int (a : Int)), .val (.int (d : Int)), s9, s10, .no] =
      some (.nx, [.val (.lst [r0.d, r1.d]), s1, .val (limD lim), .val (.tup (nL ns)), .val (.tup prs), tpD (.lst (jD r0 r1 ns)) bo', s6, .val (.int (a : Int)), .val (.int (d : Int)), s9', s10', .no]) ∧ Pl s9' ∧ Pl s10') ∨
    (lineB [r0, r1] ns lim x row d = false ∧ ∃ e, isB' [.val (.lst [r0.d, r1.d]), s1, .val (limD lim), .val (.tup (nL ns)), .val (.tup prs), tpD (.lst (jD r0 r1 ns)) bo, s6, .val (.int (a : Int)), .val (.int (d : Int)), s9, s10, .no] = some (.rt (.val (.bl false)), e)) := by
  unfold isB' lineB
  have hxn := nL_at hx
  have e : (2 * (x : Int) + (d : Int)) = ((2 * x + d : Nat) : Int) := by omega
  have hx' := hns x (List.mem_of_getElem? hx)
  cases row with
  | none =>
    cases lim with
    | none =>
      refine .inr ⟨rfl, ?_⟩
      unfold limD tpD rowD at *
      cases bo
      · exact ⟨_, by simp [hxn, g1, g2, p9.fr, p10.fr]; rfl⟩
      · exact ⟨_, by simp [hxn, g1, g2, p9.fr, p10.fr]; rfl⟩
    | some l =>
      unfold limD tpD rowD at *
      by_cases hl' : l ≤ 2 * x + d
      · have hl2 : ¬ (2 * (x : Int) + (d : Int) < (l : Int)) := by omega
        refine .inl ⟨decide_eq_true hl', bo, .val (.int (2 * (x : Int) + (d : Int))), .val .non, ?_, .v _, .v _⟩
        cases bo
        · simp [hxn, g1, g2, p9.fr, p10.fr, hl2]
        · simp [hxn, g1, g2, p9.fr, p10.fr, hl2]
      · have hl2 : 2 * (x : Int) + (d : Int) < (l : Int) := by omega
        refine .inr ⟨decide_eq_false hl', ?_⟩
        cases bo
        · exact ⟨_, by simp [hxn, g1, g2, p9.fr, p10.fr, hl2]; rfl⟩
        · exact ⟨_, by simp [hxn, g1, g2, p9.fr, p10.fr, hl2]; rfl⟩
  | some row =>
    obtain ⟨k1, k2⟩ := hr.ok row rfl
    have hL : 2 * x + d < 2 ^ 11 := by omega
    have hj := joint_eq h0 h1 hL (by decide)
    have hm := lmakes_eq (b := b) (k := 50 + 56 * 11) (n := n0 + n1) (row := row) (vs := ns.map (jnt r0 r1)) (w := jnt r0 r1 (2 * x + d)) k1 (fun v hv => by
      obtain ⟨k, hk, e⟩ := List.mem_map.mp hv
      subst e
      exact ⟨jnt_len h0 h1 k, fun y hy => (jnt_bd h0 h1 (hns k hk) y hy).mono (by omega)⟩) (jnt_len h0 h1 _) (jnt_bd h0 h1 hL) (by omega) (by have := h0.n1; have := h1.n1; omega) (by rw [List.length_map]; exact k2)
    rw [List.map_map] at hm
    have hm' : m__law_makes [.tup (frL row), .lst (jD r0 r1 ns), .lst (iL (jnt r0 r1 (2 * x + d)))] = some (.val (.bl (makesL row (ns.map (jnt r0 r1)) (jnt r0 r1 (2 * x + d))))) := hm
    rw [← e] at hj
    have hz := z_comp k2 (2 * x + d)
    rw [← e] at hz
    have hzr := zip_range k2 (2 * x + d)
    have hrs := row_same h0 h1 k1 hd (2 * x + d) rfl (x := x) (ns := ns)
    have lr : row.length < sizeLine := sizeLine_l (by omega)
    have okr : okR (row.length : Int) = true := okR_nat (by omega)
    have hne := ne_nL ((List.range row.length).filter (zP ns row (2 * x + d)))
    rw [hzr] at hne
    have z0' : 0 ≤ sizeLine := Nat.zero_le _
    dsimp only
    rw [← hrs]
    cases hM : makesL row (ns.map (jnt r0 r1)) (jnt r0 r1 (2 * x + d)) with
    | false =>
      rw [hM] at hm'
      refine .inr ⟨rfl, ?_⟩
      unfold tpD rowD at *
      cases bo
      · exact ⟨_, by simp [hxn, g1, g2, p9.fr, p10.fr, hj, hm']; rfl⟩
      · exact ⟨_, by simp [hxn, g1, g2, p9.fr, p10.fr, hj, hm']; rfl⟩
    | true =>
      rw [hM] at hm'
      cases hZ : zipB ns row (2 * x + d) with
      | true =>
        rw [hZ] at hne
        refine .inr ⟨rfl, ?_⟩
        unfold tpD rowD at *
        cases bo
        · exact ⟨_, by simp [hxn, g1, g2, p9.fr, p10.fr, hj, hm', okr, from0, lr, hz, z0', hne]; rfl⟩
        · exact ⟨_, by simp [hxn, g1, g2, p9.fr, p10.fr, hj, hm', okr, from0, lr, hz, z0', hne]; rfl⟩
      | false =>
        rw [hZ] at hne
        refine .inl ⟨rfl, false, .val (.int (2 * (x : Int) + (d : Int))), .val (.tup (frL row)), ?_, .v _, .v _⟩
        unfold tpD rowD at *
        cases bo
        · simp [hxn, g1, g2, p9.fr, p10.fr, hj, hm', okr, from0, lr, hz, z0', hne]
        · simp [hxn, g1, g2, p9.fr, p10.fr, hj, hm', okr, from0, lr, hz, z0', hne]
end
end VL

set_option Elab.async false
set_option linter.all false
set_option maxRecDepth 100000
set_option maxHeartbeats 1000000
/-! Lqh: the law's is_span, whole. -/
namespace VL
open PySem PySem.Spec PyProof.Rows L2
noncomputable def isF : Sm := sFor (.nm 8) (iRan1 (aCons (fC (.int 2)) aNil)) isB'
section
variable {b n0 n1 : Nat} {ns : List Nat} {pss : List (Row × Row)} {r0 r1 : Ru}
theorem is_inner {a x : Nat} (h0 : r0.Ok n0) (h1 : r1.Ok n1) (h : PapOk b ns pss) (hx : ns[a]? = some x) (lim : Option Nat) (bo : Bool) (s1 s6 s8 s9 s10 : Sl) (p8 : Pl s8) (p9 : Pl s9) (p10 : Pl s10) :
    (linesB [r0, r1] ns pss lim (x, a) = true ∧ ∃ bo' s8' s9' s10', forL (.nm 8) isB' (nL (List.range 2)) [.val (.lst [r0.d, r1.d]), s1, .val (limD lim), .val (.tup (nL ns)), .val (.tup (pss.map prD)), tpD (.lst (jD r0 r1 ns)) bo, s6, .val (.int (a : Int)), s8, s9, s10, .no] =
      some (.nx, [.val (.lst [r0.d, r1.d]), s1, .val (limD lim), .val (.tup (nL ns)), .val (.tup (pss.map prD)), tpD (.lst (jD r0 r1 ns)) bo', s6, .val (.int (a : Int)), s8', s9', s10', .no]) ∧ Pl s8' ∧ Pl s9' ∧ Pl s10') ∨
    (linesB [r0, r1] ns pss lim (x, a) = false ∧ ∃ e, forL (.nm 8) isB' (nL (List.range 2)) [.val (.lst [r0.d, r1.d]), s1, .val (limD lim), .val (.tup (nL ns)), .val (.tup (pss.map prD)), tpD (.lst (jD r0 r1 ns)) bo, s6, .val (.int (a : Int)), s8, s9, s10, .no] = some (.rt (.val (.bl false)), e)) := by
  have hal : a < pss.length := by rw [h.pl]; exact (List.getElem?_eq_some_iff.mp hx).1
  have hp : pss[a]? = some pss[a] := List.getElem?_eq_getElem hal
  have hg : pss.getD a (none, none) = pss[a] := by rw [List.getD_eq_getElem?_getD, hp]; rfl
  have hm : pss[a] ∈ pss := List.getElem_mem hal
  have g1 : atI (pss.map prD) (a : Int) = some (prD pss[a]) := atI_nat (by rw [List.getElem?_map, hp]; rfl)
  have lp := forL_check (t := .nm 8) (body := isB') (b0 := .val (.bl false))
    (fun env => ∃ bo' s8' s9' s10', env = [.val (.lst [r0.d, r1.d]), s1, .val (limD lim), .val (.tup (nL ns)), .val (.tup (pss.map prD)), tpD (.lst (jD r0 r1 ns)) bo', s6, .val (.int (a : Int)), s8', s9', s10', .no] ∧ Pl s8' ∧ Pl s9' ∧ Pl s10')
    (fun d => lineB [r0, r1] ns lim x (prow pss a d) d) (fun (n : Nat) => D.int (n : Int)) (List.range 2) [.val (.lst [r0.d, r1.d]), s1, .val (limD lim), .val (.tup (nL ns)), .val (.tup (pss.map prD)), tpD (.lst (jD r0 r1 ns)) bo, s6, .val (.int (a : Int)), s8, s9, s10, .no]
    ⟨bo, s8, s9, s10, rfl, p8, p9, p10⟩ (by
      rintro d hd env ⟨bo', s8', s9', s10', rfl, q8, q9, q10⟩
      have hd' := List.mem_range.mp hd
      have hrow : RowsOk b ns (prow pss a d) := by
        unfold prow
        rw [hg]
        by_cases e : d = 0
        · rw [if_pos e]; exact h.r1 _ hm
        · rw [if_neg e]; exact h.r2 _ hm
      have g2 : atI [rowD (pss[a]).1, rowD (pss[a]).2] (d : Int) = some (rowD (prow pss a d)) := by
        unfold prow
        rw [hg]
        refine atI_nat ?_
        match d, hd' with
        | 0, _ => rfl
        | 1, _ => rfl
      refine ⟨[.val (.lst [r0.d, r1.d]), s1, .val (limD lim), .val (.tup (nL ns)), .val (.tup (pss.map prD)), tpD (.lst (jD r0 r1 ns)) bo', s6, .val (.int (a : Int)), .val (.int (d : Int)), s9', s10', .no], by simp [q8.fr], ?_⟩
      rcases is_turn (pr := [rowD (pss[a]).1, rowD (pss[a]).2]) h0 h1 hrow h.lt h.ln hx hd' lim g1 g2 bo' s1 s6 s9' s10' q9 q10 with ⟨k1, bo2, t9, t10, k2, k3, k4⟩ | ⟨k1, e, k2⟩
      · exact .inl ⟨k1, .nx, _, k2, .inl rfl, bo2, _, _, _, rfl, .v _, k3, k4⟩
      · exact .inr ⟨k1, e, k2⟩)
  have hfin : (List.range 2).map (fun (n : Nat) => D.int (n : Int)) = nL (List.range 2) := rfl
  rw [hfin] at lp
  rcases lp with ⟨k1, e', k2, bo', s8', s9', s10', rfl, q⟩ | ⟨k1, e', k2⟩
  · exact .inl ⟨k1, bo', s8', s9', s10', k2, q⟩
  · exact .inr ⟨k1, e', k2⟩
theorem is_outer (h0 : r0.Ok n0) (h1 : r1.Ok n1) (h : PapOk b ns pss) (lim : Option Nat) (s1 : Sl) :
    (ns.zipIdx.all (linesB [r0, r1] ns pss lim) = true ∧ ∃ e, forL (.nm 7) isF (nL (List.range ns.length)) [.val (.lst [r0.d, r1.d]), s1, .val (limD lim), .val (.tup (nL ns)), .val (.tup (pss.map prD)), .own (.lst (jD r0 r1 ns)), .no, .no, .no, .no, .no, .no] =
      some (.nx, e) ∧ ∃ bo s7 s8 s9 s10, e = [.val (.lst [r0.d, r1.d]), s1, .val (limD lim), .val (.tup (nL ns)), .val (.tup (pss.map prD)), tpD (.lst (jD r0 r1 ns)) bo, .no, s7, s8, s9, s10, .no]) ∨
    (ns.zipIdx.all (linesB [r0, r1] ns pss lim) = false ∧ ∃ e, forL (.nm 7) isF (nL (List.range ns.length)) [.val (.lst [r0.d, r1.d]), s1, .val (limD lim), .val (.tup (nL ns)), .val (.tup (pss.map prD)), .own (.lst (jD r0 r1 ns)), .no, .no, .no, .no, .no, .no] = some (.rt (.val (.bl false)), e)) := by
  have lp := forL_check (t := .nm 7) (body := isF) (b0 := .val (.bl false))
    (fun env => ∃ bo s7 s8 s9 s10, env = [.val (.lst [r0.d, r1.d]), s1, .val (limD lim), .val (.tup (nL ns)), .val (.tup (pss.map prD)), tpD (.lst (jD r0 r1 ns)) bo, .no, s7, s8, s9, s10, .no] ∧ Pl s7 ∧ Pl s8 ∧ Pl s9 ∧ Pl s10)
    (linesB [r0, r1] ns pss lim) (fun p : Nat × Nat => D.int (p.2 : Int)) ns.zipIdx [.val (.lst [r0.d, r1.d]), s1, .val (limD lim), .val (.tup (nL ns)), .val (.tup (pss.map prD)), .own (.lst (jD r0 r1 ns)), .no, .no, .no, .no, .no, .no]
    ⟨true, _, _, _, _, rfl, .no, .no, .no, .no⟩ (by
      rintro ⟨x, a⟩ hxa env ⟨bo, s7, s8, s9, s10, rfl, q7, q8, q9, q10⟩
      have hx : ns[a]? = some x := List.mem_zipIdx_iff_getElem?.mp hxa
      have hin := is_inner h0 h1 h hx lim bo s1 .no s8 s9 s10 q8 q9 q10
      have r2 : fromN 0 1 2 = nL (List.range 2) := rfl
      refine ⟨[.val (.lst [r0.d, r1.d]), s1, .val (limD lim), .val (.tup (nL ns)), .val (.tup (pss.map prD)), tpD (.lst (jD r0 r1 ns)) bo, .no, .val (.int (a : Int)), s8, s9, s10, .no], by simp [q7.fr], ?_⟩
      unfold isF
      rcases hin with ⟨k1, bo', t8, t9, t10, k2, k3, k4, k5⟩ | ⟨k1, e, k2⟩
      · exact .inl ⟨k1, .nx, [.val (.lst [r0.d, r1.d]), s1, .val (limD lim), .val (.tup (nL ns)), .val (.tup (pss.map prD)), tpD (.lst (jD r0 r1 ns)) bo', .no, .val (.int (a : Int)), t8, t9, t10, .no], by simp [r2, k2], .inl rfl, bo', _, _, _, _, rfl, .v _, k3, k4, k5⟩
      · exact .inr ⟨k1, e, by simp [r2, k2]⟩)
  have e1 : ns.zipIdx.map (fun p : Nat × Nat => D.int (p.2 : Int)) = nL (List.range ns.length) := by
    have : ns.zipIdx.map (fun p : Nat × Nat => D.int (p.2 : Int)) = (ns.zipIdx.map Prod.snd).map (fun (n : Nat) => D.int (n : Int)) := by rw [List.map_map]; rfl
    rw [this, List.zipIdx_map_snd, List.range_eq_range']
    rfl
  rw [e1] at lp
  rcases lp with ⟨k1, e', k2, bo, s7, s8, s9, s10, rfl, q⟩ | ⟨k1, e', k2⟩
  · exact .inl ⟨k1, _, k2, bo, s7, s8, s9, s10, rfl⟩
  · exact .inr ⟨k1, e', k2⟩
end
end VL

set_option Elab.async false
set_option linter.all false
set_option maxRecDepth 100000
set_option maxHeartbeats 1000000
/-! Lqi: the law's is_span is the checker's. -/
namespace VL
open PySem PySem.Spec PyProof.Rows L2
theorem zeros (n : Nat) : (List.replicate n [D.int 0]).flatten = iL (List.replicate n 0) := by
  unfold iL
  induction n with
  | zero => rfl
  | succ n ih => rw [List.replicate_succ, List.flatten_cons, ih]; rfl
theorem all_zero (xs : List Int) : decide (xs = List.replicate xs.length 0) = xs.all fun x => decide (x = 0) := by
  rw [Bool.eq_iff_iff, decide_eq_true_iff, List.all_eq_true]
  rw [List.eq_replicate_iff]
  simp
section
variable {b n0 n1 : Nat} {ns : List Nat} {pss : List (Row × Row)} {r0 r1 : Ru}
theorem is_points (h0 : r0.Ok n0) (h1 : r1.Ok n1) (hns : ∀ k ∈ ns, k < 2 ^ 10) (s1 s2 s3 s4 s5 s7 s8 s9 s10 s11 : Sl) : compL [6] (.nm 6) tYs (eCall m__law_joint (aCons (fz (fVar 0)) (aCons (fz (fVar 6)) aNil))) (nL ns) [.val (.lst [r0.d, r1.d]), s1, s2, s3, s4, s5, .no, s7, s8, s9, s10, s11] =
    some (jD r0 r1 ns, [.val (.lst [r0.d, r1.d]), s1, s2, s3, s4, s5, .no, s7, s8, s9, s10, s11]) := by
  unfold nL jD
  rw [compL_map (fun (n : Nat) => D.int (n : Int)) (fun k => D.lst (iL (jnt r0 r1 k))) ns fun k hk => ?_]
  have hj := joint_eq h0 h1 (hns k hk) (by decide)
  exact ⟨_, _, by simp; rfl, by simp [hj]; first | rfl | exact ⟨rfl, rfl⟩, by simp, by simp⟩
theorem is_span_eq (h0 : r0.Ok n0) (h1 : r1.Ok n1) (h : PapOk b ns pss) (lim : Option Nat) : m__law_is_span [.lst [r0.d, r1.d], papD ns pss, limD lim] = some (.val (.bl (spanB [r0, r1] ns pss lim))) := by
  unfold m__law_is_span b__law_is_span spanB
  rw [runV3]
  have ln := h.ln
  have hp := is_points h0 h1 h.lt
  have lp : ns.length < sizeLine := sizeLine_l (by omega)
  have okn : okR (ns.length : Int) = true := okR_nat (by omega)
  have ho := is_outer h0 h1 h lim (.val (papD ns pss))
  have hj : m__law_joint [.lst [r0.d, r1.d], .int 0] = some (.new (.lst (iL (jnt r0 r1 0)))) := joint_eq h0 h1 (k := 0) (m := 1) (by decide) (by decide)
  have jl := jnt_len h0 h1 0
  have h0' := dIn_nL 0 ns
  have e0 : ((0 : Nat) : Int) = 0 := rfl
  rw [e0] at h0'
  have m0 := h0.n1
  have m1 := h1.n1
  have hA : decide (jnt r0 r1 0 = List.replicate (n0 + n1) 0) = [r0, r1].all fun r => r.st.all fun x => decide (x = 0) := by
    rw [← jl, all_zero]
    have e : ∀ r : Ru, lns r 0 = r.st := fun r => by unfold lns; rw [bits_zero]; rfl
    unfold jnt
    rw [e, e, List.all_append]
    simp
  have hmul : dMul (.lst [.int 0]) (.int ((n0 : Int) + (n1 : Int))) = some (.new (.lst (iL (List.replicate (n0 + n1) 0)))) := by
    have z := sizeLine_n (n := n0 + n1) (by omega)
    have t0 : ((n0 : Int) + (n1 : Int)).toNat = n0 + n1 := by omega
    rw [dMul_lst, if_pos ⟨by omega, by omega, by rw [t0, List.length_singleton, Nat.one_mul]; exact z⟩]
    have : ((n0 : Int) + (n1 : Int)).toNat = n0 + n1 := by omega
    rw [this, zeros]
  have heq := eq_ints (jnt r0 r1 0) (List.replicate (n0 + n1) 0)
  rw [hA] at heq
  have s1' : 1 ≤ sizeLine := by decide
  unfold isF isB' at ho
  unfold papD at *
  rcases ho with ⟨k1, e, k2, bo, s7, s8, s9, s10, rfl⟩ | ⟨k1, e, k2⟩
  · rw [k1, Bool.true_and]
    unfold beginB
    by_cases hz : 0 ∈ ns
    · simp [hp, lp, okn, from0, k2, h0', hz]
    · cases lim with
      | none =>
        unfold limD at *
        simp [-List.all_cons, hp, lp, okn, from0, k2, h0', hz, hj, jl, s1', hmul, heq]
      | some l =>
        unfold limD at *
        by_cases hl : l = 0
        · have hl' : (l = 0) = True := eq_true hl
          simp [hp, lp, okn, from0, k2, h0', hz, hl']
        · have hl2 : ¬ ((l : Int) = 0) := by omega
          simp [-List.all_cons, hp, lp, okn, from0, k2, h0', hz, hj, jl, s1', hmul, heq, hl, hl2]
  · rw [k1, Bool.false_and]
    simp [hp, lp, okn, from0, k2]
end
end VL

set_option Elab.async false
set_option linter.all false
set_option maxRecDepth 100000
set_option maxHeartbeats 1000000
/-! Lsa: sums of vectors. -/
namespace VL
open PySem PySem.Spec PyProof.Rows L2
def comb (n : Nat) : List Int → List (List Int) → List Int
  | t :: ts, v :: vs => List.zipWith (· + ·) (v.map (t * ·)) (comb n ts vs)
  | _, _ => List.replicate n 0
theorem comb_len {n : Nat} : ∀ (ts : List Int) (vs : List (List Int)), (∀ v ∈ vs, v.length = n) → (comb n ts vs).length = n
  | [], _, _ => by simp [comb]
  | _ :: _, [], _ => by simp [comb]
  | t :: ts, v :: vs, h => by
    have := comb_len ts vs fun x hx => h x (List.mem_cons_of_mem _ hx)
    simp [comb, this, h v List.mem_cons_self]
theorem dot_comm : ∀ (xs ys : List Int), dot xs ys = dot ys xs
  | [], [] => rfl
  | [], _ :: _ => rfl
  | _ :: _, [] => rfl
  | x :: xs, y :: ys => by
    have ih := dot_comm xs ys
    unfold dot at *
    simp only [List.zipWith_cons_cons, List.sum_cons]
    rw [ih, Int.mul_comm]
theorem dot_add : ∀ (u a b : List Int), a.length = b.length → dot u (List.zipWith (· + ·) a b) = dot u a + dot u b
  | [], _, _, _ => by simp [dot]
  | _ :: _, [], [], _ => by simp [dot]
  | _ :: _, [], _ :: _, h => by cases h
  | _ :: _, _ :: _, [], h => by cases h
  | x :: u, y :: a, z :: b, h => by
    have ih := dot_add u a b (Nat.succ.inj h)
    unfold dot at *
    simp only [List.zipWith_cons_cons, List.sum_cons]
    rw [ih, Int.mul_add]
    omega
theorem dot_zero (u : List Int) (n : Nat) : dot u (List.replicate n 0) = 0 := by
  unfold dot
  induction n generalizing u with
  | zero => simp
  | succ n ih =>
    cases u with
    | nil => rfl
    | cons x u => simp [List.replicate_succ, ih u]
theorem dot_scale' (c : Int) (u v : List Int) : dot u (v.map (c * ·)) = c * dot u v := by rw [dot_comm, dot_scale, dot_comm]
theorem dot_comb {n : Nat} (u : List Int) : ∀ (ts : List Int) (vs : List (List Int)), (∀ v ∈ vs, v.length = n) → dot u (comb n ts vs) = dot ts (vs.map (dot u))
  | [], vs, _ => by
    show dot u (List.replicate n 0) = 0
    exact dot_zero u n
  | _ :: _, [], _ => by
    show dot u (List.replicate n 0) = 0
    exact dot_zero u n
  | t :: ts, v :: vs, h => by
    have hx : ∀ x ∈ vs, x.length = n := fun x hx => h x (List.mem_cons_of_mem _ hx)
    have ih := dot_comb u ts vs hx
    have e : comb n (t :: ts) (v :: vs) = List.zipWith (· + ·) (v.map (t * ·)) (comb n ts vs) := rfl
    rw [e, dot_add _ _ _ (by rw [List.length_map, comb_len ts vs hx]; exact h v List.mem_cons_self), dot_scale', ih]
    simp [dot]
theorem comb_at {n j : Nat} (hj : j < n) : ∀ (ts : List Int) (vs : List (List Int)), (∀ v ∈ vs, v.length = n) → (comb n ts vs).getD j 0 = dot ts (col vs j)
  | [], vs, _ => by simp [comb, dot, hj, List.getElem?_replicate]
  | _ :: _, [], _ => by simp [comb, dot, col, hj, List.getElem?_replicate]
  | t :: ts, v :: vs, h => by
    have hx : ∀ x ∈ vs, x.length = n := fun x hx => h x (List.mem_cons_of_mem _ hx)
    have ih := comb_at hj ts vs hx
    have hv := h v List.mem_cons_self
    have hc := comb_len ts vs hx
    have e : comb n (t :: ts) (v :: vs) = List.zipWith (· + ·) (v.map (t * ·)) (comb n ts vs) := rfl
    have j1 : j < v.length := by omega
    have j2 : j < (comb n ts vs).length := by omega
    rw [List.getD_eq_getElem?_getD, List.getElem?_eq_getElem j2] at ih
    rw [e, List.getD_eq_getElem?_getD, List.getElem?_zipWith, List.getElem?_map, List.getElem?_eq_getElem j1, List.getElem?_eq_getElem j2]
    have ih' : (comb n ts vs)[j] = dot ts (col vs j) := ih
    show t * v[j] + (comb n ts vs)[j] = dot (t :: ts) (col (v :: vs) j)
    rw [ih']
    unfold col dot
    simp [j1]
/-- a functional's value at what a row makes -/
theorem made {n : Nat} {ts w : List Int} {vs : List (List Int)} {F : Int} (u : List Int) (hv : ∀ v ∈ vs, v.length = n) (hw : w.length = n) (h : ∀ j < n, dot ts (col vs j) = w.getD j 0 * F) : dot ts (vs.map (dot u)) = dot u w * F := by
  have e : comb n ts vs = w.map (F * ·) := by
    refine List.ext_getElem (by rw [comb_len ts vs hv, List.length_map, hw]) fun j h1 h2 => ?_
    have hj : j < n := by rw [comb_len ts vs hv] at h1; exact h1
    have a := comb_at hj ts vs hv
    rw [h j hj, List.getD_eq_getElem?_getD, List.getElem?_eq_getElem h1, List.getD_eq_getElem?_getD, List.getElem?_eq_getElem (by omega)] at a
    have a' : (comb n ts vs)[j] = w[j]'(by omega) * F := a
    rw [a', List.getElem_map, Int.mul_comm]
  rw [← dot_comb u ts vs hv, e, dot_scale', Int.mul_comm]
/-- a functional behind a step -/
theorem back {n : Nat} (u : List Int) (m : List (List Int)) (hm : ∀ x ∈ m, x.length = n) (v : List Int) : dot u (img m v) = dot (comb n u m) v := by
  rw [dot_comm (comb n u m) v, dot_comb v u m hm]
  unfold img
  congr 1
  exact List.map_congr_left fun x _ => dot_comm x v
/-! ### a span tells the rest -/
/-- a functional of both rules' lines -/
def psi (r0 r1 : Ru) (u0 u1 : List Int) (k : Nat) : Int := dot u0 (lns r0 k) + dot u1 (lns r1 k)
section
variable {b n0 n1 : Nat} {ns : List Nat} {pss : List (Row × Row)} {r0 r1 : Ru}
theorem psi_step (h0 : r0.Ok n0) (h1 : r1.Ok n1) (u0 u1 : List Int) (x d : Nat) (hd : d < 2) : psi r0 r1 u0 u1 (2 * x + d) = psi r0 r1 (comb n0 u0 (r0.side d)) (comb n1 u1 (r1.side d)) x := by
  unfold psi
  rw [lns_step h0 x d hd, lns_step h1 x d hd, back u0 _ fun y hy => ((h0.side d).2 y hy).1, back u1 _ fun y hy => ((h1.side d).2 y hy).1]
theorem dot_plus : ∀ (ts : List Int) (f g : List Int), f.length = g.length → dot ts (List.zipWith (· + ·) f g) = dot ts f + dot ts g := dot_add
theorem map_psi (u0 u1 : List Int) (ns : List Nat) : ns.map (psi r0 r1 u0 u1) = List.zipWith (· + ·) ((ns.map (lns r0)).map (dot u0)) ((ns.map (lns r1)).map (dot u1)) := by
  induction ns with
  | nil => rfl
  | cons k ns ih => rw [List.map_cons, ih]; rfl
/-- what a row says of a functional -/
theorem row_psi (h0 : r0.Ok n0) (h1 : r1.Ok n1) {row : List (Int × Int)} (hr : RowOk b row) {x d : Nat} (hd : d < 2) (hB : rowB [r0, r1] ns row (2 * x + d) x d = true) (u0 u1 : List Int) :
    dot (tops row) (ns.map (psi r0 r1 u0 u1)) = psi r0 r1 u0 u1 (2 * x + d) * lcmL row := by
  unfold rowB at hB
  simp only [Bool.and_eq_true, List.all_cons, List.all_nil, Bool.and_true] at hB
  obtain ⟨_, hm0, hm1⟩ := hB
  unfold makesB at hm0 hm1
  rw [img_len, List.all_eq_true] at hm0 hm1
  have m0 := made (ts := tops row) (w := img (r0.side d) (lns r0 x)) (vs := ns.map (lns r0)) (F := lcmL row) (n := n0) u0 (fun v hv => by
    obtain ⟨k, _, e⟩ := List.mem_map.mp hv
    subst e; exact lns_len h0 k) (by rw [img_len]; exact (h0.side d).1) fun j hj => of_decide_eq_true (hm0 j (List.mem_range.mpr (by rw [(h0.side d).1]; exact hj)))
  have m1 := made (ts := tops row) (w := img (r1.side d) (lns r1 x)) (vs := ns.map (lns r1)) (F := lcmL row) (n := n1) u1 (fun v hv => by
    obtain ⟨k, _, e⟩ := List.mem_map.mp hv
    subst e; exact lns_len h1 k) (by rw [img_len]; exact (h1.side d).1) fun j hj => of_decide_eq_true (hm1 j (List.mem_range.mpr (by rw [(h1.side d).1]; exact hj)))
  rw [map_psi, dot_plus _ _ _ (by simp), m0, m1, ← Int.add_mul]
  unfold psi
  rw [lns_step h0 x d hd, lns_step h1 x d hd]
theorem dot_zeros : ∀ (ts vs : List Int), (∀ p ∈ List.zip ts vs, p.1 = 0 ∨ p.2 = 0) → dot ts vs = 0
  | [], _, _ => by simp [dot]
  | _ :: _, [], _ => by simp [dot]
  | t :: ts, v :: vs, h => by
    have ih := dot_zeros ts vs fun p hp => h p (by rw [List.zip_cons_cons]; exact List.mem_cons_of_mem _ hp)
    have h0 := h (t, v) (by rw [List.zip_cons_cons]; exact List.mem_cons_self)
    unfold dot at *
    simp only [List.zipWith_cons_cons, List.sum_cons]
    rw [ih]
    rcases h0 with e | e
    · have e' : t = 0 := e
      rw [e']; simp
    · have e' : v = 0 := e
      rw [e']; simp
theorem span_tells (h0 : r0.Ok n0) (h1 : r1.Ok n1) (h : PapOk b ns pss) (lim : Option Nat) (hs : spanB [r0, r1] ns pss lim = true) : ∀ (k : Nat), (∀ l, lim = some l → k < l) → ∀ u0 u1 : List Int, (∀ x ∈ ns, x ≤ k → psi r0 r1 u0 u1 x = 0) → psi r0 r1 u0 u1 k = 0 := by
  unfold spanB at hs
  rw [Bool.and_eq_true, List.all_eq_true] at hs
  obtain ⟨hl, hb⟩ := hs
  intro k
  induction k using Nat.strongRecOn with
  | _ k ih =>
    intro hk u0 u1 hu
    by_cases hz : 0 < k
    · have ek : k = 2 * (k / 2) + k % 2 := by omega
      have hd : k % 2 < 2 := by omega
      rw [ek, psi_step h0 h1 u0 u1 (k / 2) (k % 2) hd]
      refine ih (k / 2) (by omega) (fun l e => by have := hk l e; omega) _ _ fun x hx hxk => ?_
      rw [← psi_step h0 h1 u0 u1 x (k % 2) hd]
      obtain ⟨a, ha, ea⟩ := List.mem_iff_getElem.mp hx
      have hxa : (x, a) ∈ ns.zipIdx := List.mem_zipIdx_iff_getElem?.mpr (by rw [List.getElem?_eq_getElem ha, ea])
      have hline := List.all_eq_true.mp (hl (x, a) hxa) (k % 2) (List.mem_range.mpr hd)
      have hal : a < pss.length := by rw [h.pl]; exact ha
      have hg : pss.getD a (none, none) = pss[a] := by rw [List.getD_eq_getElem?_getD, List.getElem?_eq_getElem hal]; rfl
      have hrow : RowsOk b ns (prow pss a (k % 2)) := by
        unfold prow
        rw [hg]
        by_cases e : k % 2 = 0
        · rw [if_pos e]; exact h.r1 _ (List.getElem_mem hal)
        · rw [if_neg e]; exact h.r2 _ (List.getElem_mem hal)
      have hline' : lineB [r0, r1] ns lim x (prow pss a (k % 2)) (k % 2) = true := hline
      cases hp : prow pss a (k % 2) with
      | none =>
        rw [hp] at hline'
        unfold lineB at hline'
        cases hlim : lim with
        | none => rw [hlim] at hline'; cases hline'
        | some l =>
          rw [hlim] at hline'
          have h1' := of_decide_eq_true hline'
          have h2' := hk l hlim
          omega
      | some row =>
        rw [hp] at hline' hrow
        obtain ⟨g1, g2⟩ := hrow.ok row rfl
        have hB : rowB [r0, r1] ns row (2 * x + k % 2) x (k % 2) = true := hline'
        have hr := row_psi h0 h1 g1 hd hB u0 u1
        have hzip : zipB ns row (2 * x + k % 2) = false := by
          unfold rowB at hB
          simp only [Bool.and_eq_true, Bool.not_eq_true'] at hB
          exact hB.1
        have hz0 : dot (tops row) (ns.map (psi r0 r1 u0 u1)) = 0 := dot_zeros _ _ fun p hp' => by
          obtain ⟨i, hi, ei⟩ := List.mem_iff_getElem.mp hp'
          rw [List.length_zip, List.length_map] at hi
          have htl : (tops row).length = row.length := List.length_map ..
          have i1 : i < ns.length := by omega
          have i2 : i < row.length := by omega
          rw [List.getElem_zip, List.getElem_map] at ei
          subst ei
          by_cases hle : ns[i] ≤ k
          · exact .inr (hu _ (List.getElem_mem i1) hle)
          · refine .inl ?_
            have hq := List.any_eq_false.mp (show ((List.zip ns row).any fun p => decide (2 * x + k % 2 < p.1) && !decide (p.2.1 = 0)) = false from hzip) (ns[i], row[i]) (by
              rw [List.mem_iff_getElem]
              exact ⟨i, by rw [List.length_zip]; omega, by rw [List.getElem_zip]⟩)
            have hlt : 2 * x + k % 2 < ns[i] := by omega
            simp only [hlt, decide_true, Bool.true_and, Bool.not_eq_true'] at hq
            have e0 : (row[i]).1 = 0 := by simpa using hq
            show (tops row)[i] = 0
            unfold tops
            rw [List.getElem_map, e0, Int.zero_mul]
        rw [hz0] at hr
        have hF := g1.lcm.2
        rcases Int.mul_eq_zero.mp hr.symm with e | e
        · exact e
        · omega
    · have k0 : k = 0 := by omega
      subst k0
      unfold beginB at hb
      rw [Bool.or_eq_true, Bool.or_eq_true] at hb
      rcases hb with e | e | e
      · exact hu 0 (of_decide_eq_true e) (Nat.le_refl 0)
      · have := hk 0 (of_decide_eq_true e)
        omega
      · have z : ∀ r ∈ [r0, r1], ∀ u : List Int, dot u (lns r 0) = 0 := fun r hr u => by
          have ez := List.all_eq_true.mp e r hr
          have el : lns r 0 = r.st := by unfold lns; rw [bits_zero]; rfl
          rw [el, dot_comm]
          refine dot_zeros _ _ fun p hp => .inl ?_
          exact of_decide_eq_true (List.all_eq_true.mp ez p.1 (List.of_mem_zip hp).1)
        unfold psi
        rw [z r0 List.mem_cons_self, z r1 (List.mem_cons_of_mem _ List.mem_cons_self)]
        rfl
end
end VL

set_option Elab.async false
set_option linter.all false
set_option maxRecDepth 100000
set_option maxHeartbeats 1000000
/-! Lta: drawn numbers, rows. -/
namespace VL
open PySem PySem.Spec PyProof.Rows L2
theorem compL_src {vs : List Nat} {t : Tg} {fe : Ev} {α : Type} (en : α → D) (mk : MO → Env') (R : D → Prop) : ∀ (xs : List α),
    (∀ x ∈ xs, ∀ m, Src m → ∃ e1 y e3 m', asg t (en x) (mk m) = some e1 ∧ fz fe e1 = some (.val y, e3) ∧ clean vs e3 = true ∧ wipeE e3 vs = mk m' ∧ Src m' ∧ R y) →
    ∀ m, Src m → ∃ ys m', compL vs t tYs fe (xs.map en) (mk m) = some (ys, mk m') ∧ Src m' ∧ ys.length = xs.length ∧ ∀ y ∈ ys, R y
  | [], _, m, hm => ⟨[], m, rfl, hm, rfl, fun y hy => by cases hy⟩
  | x :: xs, h, m, hm => by
    obtain ⟨e1, y, e3, m1, h1, h2, h3, h4, h5, h6⟩ := h x List.mem_cons_self m hm
    obtain ⟨ys, m', g1, g2, g3, g4⟩ := compL_src en mk R xs (fun z hz => h z (List.mem_cons_of_mem _ hz)) m1 h5
    refine ⟨y :: ys, m', ?_, g2, by rw [List.length_cons, List.length_cons, g3], fun z hz => ?_⟩
    · rw [List.map_cons, compL_cons]
      simp only [h1, tYs_ap, h2, h3, h4, g1]
      rfl
    · rcases List.mem_cons.mp hz with e | hz
      · subst e; exact h6
      · exact g4 z hz
theorem ints_of {P : Int → Prop} : ∀ (ys : List D), (∀ y ∈ ys, ∃ i, y = .int i ∧ P i) → ∃ zs, ys = iL zs ∧ zs.length = ys.length ∧ ∀ z ∈ zs, P z
  | [], _ => ⟨[], rfl, rfl, fun z hz => by cases hz⟩
  | y :: ys, h => by
    obtain ⟨i, e, p⟩ := h y List.mem_cons_self
    obtain ⟨zs, h1, h2, h3⟩ := ints_of ys fun x hx => h x (List.mem_cons_of_mem _ hx)
    refine ⟨i :: zs, by rw [e, h1]; rfl, by rw [List.length_cons, List.length_cons, h2], fun z hz => ?_⟩
    rcases List.mem_cons.mp hz with e | hz
    · subst e; exact p
    · exact h3 z hz
theorem number_ok {m : MO} (h : Src m) {w : Int} (h0 : 0 ≤ w) (h1 : w < 400) : ∃ r m', m__law_number m [.int w] = some (.val (.int r), m') ∧ Src m' ∧ -w ≤ r ∧ r ≤ w := by
  obtain ⟨r, m', g1, g2, g3, g4⟩ := draw_ok h (n := 2 * w + 1) (by omega) (by omega)
  refine ⟨r - w, m', ?_, g2, by omega, by omega⟩
  unfold m__law_number b__law_number
  rw [runI2]
  simp [g1]
theorem row_ok {m : MO} (h : Src m) {n : Nat} {w : Int} (hn : n ≤ 50) (h0 : 0 ≤ w) (h1 : w < 400) : ∃ zs m', m__law_row m [.int (n : Int), .int w] = some (.val (.tup (iL zs)), m') ∧ Src m' ∧ zs.length = n ∧ ∀ z ∈ zs, -w ≤ z ∧ z ≤ w := by
  unfold m__law_row b__law_row
  rw [runI3]
  have lp := compL_src (vs := [3]) (t := .nm 3) (fe := eCallI m__law_number (aCons (fVar 0) (aCons (fz (fVar 2)) aNil))) (fun (n : Nat) => D.int (n : Int)) (fun m => [.par m, .val (.int (n : Int)), .val (.int w), .no]) (fun y => ∃ i, y = .int i ∧ (-w ≤ i ∧ i ≤ w)) (List.range n) (fun j hj m hm => by
    obtain ⟨r, m', g1, g2, g3, g4⟩ := number_ok hm h0 h1
    exact ⟨[.par m, .val (.int (n : Int)), .val (.int w), .val (.int (j : Int))], .int r, [.par m', .val (.int (n : Int)), .val (.int w), .val (.int (j : Int))], m', by simp, by simp [g1], by simp, by simp, g2, r, rfl, g3, g4⟩) m h
  obtain ⟨ys, m', g1, g2, g3, g4⟩ := lp
  obtain ⟨zs, k1, k2, k3⟩ := ints_of ys g4
  subst k1
  have hfin : (List.range n).map (fun (n : Nat) => D.int (n : Int)) = nL (List.range n) := rfl
  rw [hfin] at g1
  have okn : okR (n : Int) = true := okR_nat (by omega)
  have ln : n < sizeLine := sizeLine_l (by omega)
  refine ⟨zs, m', ?_, g2, by rw [k2, g3, List.length_range], k3⟩
  simp [okn, from0, ln, g1]
end VL

set_option Elab.async false
set_option linter.all false
set_option maxRecDepth 100000
set_option maxHeartbeats 1000000
/-! Ltb: drawn rules. -/
namespace VL
open PySem PySem.Spec PyProof.Rows L2
/-- a rule as it is drawn: one or two lines, tiny numbers -/
structure Ru.Dr (r : Ru) (n : Nat) : Prop where
  n1 : 1 ≤ n
  n2 : n ≤ 2
  evl : r.ev.length = n
  odl : r.od.length = n
  stl : r.st.length = n
  tll : r.tl.length = n
  evr : ∀ x ∈ r.ev, x.length = n ∧ ∀ y ∈ x, Bd 3 y
  odr : ∀ x ∈ r.od, x.length = n ∧ ∀ y ∈ x, Bd 3 y
  stb : ∀ y ∈ r.st, Bd 3 y
  tlb : ∀ y ∈ r.tl, Bd 3 y
  fit : r.ev.map (fun x => dot x r.st) = r.st
theorem Ru.Dr.ok {r : Ru} {n : Nat} (h : r.Dr n) : r.Ok n where
  n1 := by have := h.n2; omega
  evl := h.evl
  odl := h.odl
  stl := h.stl
  tll := h.tll
  evr := fun x hx => ⟨(h.evr x hx).1, fun y hy => ((h.evr x hx).2 y hy).mono (by decide)⟩
  odr := fun x hx => ⟨(h.odr x hx).1, fun y hy => ((h.odr x hx).2 y hy).mono (by decide)⟩
  stb := fun y hy => (h.stb y hy).mono (by decide)
  tlb := fun y hy => (h.tlb y hy).mono (by decide)
  fit := h.fit
theorem bd3 {x : Int} (h : -7 ≤ x ∧ x ≤ 7) : Bd 3 x := by unfold Bd; have : (2:Nat)^3 = 8 := rfl; omega
theorem bd3w {x w : Int} (h : -w ≤ x ∧ x ≤ w) (hw : w ≤ 7) : Bd 3 x := bd3 (by omega)
theorem mul_tiny {z h : Int} (hz : -2 ≤ z ∧ z ≤ 2) (hh : -2 ≤ h ∧ h ≤ 2) : -4 ≤ z * h ∧ z * h ≤ 4 := by
  have : h = -2 ∨ h = -1 ∨ h = 0 ∨ h = 1 ∨ h = 2 := by omega
  rcases this with rfl | rfl | rfl | rfl | rfl <;> omega
theorem set_law {zs hs : List Int} {n sp : Nat} {sg head : Int} (hn : n ≤ 2) (hsp : sp < n) (hz : zs.length = n) (hl : hs.length = n) (hsg : sg = 1 ∨ sg = -1) (hat : hs[sp]? = some sg) (hzb : ∀ y ∈ zs, -2 ≤ y ∧ y ≤ 2) (hb : ∀ y ∈ hs, -2 ≤ y ∧ y ≤ 2) (hh : -2 ≤ head ∧ head ≤ 2) :
    (-6 ≤ sg * (head - dot (zs.set sp 0) hs) ∧ sg * (head - dot (zs.set sp 0) hs) ≤ 6) ∧ dot (zs.set sp (sg * (head - dot (zs.set sp 0) hs))) hs = head := by
  match zs, hs, n, sp with
  | [], _, n, _ => simp at hz; omega
  | [z], [h], n, 0 =>
    simp at hat
    subst hat
    rcases hsg with rfl | rfl <;> simp [dot] <;> omega
  | [z], [h], n, sp + 1 => simp at hz; omega
  | [z, z2], [h, h2], n, 0 =>
    simp at hat
    subst hat
    have t := mul_tiny (hzb z2 (by simp)) (hb h2 (by simp))
    rcases hsg with rfl | rfl <;> simp [dot] <;> omega
  | [z, z2], [h, h2], n, 1 =>
    simp at hat
    subst hat
    have t := mul_tiny (hzb z (by simp)) (hb h (by simp))
    rcases hsg with rfl | rfl <;> simp [dot] <;> omega
  | [z, z2], [h, h2], n, sp + 2 => simp at hz; omega
  | z :: z2 :: z3 :: zs, _, n, _ => simp at hz; omega
  | [z], [], n, _ => simp at hz hl; omega
  | [z], h :: h2 :: hs, n, _ => simp at hz hl; omega
  | [z, z2], [], n, _ => simp at hz hl; omega
  | [z, z2], [h], n, _ => simp at hz hl; omega
  | [z, z2], h :: h2 :: h3 :: hs, n, _ => simp at hz hl; omega
noncomputable def rlB : Sm := (sSeq (sSet 8 (eN dList (aCons (eCallI m__law_row (aCons (fVar 0) (aCons (fz (fVar 1)) (aCons (fz (fVar 2)) aNil)))) aNil)))
  (sSeq (sIx 8 (fVar 3) (fC (.int 0)))
  (sSeq (sIx 8 (fVar 3) (pureE (e2 dMul (fVar 4) (e2 dSub (fVar 7) (e2 dIx (eCall m__law_image (aCons (fz (eLst (aCons (fz (fVar 8)) aNil))) (aCons (fz (fVar 5)) aNil))) (fC (.int 0)))))))
  (sApp 6 (eN dTuple (aCons (fVar 8) aNil))))))
def rlE (m : MO) (n : Nat) (w : Int) (sp : Nat) (sg : Int) (hs : List Int) (rows : List D) (s5 s7 s8 : Sl) : Env' := [.par m, .val (.int (n : Int)), .val (.int w), .val (.int (sp : Int)), .val (.int sg), s5, .own (.lst rows), s7, s8, .no, .no]
theorem rl_turn {m : MO} (h : Src m) {n : Nat} {w : Int} (hn : n ≤ 2) (h0 : 0 ≤ w) (h1 : w ≤ 2) {sp : Nat} (hsp : sp < n) {sg : Int} (hsg : sg = 1 ∨ sg = -1) {hs : List Int} (hl : hs.length = n) (hb : ∀ y ∈ hs, -2 ≤ y ∧ y ≤ 2) (hat : hs[sp]? = some sg) {head : Int} (hh : -2 ≤ head ∧ head ≤ 2) (rows : List D) (hr : rows.length ≤ 10) (s8 : Sl) (p8 : s8.free = true) :
    ∃ zs m' s8', rlB (rlE m n w sp sg hs rows (.val (.lst (iL hs))) (.val (.int head)) s8) = some (.nx, rlE m' n w sp sg hs (rows ++ [.tup (iL zs)]) (.val (.lst (iL hs))) (.val (.int head)) s8') ∧ Src m' ∧ s8'.free = true ∧ zs.length = n ∧ (∀ y ∈ zs, -6 ≤ y ∧ y ≤ 6) ∧ dot zs hs = head := by
  obtain ⟨zs, m', g1, g2, g3, g4⟩ := row_ok h (n := n) (w := w) (by omega) h0 (by omega)
  have hi := image_eq (fun r => .lst (iL r)) (fun r => rfl) (d := .lst [.lst (iL (zs.set sp 0))]) [zs.set sp 0] rfl hs (fun r hr => by
    rw [List.mem_singleton] at hr
    subst hr
    refine ⟨by rw [List.length_set]; omega, fun y hy => ?_⟩
    rcases List.mem_or_eq_of_mem_set hy with hy | hy
    · have := g4 y hy
      exact (bd3 (by omega)).mono (by decide)
    · subst hy; exact (bd3 (by omega)).mono (by decide)) (by omega) (by simp)
  have hix : ixN zs.length (sp : Int) = some sp := by
    unfold ixN
    simp
    omega
  have hset : ∀ (xs : List Int) (v : Int), (iL xs).set sp (.int v) = iL (xs.set sp v) := fun xs v => (List.map_set ..).symm
  have lz : zs.length < sizeLine := sizeLine_l (by omega)
  have lr : rows.length < sizeLine := sizeLine_l (by omega)
  have at0 : ∀ d : D, atI [d] 0 = some d := fun d => rfl
  have s2 : 1 ≤ sizeLine := by decide
  have hmul : ∀ x : Int, mulOk sg x = true := fun x => mulOk_l (by rcases hsg with e | e <;> subst e <;> decide)
  refine ⟨zs.set sp (sg * (head - dot (zs.set sp 0) hs)), m', .own (.lst (iL (zs.set sp (sg * (head - dot (zs.set sp 0) hs))))), ?_, g2, rfl, by rw [List.length_set]; exact g3, ?_, ?_⟩
  · unfold rlB rlE
    simp [p8, g1, hset, hix, hi, img, hmul, lz, lr, s2, at0]
  · have hv := (set_law hn hsp g3 hl hsg hat (fun y hy => by have := g4 y hy; omega) hb hh).1
    intro y hy
    rcases List.mem_or_eq_of_mem_set hy with hy | hy
    · have := g4 y hy
      omega
    · subst hy; exact hv
  · exact (set_law hn hsp g3 hl hsg hat (fun y hy => by have := g4 y hy; omega) hb hh).2
/-- the loop over the heads -/
theorem rl_loop {n : Nat} {w : Int} (hn : n ≤ 2) (h0 : 0 ≤ w) (h1 : w ≤ 2) {sp : Nat} (hsp : sp < n) {sg : Int} (hsg : sg = 1 ∨ sg = -1) {hs : List Int} (hl : hs.length = n) (hb : ∀ y ∈ hs, -2 ≤ y ∧ y ≤ 2) (hat : hs[sp]? = some sg) :
    ∀ (todo : List Int) (rows : List D) (m : MO) (s7 s8 : Sl), Src m → Pl s7 → s8.free = true → todo.length + rows.length ≤ 10 → (∀ y ∈ todo, -2 ≤ y ∧ y ≤ 2) →
      ∃ (ev : List (List Int)) (m' : MO) (s7' s8' : Sl), forL (.nm 7) rlB (iL todo) (rlE m n w sp sg hs rows (.val (.lst (iL hs))) s7 s8) = some (.nx, rlE m' n w sp sg hs (rows ++ ev.map fun r => .tup (iL r)) (.val (.lst (iL hs))) s7' s8') ∧ Src m' ∧ Pl s7' ∧ s8'.free = true ∧
        ev.map (fun x => dot x hs) = todo ∧ ∀ x ∈ ev, x.length = n ∧ ∀ y ∈ x, -6 ≤ y ∧ y ≤ 6
  | [], rows, m, s7, s8, hm, p7, p8, hlen, ht => ⟨[], m, s7, s8, by rw [iL_nil, forL_nil, List.map_nil, List.append_nil], hm, p7, p8, rfl, fun x hx => by cases hx⟩
  | head :: todo, rows, m, s7, s8, hm, p7, p8, hlen, ht => by
    rw [List.length_cons] at hlen
    obtain ⟨zs, m1, s8a, g1, g2, g3, g4, g5, g6⟩ := rl_turn hm hn h0 h1 hsp hsg hl hb hat (ht head List.mem_cons_self) rows (by omega) s8 p8
    obtain ⟨ev, m2, s7b, s8b, k1, k2, k3, k4, k5, k6⟩ := rl_loop hn h0 h1 hsp hsg hl hb hat todo (rows ++ [.tup (iL zs)]) m1 (.val (.int head)) s8a g2 (Pl.v _) g3 (by simp; omega) (fun y hy => ht y (List.mem_cons_of_mem _ hy))
    refine ⟨zs :: ev, m2, s7b, s8b, ?_, k2, k3, k4, by rw [List.map_cons, g6, k5], fun x hx => ?_⟩
    · rw [iL_cons, forL_cons]
      have ha : asg (.nm 7) (.int head) (rlE m n w sp sg hs rows (.val (.lst (iL hs))) s7 s8) = some (rlE m n w sp sg hs rows (.val (.lst (iL hs))) (.val (.int head)) s8) := by
        unfold rlE
        simp [p7.fr]
      rw [ha]
      dsimp only
      rw [g1]
      dsimp only
      rw [k1, List.map_cons, List.append_assoc]
      rfl
    · rcases List.mem_cons.mp hx with e | hx
      · subst e; exact ⟨g4, g5⟩
      · exact k6 x hx
end VL

set_option Elab.async false
set_option linter.all false
set_option maxRecDepth 100000
set_option maxHeartbeats 1000000
/-! Ltc: drawn rules: the def. -/
namespace VL
open PySem PySem.Spec PyProof.Rows L2
theorem tups_of {P : List Int → Prop} : ∀ (ys : List D), (∀ y ∈ ys, ∃ zs, y = .tup (iL zs) ∧ P zs) → ∃ ms : List (List Int), ys = ms.map (fun r => .tup (iL r)) ∧ ms.length = ys.length ∧ ∀ z ∈ ms, P z
  | [], _ => ⟨[], rfl, rfl, fun z hz => by cases hz⟩
  | y :: ys, h => by
    obtain ⟨i, e, p⟩ := h y List.mem_cons_self
    obtain ⟨zs, h1, h2, h3⟩ := tups_of ys fun x hx => h x (List.mem_cons_of_mem _ hx)
    refine ⟨i :: zs, by rw [e, h1]; rfl, by rw [List.length_cons, List.length_cons, h2], fun z hz => ?_⟩
    rcases List.mem_cons.mp hz with e | hz
    · subst e; exact p
    · exact h3 z hz
theorem rows_src {n : Nat} {w : Int} (hn : n ≤ 50) (h0 : 0 ≤ w) (h1 : w < 400) (s3 s4 s5 s6 s7 s8 s9 : Sl) : ∀ m, Src m → ∃ ys m', compL [10] (.nm 10) tYs (eCallI m__law_row (aCons (fVar 0) (aCons (fz (fVar 1)) (aCons (fz (fVar 2)) aNil)))) (nL (List.range n)) [.par m, .val (.int (n : Int)), .val (.int w), s3, s4, s5, s6, s7, s8, s9, .no] =
      some (ys, [.par m', .val (.int (n : Int)), .val (.int w), s3, s4, s5, s6, s7, s8, s9, .no]) ∧ Src m' ∧ ys.length = n ∧ ∀ y ∈ ys, ∃ zs, y = .tup (iL zs) ∧ zs.length = n ∧ ∀ z ∈ zs, -w ≤ z ∧ z ≤ w := by
  intro m h
  have lp := compL_src (vs := [10]) (t := .nm 10) (fe := eCallI m__law_row (aCons (fVar 0) (aCons (fz (fVar 1)) (aCons (fz (fVar 2)) aNil)))) (fun (n : Nat) => D.int (n : Int)) (fun m => [.par m, .val (.int (n : Int)), .val (.int w), s3, s4, s5, s6, s7, s8, s9, .no]) (fun y => ∃ zs, y = .tup (iL zs) ∧ zs.length = n ∧ ∀ z ∈ zs, -w ≤ z ∧ z ≤ w) (List.range n) (fun j hj m hm => by
    obtain ⟨zs, m', g1, g2, g3, g4⟩ := row_ok hm hn h0 h1
    exact ⟨[.par m, .val (.int (n : Int)), .val (.int w), s3, s4, s5, s6, s7, s8, s9, .val (.int (j : Int))], .tup (iL zs), [.par m', .val (.int (n : Int)), .val (.int w), s3, s4, s5, s6, s7, s8, s9, .val (.int (j : Int))], m', by simp, by simp [g1], by simp, by simp, g2, zs, rfl, g3, g4⟩) m h
  obtain ⟨ys, m', g1, g2, g3, g4⟩ := lp
  exact ⟨ys, m', g1, g2, by rw [g3, List.length_range], g4⟩
theorem rule_ok {m : MO} (h : Src m) {n : Nat} {w : Int} (hn1 : 1 ≤ n) (hn : n ≤ 2) (hw1 : 1 ≤ w) (hw : w ≤ 2) : ∃ r m', m__law_rule m [.int (n : Int), .int w] = some (.val (Ru.d r), m') ∧ Src m' ∧ r.Dr n := by
  obtain ⟨spi, m1, a1, a2, a3, a4⟩ := draw_ok h (n := (n : Int)) (by omega) (by omega)
  obtain ⟨sp, rfl⟩ : ∃ k : Nat, spi = (k : Int) := ⟨spi.toNat, by omega⟩
  obtain ⟨c, m2, b1, b2, b3, b4⟩ := draw_ok a2 (n := 2) (by omega) (by omega)
  obtain ⟨hz, m3, c1, c2, c3, c4⟩ := row_ok b2 (n := n) (w := w) (by omega) (by omega) (by omega)
  have hsp : sp < n := by omega
  have hsg : 1 - 2 * c = 1 ∨ 1 - 2 * c = -1 := by omega
  generalize hsgd : 1 - 2 * c = sg at hsg
  have hix : ixN hz.length (sp : Int) = some sp := by
    unfold ixN
    simp
    omega
  have hset : ∀ (xs : List Int) (v : Int), (iL xs).set sp (.int v) = iL (xs.set sp v) := fun xs v => (List.map_set ..).symm
  have lz : hz.length < sizeLine := sizeLine_l (by omega)
  have s1 : 1 ≤ sizeLine := by decide
  have s4 : 4 ≤ sizeLine := by decide
  have hb : ∀ y ∈ hz.set sp sg, -2 ≤ y ∧ y ≤ 2 := fun y hy => by
    rcases List.mem_or_eq_of_mem_set hy with hy | hy
    · have := c4 y hy; omega
    · omega
  obtain ⟨ev, m4, s7, s8, d1, d2, d3, d4, d5, d6⟩ := rl_loop hn (by omega) hw hsp hsg (hs := hz.set sp sg) (by rw [List.length_set]; exact c3) hb (by rw [List.getElem?_set_self (by omega)]) (hz.set sp sg) [] m3 .no .no c2 Pl.no rfl (by rw [List.length_set]; simp; omega) hb
  obtain ⟨ys, m5, e1, e2, e3, e4⟩ := rows_src (n := n) (w := w) (by omega) (by omega) (by omega) (.val (.int (sp : Int))) (.val (.int sg)) (.val (.lst (iL (hz.set sp sg)))) (.own (.lst (ev.map fun r => .tup (iL r)))) s7 s8 .no m4 d2
  obtain ⟨od, f1, f2, f3⟩ := tups_of ys e4
  obtain ⟨tl, m6, t1, t2, t3, t4⟩ := row_ok e2 (n := n) (w := w) (by omega) (by omega) (by omega)
  subst f1
  have evn : ev.length = n := by
    have := congrArg List.length d5
    rw [List.length_map, List.length_set] at this
    omega
  have le : ev.length < sizeLine := sizeLine_l (by omega)
  have okn : okR (n : Int) = true := okR_nat (by omega)
  have ln : n < sizeLine := sizeLine_l (by omega)
  have lod : od.length < sizeLine := sizeLine_l (by omega)
  refine ⟨⟨ev, od, hz.set sp sg, tl⟩, m6, ?_, t2, { n1 := hn1, n2 := hn, evl := evn, odl := by rw [f2, e3], stl := by rw [List.length_set]; exact c3, tll := t3, evr := fun x hx => ⟨(d6 x hx).1, fun y hy => bd3 (by have := (d6 x hx).2 y hy; omega)⟩, odr := fun x hx => ⟨(f3 x hx).1, fun y hy => bd3w ((f3 x hx).2 y hy) (by omega)⟩, stb := fun y hy => bd3 (by have := hb y hy; omega), tlb := fun y hy => bd3w (t4 y hy) (by omega), fit := d5 }⟩
  unfold m__law_rule b__law_rule
  rw [runI3]
  unfold rlE rlB at d1
  rw [List.nil_append] at d1
  have hnl : fromN 0 1 n = nL (List.range n) := from0 n
  simp [a1, b1, c1, hsgd, hix, hset, lz, d1, d3.fr, d4, okn, hnl, ln, le, lod, s1, s4, e1, t1, Ru.d, mt]
end VL

set_option Elab.async false
set_option linter.all false
set_option maxRecDepth 100000
set_option maxHeartbeats 1000000
/-! Ltd: drawn rules whose lines take each other's places. -/
namespace VL
open PySem PySem.Spec PyProof.Rows L2
def unit (n : Nat) (sp : Int) : List Int := (List.range n).map fun (j : Nat) => if (j : Int) = sp then 1 else 0
theorem unit_len (n : Nat) (sp : Int) : (unit n sp).length = n := by unfold unit; simp
theorem unit_bd (n : Nat) (sp : Int) : ∀ y ∈ unit n sp, Bd 3 y := fun y hy => by
  unfold unit at hy
  obtain ⟨j, _, rfl⟩ := List.mem_map.mp hy
  split <;> exact bd3 (by omega)
theorem unit_comp (n : Nat) (sp : Int) (s0 s1 s2 s3 s4 s5 s8 : Sl) : compL [6] (.nm 6) tYs (eN dInt (aCons (e2 dEq (fVar 6) (fVar 7)) aNil)) (nL (List.range n)) [s0, s1, s2, s3, s4, s5, .no, .val (.int sp), s8] =
    some (iL (unit n sp), [s0, s1, s2, s3, s4, s5, .no, .val (.int sp), s8]) := by
  have := compL_map (vs := [6]) (t := .nm 6) (fe := eN dInt (aCons (e2 dEq (fVar 6) (fVar 7)) aNil)) (env := [s0, s1, s2, s3, s4, s5, .no, .val (.int sp), s8]) (fun (j : Nat) => D.int (j : Int)) (fun (j : Nat) => D.int (if (j : Int) = sp then 1 else 0)) (List.range n) fun j hj => by
    by_cases e : (j : Int) = sp
    · exact ⟨_, _, by simp; rfl, by simp [e]; first | rfl | exact ⟨rfl, rfl⟩, by simp, by simp⟩
    · exact ⟨_, _, by simp; rfl, by simp [e]; first | rfl | exact ⟨rfl, rfl⟩, by simp, by simp⟩
  unfold nL unit iL
  rw [this, List.map_map]
  rfl
theorem units_comp (n : Nat) (hn : n ≤ 50) (sps : List Int) (s0 s2 s3 s4 s5 s8 : Sl) : compL [7] (.nm 7) tYs (eN dTuple (aCons (eComp [6] (.nm 6) (iRan1 (aCons (fVar 1) aNil)) tYs (eN dInt (aCons (e2 dEq (fVar 6) (fVar 7)) aNil))) aNil)) (iL sps) [s0, .val (.int (n : Int)), s2, s3, s4, s5, .no, .no, s8] =
    some (sps.map (fun sp => .tup (iL (unit n sp))), [s0, .val (.int (n : Int)), s2, s3, s4, s5, .no, .no, s8]) := by
  have okn : okR (n : Int) = true := okR_nat (by omega)
  have ln : n < sizeLine := sizeLine_l (by omega)
  have hnl : fromN 0 1 n = nL (List.range n) := from0 n
  have lu : ∀ sp, (unit n sp).length < sizeLine := fun sp => by rw [unit_len]; exact ln
  have hc := unit_comp n
  exact compL_map (vs := [7]) (t := .nm 7) _ _ sps fun sp hsp => ⟨_, _, by simp; rfl, by simp [okn, ln, hnl, hc, lu]; first | rfl | exact ⟨rfl, rfl⟩, by simp, by simp⟩
theorem unit_fit {n : Nat} (h1 : 1 ≤ n) (h2 : n ≤ 2) {st : List Int} (hl : st.length = n) : ((List.range n).map fun (k : Nat) => unit n (k : Int)).map (fun x => dot x st) = st := by
  rcases (by omega : n = 1 ∨ n = 2) with rfl | rfl
  · match st with
    | [x] =>
      simp [unit, dot, List.range_succ]
    | [] => simp at hl
    | x :: y :: r => simp at hl
  · match st with
    | [x, y] =>
      simp [unit, dot, List.range_succ]
    | [] => simp at hl
    | [x] => simp at hl
    | x :: y :: z :: r => simp at hl
theorem spots_src {n : Nat} (h1 : 1 ≤ n) (h2 : n ≤ 2) (s2 s3 s5 s6 s7 s8 : Sl) : ∀ m, Src m → ∃ ys m', compL [4] (.nm 4) tYs (eCallI m__law_draw (aCons (fVar 0) (aCons (fz (fVar 1)) aNil))) (nL (List.range n)) [.par m, .val (.int (n : Int)), s2, s3, .no, s5, s6, s7, s8] =
      some (iL ys, [.par m', .val (.int (n : Int)), s2, s3, .no, s5, s6, s7, s8]) ∧ Src m' ∧ ys.length = n := by
  intro m h
  have lp := compL_src (vs := [4]) (t := .nm 4) (fe := eCallI m__law_draw (aCons (fVar 0) (aCons (fz (fVar 1)) aNil))) (fun (n : Nat) => D.int (n : Int)) (fun m => [.par m, .val (.int (n : Int)), s2, s3, .no, s5, s6, s7, s8]) (fun y => ∃ i, y = .int i ∧ True) (List.range n) (fun j hj m hm => by
    obtain ⟨i, m', g1, g2, g3, g4⟩ := draw_ok hm (n := (n : Int)) (by omega) (by omega)
    exact ⟨[.par m, .val (.int (n : Int)), s2, s3, .val (.int (j : Int)), s5, s6, s7, s8], .int i, [.par m', .val (.int (n : Int)), s2, s3, .val (.int (j : Int)), s5, s6, s7, s8], m', by simp, by simp [g1], by simp, by simp, g2, i, rfl, trivial⟩) m h
  obtain ⟨ys, m', g1, g2, g3, g4⟩ := lp
  obtain ⟨zs, e1, e2, _⟩ := ints_of ys g4
  subst e1
  exact ⟨zs, m', g1, g2, by rw [e2, g3, List.length_range]⟩
theorem small_ok {m : MO} (h : Src m) {n : Nat} {w : Int} (hn1 : 1 ≤ n) (hn : n ≤ 2) (hw1 : 1 ≤ w) (hw : w ≤ 2) : ∃ r m', m__law_small m [.int (n : Int), .int w] = some (.val (Ru.d r), m') ∧ Src m' ∧ r.Dr n := by
  obtain ⟨c, m1, a1, a2, a3, a4⟩ := draw_ok h (n := 2) (by omega) (by omega)
  by_cases hc : c = 0
  · obtain ⟨r, m2, b1, b2, b3⟩ := rule_ok a2 (w := w) hn1 hn hw1 hw
    refine ⟨r, m2, ?_, b2, b3⟩
    unfold m__law_small b__law_small
    rw [runI3]
    simp [a1, hc, b1]
  · obtain ⟨sps, m2, b1, b2, b3⟩ := spots_src hn1 hn (.val (.int w)) .no .no .no .no .no m1 a2
    obtain ⟨st, m3, c1, c2, c3, c4⟩ := row_ok b2 (n := n) (w := 2) (by omega) (by omega) (by omega)
    obtain ⟨tl, m4, d1, d2, d3, d4⟩ := row_ok c2 (n := n) (w := 2) (by omega) (by omega) (by omega)
    have okn : okR (n : Int) = true := okR_nat (by omega)
    have ln : n < sizeLine := sizeLine_l (by omega)
    have ls : sps.length < sizeLine := sizeLine_l (by omega)
    have hnl : fromN 0 1 n = nL (List.range n) := from0 n
    have hni : nL (List.range n) = iL ((List.range n).map fun (k : Nat) => (k : Int)) := by unfold nL iL; rw [List.map_map]; rfl
    have u1 := units_comp n (by omega) sps
    have u2 := units_comp n (by omega) ((List.range n).map fun (k : Nat) => (k : Int))
    rw [← hni] at u2
    have s4 : 4 ≤ sizeLine := by decide
    refine ⟨⟨(List.range n).map fun (k : Nat) => unit n (k : Int), sps.map (unit n), st, tl⟩, m4, ?_, d2, { n1 := hn1, n2 := hn, evl := by simp, odl := by simpa using b3, stl := c3, tll := d3, evr := fun x hx => ?_, odr := fun x hx => ?_, stb := fun y hy => bd3w (c4 y hy) (by omega), tlb := fun y hy => bd3w (d4 y hy) (by omega), fit := unit_fit hn1 hn c3 }⟩
    · unfold m__law_small b__law_small
      rw [runI3]
      simp [a1, hc, b1, okn, ln, hnl, ls, u1, u2, c1, d1, s4, Ru.d, mt, List.map_map, Function.comp_def]
    · obtain ⟨k, _, rfl⟩ := List.mem_map.mp hx
      exact ⟨unit_len _ _, unit_bd _ _⟩
    · obtain ⟨k, _, rfl⟩ := List.mem_map.mp hx
      exact ⟨unit_len _ _, unit_bd _ _⟩
end VL

set_option Elab.async false
set_option linter.all false
set_option maxRecDepth 100000
set_option maxHeartbeats 1000000
/-! Lte: tight bounds of the values, the source. -/
namespace VL
open PySem PySem.Spec PyProof.Rows L2
theorem dot_bd2 {a b : Nat} {xs ys : List Int} (hx : ∀ x ∈ xs, Bd a x) (hy : ∀ y ∈ ys, Bd b y) (hl : xs.length ≤ 2) : Bd (a + b + 2) (dot xs ys) := by
  have h := sum_bd (k := a + b) (List.zipWith (· * ·) xs ys) fun z hz => by
    rw [← zipW_map] at hz
    obtain ⟨p, hp, e⟩ := List.mem_map.mp hz
    subst e
    exact (hx p.1 (List.of_mem_zip hp).1).mul (hy p.2 (List.of_mem_zip hp).2)
  rw [List.length_zipWith] at h
  unfold Bd dot
  have h2 : min xs.length ys.length * 2 ^ (a + b) ≤ 2 * 2 ^ (a + b) := Nat.mul_le_mul_right _ (by omega)
  have h3 : 0 < 2 ^ (a + b) := Nat.two_pow_pos _
  rw [Nat.pow_add]
  omega
theorem Ru.Dr.side {r : Ru} {n : Nat} (h : r.Dr n) (d : Nat) : ∀ x ∈ r.side d, x.length = n ∧ ∀ y ∈ x, Bd 3 y := by
  unfold Ru.side
  by_cases hd : d = 0
  · rw [if_pos hd]; exact h.evr
  · rw [if_neg hd]; exact h.odr
theorem img_bd2 {r : Ru} {n k d : Nat} {v : List Int} (h : r.Dr n) (hv : ∀ y ∈ v, Bd k y) : ∀ y ∈ img (r.side d) v, Bd (k + 5) y := fun y hy => by
  obtain ⟨x, hx, e⟩ := List.mem_map.mp hy
  subst e
  obtain ⟨h1, h2⟩ := h.side d x hx
  exact (dot_bd2 h2 hv (by rw [h1]; exact h.n2)).mono (by omega)
theorem fold_bd2 {r : Ru} {n : Nat} (h : r.Dr n) : ∀ (ds : List Nat) (k : Nat) (v : List Int), (∀ y ∈ v, Bd k y) → ∀ y ∈ ds.foldl (fun v d => img (r.side d) v) v, Bd (k + 5 * ds.length) y
  | [], k, v, hv => hv
  | d :: ds, k, v, hv => fun y hy => by
    have := fold_bd2 h ds (k + 5) (img (r.side d) v) (img_bd2 h hv) y hy
    rw [List.length_cons]
    exact this.mono (by omega)
theorem lns_bd2 {r : Ru} {n m k : Nat} (h : r.Dr n) (hk : k < 2 ^ m) : ∀ y ∈ lns r k, Bd (3 + 5 * m) y := fun y hy => by
  have h1 := bits_len m k hk
  unfold lns at hy
  rw [← List.foldl_reverse] at hy
  have := fold_bd2 h (bits k).reverse 3 r.st h.stb y hy
  rw [List.length_reverse] at this
  exact this.mono (by omega)
theorem source_ok (c : Int) : ∃ m, m__law_source [.int c] = some (.new m) ∧ Src m := by
  have s3 : 3 ≤ sizeLine := by decide
  have hp : dPow (.int 10) (.int 18) = some (vI 1000000000000000000) := by rfl
  by_cases h1 : c < 0
  · refine ⟨_, ?_, ⟨c % 2147483629, (c.natAbs : Int), 0, rfl⟩⟩
    unfold m__law_source b__law_source
    rw [runV1]
    simp [h1, s3, hp]
  · by_cases h2 : 1000000000000000000 ≤ c
    · refine ⟨_, ?_, ⟨c % 2147483629, (c.natAbs : Int), 0, rfl⟩⟩
      unfold m__law_source b__law_source
      rw [runV1]
      simp [h1, h2, s3, hp]
    · refine ⟨_, ?_, ⟨c % 2147483629, 0, 0, rfl⟩⟩
      unfold m__law_source b__law_source
      rw [runV1]
      simp [h1, h2, s3, hp]
end VL

set_option Elab.async false
set_option linter.all false
set_option maxRecDepth 100000
set_option maxHeartbeats 1000000
/-! Ltf: the cell. -/
namespace VL
open PySem PySem.Spec PyProof.Rows L2
theorem cut_take (ds : List D) (w : Nat) : cutD ds none (some (w : Int)) = ds.take w := by
  unfold cutD HT.sIx
  simp
  rw [if_neg (by omega)]
  omega
theorem cell_loop (s0 s1 : Sl) : ∀ (zs : List Int) (st : Int) (s3 : Sl), Pl s3 → ∃ st' s3', forL (.nm 3) (sSet 2 (e2 dMod (eN dInt (aCons (e2 dAdd (e2 dAdd (e2 dMul (fVar 2) (fC (.int 69621))) (e2 dMod (eN dInt (aCons (fVar 3) aNil)) (fC (.int 2147483549)))) (fC (.int 29))) aNil)) (fC (.int 2147483549)))) (iL zs) [s0, s1, .val (.int st), s3] = some (.nx, [s0, s1, .val (.int st'), s3']) ∧ Pl s3'
  | [], st, s3, p3 => ⟨st, s3, rfl, p3⟩
  | z :: zs, st, s3, p3 => by
    have hm : mulOk st 69621 = true := mulOk_r (by decide)
    obtain ⟨st', s3', h1, h2⟩ := cell_loop s0 s1 zs ((st * 69621 + z % 2147483549 + 29) % 2147483549) (.val (.int z)) (Pl.v _)
    refine ⟨st', s3', ?_, h2⟩
    rw [iL_cons, forL_cons]
    simp [p3.fr, hm]
    exact h1
noncomputable def ceB (fe : Ev) (B : Sm) : Sm :=
  (sSeq (sIf (tb (e2 dLt (fVar 1) (eN dLen (aCons (fVar 0) aNil)))) (sRet (e2 dIx (fVar 0) (fVar 1))) sNx)
  (sSeq (sSet 2 fe)
  (sSeq (sFor (.nm 3) (iSq (eSl (fVar 0) pNone (pSome (fC (.int 4))))) B)
  (sRet (fVar 2)))))
section
variable {fe : Ev} {B : Sm} {xs ys : List D} {k : Nat} {d : D} {i j : Int} {s3 : Sl}
theorem ceB_in (h : k < xs.length) (ha : atI xs (k : Int) = some d) : outB (ceB fe B (.val (.fl xs) :: .val (.int (k : Int)) :: List.replicate (4 - 2) .no)) = some (.val d) := by
  have h' : (k : Int) < (xs.length : Int) := by omega
  unfold ceB
  simp [h, h', ha]
theorem ceB_out (h : ¬ k < xs.length) (hf : fe [.val (.fl xs), .val (.int (k : Int)), .no, .no] = some (.val (.int i), [.val (.fl xs), .val (.int (k : Int)), .no, .no])) (hc : cutD xs none (some 4) = ys)
    (hl : forL (.nm 3) B ys [.val (.fl xs), .val (.int (k : Int)), .val (.int i), .no] = some (.nx, [.val (.fl xs), .val (.int (k : Int)), .val (.int j), s3])) :
    outB (ceB fe B (.val (.fl xs) :: .val (.int (k : Int)) :: List.replicate (4 - 2) .no)) = some (.val (.int j)) := by
  have h' : ¬ (k : Int) < (xs.length : Int) := by omega
  unfold ceB
  simp [h, h', hf, hc, hl]
end
theorem ce_gen {a b : Int} {F G : Ev} {env : Env'} (m1 : mulOk 40503 a = true) (m2 : mulOk (40503 * a) b = true) (hF : F env = some (.val (.int a), env)) (hG : G env = some (.val (.int b), env)) : (e2 dAdd (e2 dMul (e2 dMul (fC (.int 40503)) F) G) (fC (.int 617))) env = some (.val (.int (40503 * a * b + 617)), env) := by
  simp [m1, m2, hF, hG]
theorem ce_one (k : Nat) (s0 : Sl) (i : Int) : (e2 dAdd (fVar 1) (fC (.int i))) [s0, .val (.int (k : Int)), .no, .no] = some (.val (.int ((k : Int) + i)), [s0, .val (.int (k : Int)), .no, .no]) := by simp
theorem ce_first {k : Nat} (hk : k < 5) (s0 : Sl) : (e2 dAdd (e2 dMul (e2 dMul (fC (.int 40503)) (e2 dAdd (fVar 1) (fC (.int 3)))) (e2 dAdd (fVar 1) (fC (.int 11)))) (fC (.int 617))) [s0, .val (.int (k : Int)), .no, .no] = some (.val (.int (40503 * ((k : Int) + 3) * ((k : Int) + 11) + 617)), [s0, .val (.int (k : Int)), .no, .no]) :=
  ce_gen (mulOk_r (by omega)) (mulOk_r (by omega)) (ce_one k s0 3) (ce_one k s0 11)
theorem cell_ok (zs : List Int) (hl : zs.length ≤ 63) (k : Nat) (hk : k < 5) : ∃ c, m__law_cell [.fl (iL zs), .int (k : Int)] = some (.val (.int c)) := by
  have hb : b__law_cell = ceB (e2 dAdd (e2 dMul (e2 dMul (fC (.int 40503)) (e2 dAdd (fVar 1) (fC (.int 3)))) (e2 dAdd (fVar 1) (fC (.int 11)))) (fC (.int 617))) (sSet 2 (e2 dMod (eN dInt (aCons (e2 dAdd (e2 dAdd (e2 dMul (fVar 2) (fC (.int 69621))) (e2 dMod (eN dInt (aCons (fVar 3) aNil)) (fC (.int 2147483549)))) (fC (.int 29))) aNil)) (fC (.int 2147483549)))) := rfl
  unfold m__law_cell
  rw [hb, runV2]
  by_cases h : k < (iL zs).length
  · have hz : k < zs.length := by rwa [iL_len] at h
    exact ⟨_, ceB_in h (iL_at hz)⟩
  · obtain ⟨st, s3, g1, g2⟩ := cell_loop (.val (.fl (iL zs))) (.val (.int (k : Int))) (zs.take 4) (40503 * ((k : Int) + 3) * ((k : Int) + 11) + 617) .no Pl.no
    have hc : cutD (iL zs) none (some 4) = iL (zs.take 4) := by
      have := cut_take (iL zs) 4
      unfold iL at *
      rw [List.map_take]
      exact this
    exact ⟨st, ceB_out h (ce_first hk _) hc g1⟩
end VL

set_option Elab.async false
set_option linter.all false
set_option maxRecDepth 100000
set_option maxHeartbeats 1000000
/-! Ltg: thinned rows. -/
namespace VL
open PySem PySem.Spec PyProof.Rows L2
theorem thin_loop (s0 : Sl) : ∀ (zs : List Int) (g : Nat) (s2 : Sl), Pl s2 → ∃ (g' : Nat) (s2' : Sl), forL (.nm 2) (sSet 1 (eCall m__law_divisor (aCons (fz (fVar 1)) (aCons (fz (fVar 2)) aNil)))) (iL zs) [s0, .val (.int (g : Int)), s2] = some (.nx, [s0, .val (.int (g' : Int)), s2']) ∧ Pl s2' ∧ ((g' : Int) ∣ (g : Int)) ∧ (∀ z ∈ zs, (g' : Int) ∣ z) ∧ ((∀ z ∈ zs, z = 0) → g = 0 → g' = 0)
  | [], g, s2, p2 => ⟨g, s2, rfl, p2, Int.dvd_refl _, fun z hz => (by cases hz), fun _ h => h⟩
  | z :: zs, g, s2, p2 => by
    obtain ⟨g', s2', h1, h2, h3, h4, h5⟩ := thin_loop s0 zs (Int.gcd (g : Int) z) (.val (.int z)) (Pl.v _)
    refine ⟨g', s2', ?_, h2, Int.dvd_trans h3 (Int.gcd_dvd_left ..), fun y hy => ?_, fun hz hg => ?_⟩
    · rw [iL_cons, forL_cons]
      simp [p2.fr, ldivisor_eq]
      exact h1
    · rcases List.mem_cons.mp hy with e | hy
      · subst e; exact Int.dvd_trans h3 (Int.gcd_dvd_right ..)
      · exact h4 y hy
    · refine h5 (fun y hy => hz y (List.mem_cons_of_mem _ hy)) ?_
      rw [hg, hz z List.mem_cons_self]
      rfl
/-- what a function gives, be it new or not -/
def gives (o : Option Bv) (m : MO) : Prop := o = some (.val m.toD) ∨ o = some (.new m)
theorem thin_ok (zs : List Int) (hl : zs.length ≤ 100) {b : Nat} (hb : ∀ z ∈ zs, Bd b z) (hb9 : b ≤ 9000) : ∃ (t : List Int) (g : Int), gives (m__law_thin [.lst (iL zs)]) (.lst (iL t)) ∧ 0 < g ∧ zs = t.map (g * ·) := by
  obtain ⟨g, s2, h1, h2, h3, h4, h5⟩ := thin_loop (.val (.lst (iL zs))) zs 0 .no Pl.no
  rw [show ((0 : Nat) : Int) = 0 from rfl] at h1
  have lz : zs.length < sizeLine := sizeLine_l (by omega)
  by_cases hg : 1 < g
  · refine ⟨zs.map (fun z => z / (g : Int)), g, .inr ?_, by omega, ?_⟩
    · have hc : ∀ s0 : Sl, compL [2] (.nm 2) tYs (e2 dFdiv (fVar 2) (fVar 1)) (iL zs) [s0, .val (.int (g : Int)), .no] = some (iL (zs.map (fun z => z / (g : Int))), [s0, .val (.int (g : Int)), .no]) := by
        intro s0
        have := compL_map (vs := [2]) (t := .nm 2) (fe := e2 dFdiv (fVar 2) (fVar 1)) (env := [s0, .val (.int (g : Int)), .no]) D.int (fun z => D.int (z / (g : Int))) zs fun z hz => by
          have hok : divOk (g : Int) = true := by
            have hne : ¬ ∀ z ∈ zs, z = 0 := fun hz => by have := h5 hz rfl; omega
            have ⟨y, hy, hy0⟩ : ∃ y ∈ zs, y ≠ 0 := by
              refine Classical.byContradiction fun hh => hne fun z hz => Classical.byContradiction fun h0 => hh ⟨z, hz, h0⟩
            have h6 := Nat.le_of_dvd (Int.natAbs_pos.mpr hy0) (Int.natAbs_dvd_natAbs.mpr (h4 y hy))
            have h7 := hb y hy
            have h8 : Bd (8999 + 1) (g : Int) := by
              unfold Bd at *
              have := Nat.pow_le_pow_right (n := 2) (by decide) hb9
              omega
            have h9 := h8.log
            unfold divOk
            rw [Bool.and_eq_true]
            exact ⟨decide_eq_true (by omega), decide_eq_true (by omega)⟩
          exact ⟨_, _, by simp; rfl, by simp [hok]; first | rfl | exact ⟨rfl, rfl⟩, by simp, by simp⟩
        unfold iL
        rw [this, List.map_map]
        rfl
      unfold m__law_thin b__law_thin
      rw [runV1]
      have hg' : (1 : Int) < (g : Int) := by omega
      rcases h2 with e | ⟨d, e⟩ <;> subst e <;> simp [h1, hg', hc, lz]
    · rw [List.map_map]
      conv => lhs; rw [← List.map_id zs]
      refine List.map_congr_left fun z hz => ?_
      have := Int.mul_ediv_cancel' (h4 z hz)
      simp [this]
  · refine ⟨zs, 1, .inl ?_, by decide, by simp⟩
    unfold m__law_thin b__law_thin
    rw [runV1]
    have hg' : ¬ (1 : Int) < (g : Int) := by omega
    simp [h1, hg', lz]
end VL

set_option Elab.async false
set_option linter.all false
set_option maxRecDepth 100000
set_option maxHeartbeats 1000000
/-! Lth: fractions. -/
namespace VL
open PySem PySem.Spec PyProof.Rows L2
theorem fraction_ok (t u : Int) (hu : u ≠ 0) {b : Nat} (ht : Bd b t) (hub : Bd b u) (hb : b ≤ 9000) : ∃ p : Int × Int, m__law_fraction [.int t, .int u] = some (.val (fr p)) ∧ frOk p = true ∧ p.1 * u = t * p.2 ∧ Bd b p.1 ∧ Bd b p.2 := by
  have s2 : 2 ≤ sizeLine := by decide
  have gp : 0 < Int.gcd t u := Int.gcd_pos_of_ne_zero_right t hu
  obtain ⟨t', et⟩ := Int.gcd_dvd_left t u
  obtain ⟨u', eu⟩ := Int.gcd_dvd_right t u
  have co : Int.gcd t' u' = 1 := by
    have h1 := Int.gcd_mul_left (Int.gcd t u : Int) t' u'
    rw [← et, ← eu, Int.natAbs_natCast] at h1
    exact Nat.eq_of_mul_eq_mul_left gp (by omega)
  generalize hg : Int.gcd t u = g at *
  have gz : (g : Int) ≠ 0 := by omega
  have glog : g.log2 < 9000 := by
    have h6 : g ≤ u.natAbs := by
      rw [eu, Int.natAbs_mul, Int.natAbs_natCast]
      have : u' ≠ 0 := fun e => by subst e; omega
      exact Nat.le_mul_of_pos_right _ (by omega)
    have h8 : Bd (8999 + 1) (g : Int) := by
      unfold Bd at *
      have := Nat.pow_le_pow_right (n := 2) (by decide) hb
      omega
    have h9 := h8.log
    rw [Int.natAbs_natCast] at h9
    omega
  have le : ∀ {x x' : Int}, x = (g : Int) * x' → Bd b x → Bd b x' := fun {x x'} e h => by
    unfold Bd at *
    rw [e, Int.natAbs_mul, Int.natAbs_natCast] at h
    exact Nat.lt_of_le_of_lt (Nat.le_mul_of_pos_left _ gp) h
  have neg : ∀ {x : Int}, Bd b x → Bd b (-x) := fun {x} h => by
    unfold Bd at *
    rw [Int.natAbs_neg]; exact h
  have f1 : ∀ x : Int, ((g : Int) * x).fdiv g = x := fun x => Int.mul_fdiv_cancel_left x gz
  have f2 : ∀ x : Int, ((g : Int) * x).fdiv (-g) = -x := fun x => by
    have : (g : Int) * x = (-(g : Int)) * (-x) := by rw [Int.neg_mul_neg]
    rw [this]
    exact Int.mul_fdiv_cancel_left _ (by omega)
  have hz : (t = 0 → ¬ u = 0) = True := eq_true fun _ => hu
  have g0 : (g = 0) = False := eq_false (by omega)
  unfold m__law_fraction b__law_fraction
  rw [runV2]
  have lt1 := le et ht
  have lu1 := le eu hub
  by_cases h : 0 < u
  · refine ⟨(t', u'), ?_, ?_, ?_, lt1, lu1⟩
    · simp [h, ldivisor_eq, s2, hg, g0, glog]
      rw [et, eu, f1, f1]
      rfl
    · have : 0 < u' := by
        refine Classical.byContradiction fun hn => ?_
        have := Int.mul_le_mul_of_nonneg_left (a := u') (b := 0) (c := (g : Int)) (by omega) (by omega)
        rw [Int.mul_zero, ← eu] at this
        omega
      unfold frOk
      rw [Bool.and_eq_true]
      exact ⟨decide_eq_true this, decide_eq_true co⟩
    · show t' * u = t * u'
      rw [et, eu, Int.mul_left_comm, Int.mul_assoc]
  · have hm : mulOk (g : Int) (-1) = true := mulOk_r (by decide)
    refine ⟨(-t', -u'), ?_, ?_, ?_, neg lt1, neg lu1⟩
    · simp [h, ldivisor_eq, s2, hg, g0, glog, hm]
      rw [et, eu, f2, f2]
      rfl
    · have : 0 < -u' := by
        refine Classical.byContradiction fun hn => ?_
        have h5 := Int.mul_le_mul_of_nonneg_left (a := 0) (b := u') (c := (g : Int)) (by omega) (by omega)
        rw [Int.mul_zero, ← eu] at h5
        omega
      unfold frOk
      rw [Bool.and_eq_true]
      exact ⟨decide_eq_true this, decide_eq_true (by rw [Int.gcd_neg, Int.neg_gcd]; exact co)⟩
    · show -t' * u = t * -u'
      rw [et, eu, Int.neg_mul, Int.mul_neg, Int.mul_left_comm, Int.mul_assoc]
end VL

set_option Elab.async false
set_option linter.all false
set_option maxRecDepth 100000
set_option maxHeartbeats 1000000
/-! Lti: rows cleared by kept rows. -/
namespace VL
open PySem PySem.Spec PyProof.Rows L2
abbrev Kept := List (Nat × List Int)
def crs (a : Int) (xs : List Int) (b : Int) (ys : List Int) : List Int := List.zipWith (fun x y => a * x - b * y) xs ys
/-- what is left of a row behind kept rows: thinned at each step -/
def Clr : Kept → List Int → List Int → Prop
  | [], row, out => out = row
  | (p, o) :: ks, row, out => (row.getD p 0 = 0 ∧ Clr ks row out) ∨ (row.getD p 0 ≠ 0 ∧ ∃ g t, 0 < g ∧ crs (o.getD p 0) row (row.getD p 0) o = t.map (g * ·) ∧ Clr ks t out)
theorem crs_len (a b : Int) (xs ys : List Int) (h : ys.length = xs.length) : (crs a xs b ys).length = xs.length := by unfold crs; rw [List.length_zipWith]; omega
theorem crs_at (a b : Int) (xs ys : List Int) (h : ys.length = xs.length) {i : Nat} (hi : i < xs.length) : (crs a xs b ys).getD i 0 = a * xs.getD i 0 - b * ys.getD i 0 := by
  unfold crs
  rw [List.getD_eq_getElem?_getD, List.getElem?_zipWith, List.getElem?_eq_getElem hi, List.getElem?_eq_getElem (by omega : i < ys.length)]
  simp [List.getD_eq_getElem?_getD, List.getElem?_eq_getElem hi, List.getElem?_eq_getElem (by omega : i < ys.length)]
theorem map_at (g : Int) (t : List Int) (i : Nat) : (t.map (g * ·)).getD i 0 = g * t.getD i 0 := by
  rw [List.getD_eq_getElem?_getD, List.getElem?_map, List.getD_eq_getElem?_getD]
  cases t[i]? <;> simp
/-- kept rows of a length w: pivots below it and not 0 -/
def KOk (w : Nat) (ks : Kept) : Prop := ∀ k ∈ ks, k.1 < w ∧ k.2.length = w ∧ k.2.getD k.1 0 ≠ 0
theorem Clr.len {w : Nat} : ∀ {ks : Kept} {row out : List Int}, KOk w ks → row.length = w → Clr ks row out → out.length = w
  | [], row, out, _, hr, h => by have : out = row := h; rw [this]; exact hr
  | (p, o) :: ks, row, out, hk, hr, h => by
    have hk' : KOk w ks := fun k hk2 => hk k (List.mem_cons_of_mem _ hk2)
    rcases h with ⟨_, h⟩ | ⟨_, g, t, _, e, h⟩
    · exact h.len hk' hr
    · refine h.len hk' ?_
      have := congrArg List.length e
      rw [crs_len _ _ _ _ (by rw [hr]; exact (hk (p, o) List.mem_cons_self).2.1), List.length_map] at this
      omega
/-- a place that is 0 in all kept rows: zero stays zero, nonzero stays nonzero -/
theorem Clr.zero {w i : Nat} (hi : i < w) : ∀ {ks : Kept} {row out : List Int}, KOk w ks → (∀ k ∈ ks, k.2.getD i 0 = 0) → row.length = w → Clr ks row out → (out.getD i 0 = 0 ↔ row.getD i 0 = 0)
  | [], row, out, _, _, hr, h => by have : out = row := h; rw [this]
  | (p, o) :: ks, row, out, hk, hz, hr, h => by
    have hk' : KOk w ks := fun k hk2 => hk k (List.mem_cons_of_mem _ hk2)
    have hz' : ∀ k ∈ ks, k.2.getD i 0 = 0 := fun k hk2 => hz k (List.mem_cons_of_mem _ hk2)
    obtain ⟨k1, k2, k3⟩ := hk (p, o) List.mem_cons_self
    have z := hz (p, o) List.mem_cons_self
    dsimp only at k1 k2 k3 z
    rcases h with ⟨_, h⟩ | ⟨_, g, t, hg, e, h⟩
    · exact h.zero hi hk' hz' hr
    · have tl : t.length = w := by
        have := congrArg List.length e
        rw [crs_len _ _ _ _ (by omega), List.length_map] at this
        omega
      refine (h.zero hi hk' hz' tl).trans ?_
      have e2 := congrArg (fun l => l.getD i 0) e
      try dsimp only at e2
      rw [crs_at _ _ _ _ (by omega) (by omega), map_at, z, Int.mul_zero, Int.sub_zero] at e2
      constructor
      · intro ht
        rw [ht, Int.mul_zero] at e2
        exact (Int.mul_eq_zero.mp e2).resolve_left k3
      · intro hr0
        rw [hr0, Int.mul_zero] at e2
        exact (Int.mul_eq_zero.mp e2.symm).resolve_left (by omega)
end VL

set_option Elab.async false
set_option linter.all false
set_option maxRecDepth 100000
set_option maxHeartbeats 1000000
/-! Ltj: cleared rows: pivots, scale, size. -/
namespace VL
open PySem PySem.Spec PyProof.Rows L2
def KTri (ks : Kept) : Prop := ks.Pairwise fun a b => b.2.getD a.1 0 = 0
theorem step_at {w p g i : Nat} {o row t : List Int} {G : Int} (hr : row.length = w) (ho : o.length = w) (e : crs (o.getD p 0) row (row.getD p 0) o = t.map (G * ·)) (hi : i < w) : o.getD p 0 * row.getD i 0 - row.getD p 0 * o.getD i 0 = G * t.getD i 0 := by
  have e2 := congrArg (fun l => l.getD i 0) e
  rwa [crs_at _ _ _ _ (by omega) (by omega), map_at] at e2
theorem step_len {w p : Nat} {o row t : List Int} {G : Int} (hr : row.length = w) (ho : o.length = w) (e : crs (o.getD p 0) row (row.getD p 0) o = t.map (G * ·)) : t.length = w := by
  have := congrArg List.length e
  rw [crs_len _ _ _ _ (by omega), List.length_map] at this
  omega
theorem Clr.piv {w : Nat} : ∀ {ks : Kept} {row out : List Int}, KOk w ks → KTri ks → row.length = w → Clr ks row out → ∀ k ∈ ks, out.getD k.1 0 = 0
  | [], row, out, _, _, hr, h => fun k hk => by cases hk
  | (p, o) :: ks, row, out, hk, ht, hr, h => fun k hkm => by
    have hk' : KOk w ks := fun k hk2 => hk k (List.mem_cons_of_mem _ hk2)
    obtain ⟨t1, t2⟩ := List.pairwise_cons.mp ht
    obtain ⟨k1, k2, k3⟩ := hk (p, o) List.mem_cons_self
    dsimp only at k1 k2 k3
    rcases h with ⟨z, h⟩ | ⟨_, g, t, hg, e, h⟩
    · rcases List.mem_cons.mp hkm with e2 | hkm
      · subst e2; exact (h.zero k1 hk' t1 hr).mpr z
      · exact h.piv hk' t2 hr k hkm
    · have tl := step_len hr k2 e
      rcases List.mem_cons.mp hkm with e2 | hkm
      · subst e2
        refine (h.zero k1 hk' t1 tl).mpr ?_
        have := step_at (g := 0) hr k2 e k1
        rw [Int.mul_comm, Int.sub_self] at this
        exact (Int.mul_eq_zero.mp this.symm).resolve_left (by omega)
      · exact h.piv hk' t2 tl k hkm
/-- the same up to a factor on the first v places -/
def Pp (v : Nat) (xs ys : List Int) : Prop := ∃ a b : Int, a ≠ 0 ∧ b ≠ 0 ∧ ∀ i < v, a * xs.getD i 0 = b * ys.getD i 0
theorem Pp.zero {v : Nat} {xs ys : List Int} (h : Pp v xs ys) {i : Nat} (hi : i < v) : xs.getD i 0 = 0 ↔ ys.getD i 0 = 0 := by
  obtain ⟨a, b, ha, hb, h⟩ := h
  have := h i hi
  constructor
  · intro e
    rw [e, Int.mul_zero] at this
    exact (Int.mul_eq_zero.mp this.symm).resolve_left hb
  · intro e
    rw [e, Int.mul_zero] at this
    exact (Int.mul_eq_zero.mp this).resolve_left ha
theorem Clr.prop {w v : Nat} (hv : v ≤ w) : ∀ {ks : Kept} {r1 r2 o1 o2 : List Int}, KOk w ks → (∀ k ∈ ks, k.1 < v) → r1.length = w → r2.length = w → Pp v r1 r2 → Clr ks r1 o1 → Clr ks r2 o2 → Pp v o1 o2
  | [], r1, r2, o1, o2, _, _, _, _, hp, h1, h2 => by
    have e1 : o1 = r1 := h1
    have e2 : o2 = r2 := h2
    rw [e1, e2]; exact hp
  | (p, o) :: ks, r1, r2, o1, o2, hk, hkv, hr1, hr2, hp, h1, h2 => by
    have hk' : KOk w ks := fun k hk2 => hk k (List.mem_cons_of_mem _ hk2)
    have hkv' : ∀ k ∈ ks, k.1 < v := fun k hk2 => hkv k (List.mem_cons_of_mem _ hk2)
    obtain ⟨k1, k2, k3⟩ := hk (p, o) List.mem_cons_self
    have pv := hkv (p, o) List.mem_cons_self
    dsimp only at k1 k2 k3 pv
    rcases h1 with ⟨z1, h1⟩ | ⟨z1, g1, t1, hg1, e1, h1⟩
    · rcases h2 with ⟨z2, h2⟩ | ⟨z2, g2, t2, hg2, e2, h2⟩
      · exact Clr.prop hv hk' hkv' hr1 hr2 hp h1 h2
      · exact absurd ((hp.zero pv).mp z1) z2
    · rcases h2 with ⟨z2, h2⟩ | ⟨z2, g2, t2, hg2, e2, h2⟩
      · exact absurd ((hp.zero pv).mpr z2) z1
      · refine Clr.prop hv hk' hkv' (step_len hr1 k2 e1) (step_len hr2 k2 e2) ?_ h1 h2
        obtain ⟨a, b, ha, hb, h⟩ := hp
        refine ⟨a * g1, b * g2, fun e => ?_, fun e => ?_, fun i hi => ?_⟩
        · rcases Int.mul_eq_zero.mp e with e | e <;> omega
        · rcases Int.mul_eq_zero.mp e with e | e <;> omega
        · rw [Int.mul_assoc, Int.mul_assoc, ← step_at (g := 0) hr1 k2 e1 (by omega), ← step_at (g := 0) hr2 k2 e2 (by omega), Int.mul_sub, Int.mul_sub, Int.mul_left_comm a, h i hi, ← Int.mul_assoc a, h p pv, Int.mul_left_comm b, ← Int.mul_assoc b (r2.getD p 0)]
end VL

set_option Elab.async false
set_option linter.all false
set_option maxRecDepth 100000
set_option maxHeartbeats 1000000
/-! Ltk: cleared rows: size. -/
namespace VL
open PySem PySem.Spec PyProof.Rows L2
def szK (j : Nat) : Nat := 30 * 2 ^ j - 1
theorem szK_succ (j : Nat) : szK j + szK j + 1 = szK (j + 1) := by
  unfold szK
  have : 0 < 2 ^ j := Nat.two_pow_pos _
  rw [Nat.pow_succ]; omega
theorem szK_mono {i j : Nat} (h : i ≤ j) : szK i ≤ szK j := by
  unfold szK
  have := Nat.pow_le_pow_right (n := 2) (by decide) h
  omega
theorem sub_bd {k : Nat} {x y : Int} (hx : Bd k x) (hy : Bd k y) : Bd (k + 1) (x - y) := by
  unfold Bd at *
  rw [Nat.pow_succ]; omega
theorem getD_bdz {k : Nat} {xs : List Int} (h : ∀ x ∈ xs, Bd k x) (i : Nat) : Bd k (xs.getD i 0) := by
  rw [List.getD_eq_getElem?_getD]
  by_cases hi : i < xs.length
  · rw [List.getElem?_eq_getElem hi]
    exact h _ (List.getElem_mem hi)
  · rw [List.getElem?_eq_none (by omega)]
    exact Nat.two_pow_pos _
def KBd : Nat → Kept → Prop
  | _, [] => True
  | j, (_, o) :: ks => (∀ x ∈ o, Bd (szK j) x) ∧ KBd (j + 1) ks
theorem crs_bd {k : Nat} {a b : Int} (ha : Bd k a) (hb : Bd k b) : ∀ {xs ys : List Int}, (∀ x ∈ xs, Bd k x) → (∀ y ∈ ys, Bd k y) → ∀ z ∈ crs a xs b ys, Bd (k + k + 1) z
  | [], ys, _, _, z, hz => by simp [crs] at hz
  | x :: xs, [], _, _, z, hz => by simp [crs] at hz
  | x :: xs, y :: ys, hx, hy, z, hz => by
    rw [show crs a (x :: xs) b (y :: ys) = (a * x - b * y) :: crs a xs b ys from rfl] at hz
    rcases List.mem_cons.mp hz with e | hz
    · rw [e]
      exact sub_bd (ha.mul (hx x List.mem_cons_self)) (hb.mul (hy y List.mem_cons_self))
    · exact crs_bd ha hb (fun x h => hx x (List.mem_cons_of_mem _ h)) (fun y h => hy y (List.mem_cons_of_mem _ h)) z hz
theorem step_bd {k p : Nat} {o row t : List Int} {G : Int} (hG : 0 < G) (hr : ∀ x ∈ row, Bd k x) (ho : ∀ x ∈ o, Bd k x) (e : crs (o.getD p 0) row (row.getD p 0) o = t.map (G * ·)) : ∀ x ∈ t, Bd (k + k + 1) x := fun x hx => by
  have h1 := crs_bd (getD_bdz ho p) (getD_bdz hr p) hr ho (G * x) (by rw [e]; exact List.mem_map.mpr ⟨x, hx, rfl⟩)
  unfold Bd at *
  rw [Int.natAbs_mul] at h1
  exact Nat.lt_of_le_of_lt (Nat.le_mul_of_pos_left _ (by omega)) h1
theorem Clr.bd : ∀ {ks : Kept} {row out : List Int} {j : Nat}, KBd j ks → (∀ x ∈ row, Bd (szK j) x) → Clr ks row out → ∀ x ∈ out, Bd (szK (j + ks.length)) x
  | [], row, out, j, _, hr, h => by have e : out = row := h; rw [e]; exact hr
  | (p, o) :: ks, row, out, j, hk, hr, h => by
    obtain ⟨k1, k2⟩ := hk
    rw [List.length_cons, show j + (ks.length + 1) = (j + 1) + ks.length by omega]
    rcases h with ⟨_, h⟩ | ⟨_, g, t, hg, e, h⟩
    · exact h.bd k2 fun x hx => (hr x hx).mono (szK_mono (by omega))
    · refine h.bd k2 fun x hx => ?_
      have := step_bd hg hr k1 e x hx
      rwa [szK_succ] at this
end VL

set_option Elab.async false
set_option linter.all false
set_option maxRecDepth 100000
set_option maxHeartbeats 1000000
/-! Ltl: m__law_cleared clears. -/
namespace VL
open PySem PySem.Spec PyProof.Rows L2
/-- a slot that has it, be it the caller's or one's own -/
def Hs (s : Sl) (m : MO) : Prop := s = .val m.toD ∨ s = .own m
theorem Hs.fr {s : Sl} {m : MO} (h : Hs s m) : s.free = true := by rcases h with rfl | rfl <;> rfl
def kD (k : Nat × List Int) : D := .tup [.int (k.1 : Int), .lst (iL k.2)]
def keptD (ks : Kept) : D := .lst (ks.map kD)
def keptMO (ks : Kept) : MO := .lst (ks.map kD)
noncomputable def clB : Sm := (sIf (tb (e2 dNe (e2 dIx (fVar 0) (fVar 2)) (fC (.int 0)))) (sSeq (sPar [4, 5] (sCons (e2 dIx (fVar 3) (fVar 2)) (sCons (e2 dIx (fVar 0) (fVar 2)) sNil)))
  (sSet 0 (eCall m__law_thin (aCons (fz (eComp [6] (.nm 6) (iRan1 (aCons (eN dLen (aCons (fVar 0) aNil)) aNil)) tYs (e2 dSub (e2 dMul (fVar 4) (e2 dIx (fVar 0) (fVar 6))) (e2 dMul (fVar 5) (e2 dIx (fVar 3) (fVar 6)))))) aNil)))) sNx)
theorem crs_range (a b : Int) (xs ys : List Int) (h : ys.length = xs.length) : (List.range xs.length).map (fun j => a * xs.getD j 0 - b * ys.getD j 0) = crs a xs b ys := by
  refine List.ext_getElem (by rw [List.length_map, List.length_range, crs_len _ _ _ _ h]) fun i h1 h2 => ?_
  have hi : i < xs.length := by rw [List.length_map, List.length_range] at h1; exact h1
  have := crs_at a b xs ys h hi
  rw [List.getD_eq_getElem?_getD, List.getElem?_eq_getElem h2] at this
  rw [List.getElem_map, List.getElem_range, ← this]
  rfl
theorem cl_comp (a b : Int) (row o : List Int) (hl : o.length = row.length) (hm1 : ∀ j, mulOk a (row.getD j 0) = true) (hm2 : ∀ j, mulOk b (o.getD j 0) = true) (s0 s1 s2 : Sl) (h0 : Hs s0 (.lst (iL row))) :
    compL [6] (.nm 6) tYs (e2 dSub (e2 dMul (fVar 4) (e2 dIx (fVar 0) (fVar 6))) (e2 dMul (fVar 5) (e2 dIx (fVar 3) (fVar 6)))) (nL (List.range row.length)) [s0, s1, s2, .val (.lst (iL o)), .val (.int a), .val (.int b), .no] =
      some (iL (crs a row b o), [s0, s1, s2, .val (.lst (iL o)), .val (.int a), .val (.int b), .no]) := by
  have := compL_map (vs := [6]) (t := .nm 6) (fe := e2 dSub (e2 dMul (fVar 4) (e2 dIx (fVar 0) (fVar 6))) (e2 dMul (fVar 5) (e2 dIx (fVar 3) (fVar 6)))) (env := [s0, s1, s2, .val (.lst (iL o)), .val (.int a), .val (.int b), .no])
    (fun (n : Nat) => D.int (n : Int)) (fun j => D.int (a * row.getD j 0 - b * o.getD j 0)) (List.range row.length) fun j hj => by
      have hj' := List.mem_range.mp hj
      have a1 := iL_at (v := row) (j := j) hj'
      have a2 := iL_at (v := o) (j := j) (by omega)
      have m1 := hm1 j
      have m2 := hm2 j
      generalize row.getD j 0 = x at *
      generalize o.getD j 0 = y at *
      rcases h0 with rfl | rfl
      · exact ⟨_, _, by simp; rfl, by simp [a1, a2, m1, m2]; first | rfl | exact ⟨rfl, rfl⟩, by simp, by simp⟩
      · exact ⟨_, _, by simp; rfl, by simp [a1, a2, m1, m2]; first | rfl | exact ⟨rfl, rfl⟩, by simp, by simp⟩
  unfold nL
  rw [this, map_iL, crs_range a b row o hl]
theorem Hs_of_gives {f : List D → Option Bv} {ds : List D} {m : MO} (h : gives (f ds) m) : ∃ b, f ds = some b ∧ (b = .val m.toD ∨ b = .new m) := by
  rcases h with e | e
  · exact ⟨_, e, .inl rfl⟩
  · exact ⟨_, e, .inr rfl⟩
theorem cl_turn {w p k : Nat} {row o : List Int} (hp : p < w) (hw : w ≤ 9) (hk : k ≤ 1000) (hr : row.length = w) (ho : o.length = w) (br : ∀ x ∈ row, Bd k x) (bo : ∀ x ∈ o, Bd k x) (s0 s1 s4 s5 : Sl) (h0 : Hs s0 (.lst (iL row))) (p4 : Pl s4) (p5 : Pl s5) :
    ∃ t s0' s4' s5', clB [s0, s1, .val (.int (p : Int)), .val (.lst (iL o)), s4, s5, .no] = some (.nx, [s0', s1, .val (.int (p : Int)), .val (.lst (iL o)), s4', s5', .no]) ∧ Hs s0' (.lst (iL t)) ∧ Pl s4' ∧ Pl s5' ∧
      ((row.getD p 0 = 0 ∧ t = row) ∨ (row.getD p 0 ≠ 0 ∧ ∃ g, 0 < g ∧ crs (o.getD p 0) row (row.getD p 0) o = t.map (g * ·))) := by
  have a1 := iL_at (v := row) (j := p) (by omega)
  have a2 := iL_at (v := o) (j := p) (by omega)
  have b1 := getD_bdz br p
  have b2 := getD_bdz bo p
  have m1 : ∀ j, mulOk (o.getD p 0) (row.getD j 0) = true := fun j => b2.ok (getD_bdz br j)
  have m2 : ∀ j, mulOk (row.getD p 0) (o.getD j 0) = true := fun j => b1.ok (getD_bdz bo j)
  have hcr := crs_bd b2 b1 br bo
  generalize row.getD p 0 = x at *
  generalize o.getD p 0 = y at *
  by_cases hx : x = 0
  · refine ⟨row, s0, s4, s5, ?_, h0, p4, p5, .inl ⟨hx, rfl⟩⟩
    unfold clB
    rcases h0 with rfl | rfl <;> simp [a1, hx]
  · obtain ⟨t, g, h1, h2, h3⟩ := thin_ok (crs y row x o) (by rw [crs_len _ _ _ _ (by omega)]; omega) hcr (by omega)
    have okn : okR (row.length : Int) = true := okR_nat (by omega)
    have ln : row.length < sizeLine := sizeLine_l (by omega)
    have lc : (crs y row x o).length ≤ sizeLine := by
      rw [crs_len _ _ _ _ (by omega)]; omega
    have hc := cl_comp y x row o (by omega) m1 m2 s0 s1 (.val (.int (p : Int))) h0
    rcases h1 with e | e
    · refine ⟨t, .val (.lst (iL t)), .val (.int y), .val (.int x), ?_, .inl rfl, Pl.v _, Pl.v _, .inr ⟨hx, g, h2, h3⟩⟩
      unfold clB
      rcases h0 with rfl | rfl <;> (try simp only [toD_lst] at hc) <;> simp [a1, a2, hx, p4.fr, p5.fr, okn, from0, ln, hc, e]
    · refine ⟨t, .own (.lst (iL t)), .val (.int y), .val (.int x), ?_, .inr rfl, Pl.v _, Pl.v _, .inr ⟨hx, g, h2, h3⟩⟩
      unfold clB
      rcases h0 with rfl | rfl <;> (try simp only [toD_lst] at hc) <;> simp [a1, a2, hx, p4.fr, p5.fr, okn, from0, ln, hc, e]
theorem cl_loop {w : Nat} (hw : w ≤ 9) : ∀ (ks : Kept) (row : List Int) (j : Nat) (s0 s1 s2 s3 s4 s5 : Sl), j + ks.length ≤ 5 → KOk w ks → KBd j ks → row.length = w → (∀ x ∈ row, Bd (szK j) x) → Hs s0 (.lst (iL row)) → Pl s2 → Pl s3 → Pl s4 → Pl s5 →
    ∃ out s0' s2' s3' s4' s5', forL (.tp [.nm 2, .nm 3]) clB (ks.map kD) [s0, s1, s2, s3, s4, s5, .no] = some (.nx, [s0', s1, s2', s3', s4', s5', .no]) ∧ Hs s0' (.lst (iL out)) ∧ Clr ks row out
  | [], row, j, s0, s1, s2, s3, s4, s5, _, _, _, _, _, h0, _, _, _, _ => ⟨row, s0, s2, s3, s4, s5, rfl, h0, rfl⟩
  | (p, o) :: ks, row, j, s0, s1, s2, s3, s4, s5, hj, hk, hb, hr, br, h0, p2, p3, p4, p5 => by
    rw [List.length_cons] at hj
    have hk' : KOk w ks := fun k hk2 => hk k (List.mem_cons_of_mem _ hk2)
    obtain ⟨k1, k2, k3⟩ := hk (p, o) List.mem_cons_self
    obtain ⟨c1, c2⟩ := hb
    dsimp only at k1 k2 k3
    have hs4 : szK j ≤ 1000 := Nat.le_trans (szK_mono (show j ≤ 5 by omega)) (by decide)
    obtain ⟨t, s0', s4', s5', g1, g2, g3, g4, g5⟩ := cl_turn k1 hw hs4 hr k2 br c1 s0 s1 s4 s5 h0 p4 p5
    have tl : t.length = w := by
      rcases g5 with ⟨_, e⟩ | ⟨_, g, hg, e⟩
      · rw [e]; exact hr
      · exact step_len hr k2 e
    have tb' : ∀ x ∈ t, Bd (szK (j + 1)) x := by
      rcases g5 with ⟨_, e⟩ | ⟨_, g, hg, e⟩
      · rw [e]; exact fun x hx => (br x hx).mono (szK_mono (by omega))
      · intro x hx
        have := step_bd hg br c1 e x hx
        rwa [szK_succ] at this
    obtain ⟨out, u0, u2, u3, u4, u5, i1, i2, i3⟩ := cl_loop hw ks t (j + 1) s0' s1 (.val (.int (p : Int))) (.val (.lst (iL o))) s4' s5' (by omega) hk' c2 tl tb' g2 (Pl.v _) (Pl.v _) g3 g4
    refine ⟨out, u0, u2, u3, u4, u5, ?_, i2, ?_⟩
    · rw [List.map_cons, forL_cons]
      have ha : asg (.tp [.nm 2, .nm 3]) (kD (p, o)) [s0, s1, s2, s3, s4, s5, .no] = some [s0, s1, .val (.int (p : Int)), .val (.lst (iL o)), s4, s5, .no] := by
        unfold kD
        simp [p2.fr, p3.fr]
      rw [ha]
      dsimp only
      rw [g1]
      exact i1
    · rcases g5 with ⟨e0, e⟩ | ⟨e0, g, hg, e⟩
      · subst e; exact .inl ⟨e0, i3⟩
      · exact .inr ⟨e0, g, t, hg, e, i3⟩
theorem cleared_ok {w : Nat} (hw : w ≤ 9) {ks : Kept} {row : List Int} (hl : ks.length ≤ 5) (hk : KOk w ks) (hb : KBd 0 ks) (hr : row.length = w) (br : ∀ x ∈ row, Bd (szK 0) x) : ∃ out, gives (m__law_cleared [.lst (iL row), keptD ks]) (.lst (iL out)) ∧ Clr ks row out := by
  obtain ⟨out, s0, s2, s3, s4, s5, h1, h2, h3⟩ := cl_loop hw ks row 0 (.val (.lst (iL row))) (.val (keptD ks)) .no .no .no .no (by omega) hk hb hr br (.inl rfl) Pl.no Pl.no Pl.no Pl.no
  refine ⟨out, ?_, h3⟩
  unfold m__law_cleared b__law_cleared
  rw [runV2]
  unfold clB at h1
  unfold keptD at *
  rcases h2 with rfl | rfl
  · refine .inl ?_
    simp [h1]
  · refine .inr ?_
    simp [h1]
end VL

set_option Elab.async false
set_option linter.all false
set_option maxRecDepth 100000
set_option maxHeartbeats 1000000
/-! Ltm: what holds of kept rows. -/
namespace VL
open PySem PySem.Spec PyProof.Rows L2
theorem pigeon : ∀ (n : Nat) (l : List Nat), l.Nodup → (∀ x ∈ l, x < n) → l.length ≤ n
  | 0, [], _, _ => Nat.le_refl 0
  | 0, x :: l, _, h => absurd (h x List.mem_cons_self) (by omega)
  | n + 1, l, hn, h => by
    by_cases hm : n ∈ l
    · have := pigeon n (l.erase n) (hn.erase n) fun x hx => by
        obtain ⟨h1, h2⟩ := hn.mem_erase_iff.mp hx
        have := h x h2
        omega
      rw [List.length_erase_of_mem hm] at this
      omega
    · have := pigeon n l hn fun x hx => by
        have h1 := h x hx
        have h2 : x ≠ n := fun e => hm (e ▸ hx)
        omega
      omega
theorem KBd_app : ∀ {ks : Kept} {j p : Nat} {o : List Int}, KBd j ks → (∀ x ∈ o, Bd (szK (j + ks.length)) x) → KBd j (ks ++ [(p, o)])
  | [], j, p, o, _, h => ⟨h, trivial⟩
  | (q, r) :: ks, j, p, o, hk, h => by
    obtain ⟨k1, k2⟩ := hk
    refine ⟨k1, KBd_app k2 ?_⟩
    rw [List.length_cons] at h
    rw [show j + 1 + ks.length = j + (ks.length + 1) by omega]
    exact h
structure KInv (n : Nat) (ks : Kept) : Prop where
  ok : KOk (2 * n + 1) ks
  lt : ∀ k ∈ ks, k.1 < n
  tri : KTri ks
  bd : KBd 0 ks
  z : ∀ k ∈ ks, k.2.getD (2 * n) 0 = 0
theorem KInv.nil (n : Nat) : KInv n [] where
  ok := fun k hk => by cases hk
  lt := fun k hk => by cases hk
  tri := List.Pairwise.nil
  bd := trivial
  z := fun k hk => by cases hk
theorem KInv.nodup {n : Nat} {ks : Kept} (h : KInv n ks) : (ks.map (·.1)).Nodup := by
  unfold List.Nodup
  rw [List.pairwise_map]
  refine List.Pairwise.imp_of_mem ?_ h.tri
  intro a b ha hb hab e
  have h3 := (h.ok b hb).2.2
  rw [← e] at h3
  exact h3 hab
theorem KInv.len {n : Nat} {ks : Kept} (h : KInv n ks) : ks.length ≤ n := by
  have := pigeon n (ks.map (·.1)) h.nodup fun x hx => by
    obtain ⟨k, hk, e⟩ := List.mem_map.mp hx
    subst e; exact h.lt k hk
  rwa [List.length_map] at this
theorem KInv.len_lt {n : Nat} {ks : Kept} (h : KInv n ks) {p : Nat} (hp : p < n) (hnp : ∀ k ∈ ks, k.1 ≠ p) : ks.length < n := by
  have := pigeon n (p :: ks.map (·.1)) (List.nodup_cons.mpr ⟨fun hm => by
    obtain ⟨k, hk, e⟩ := List.mem_map.mp hm
    exact hnp k hk e, h.nodup⟩) fun x hx => by
    rcases List.mem_cons.mp hx with e | hx
    · omega
    · obtain ⟨k, hk, e⟩ := List.mem_map.mp hx
      subst e; exact h.lt k hk
  rw [List.length_cons, List.length_map] at this
  omega
/-- the row by which factors are found; the row that is kept -/
def fRow (aim : List Int) : List Int := aim ++ List.replicate aim.length 0 ++ [1]
def kRow (aim : List Int) (i : Nat) : List Int := aim ++ (List.range (aim.length + 1)).map fun j => if j = i then 1 else 0
theorem fRow_len (aim : List Int) : (fRow aim).length = 2 * aim.length + 1 := by unfold fRow; simp; omega
theorem kRow_len (aim : List Int) (i : Nat) : (kRow aim i).length = 2 * aim.length + 1 := by unfold kRow; simp; omega
theorem app_l {xs ys : List Int} {i : Nat} (h : i < xs.length) : (xs ++ ys).getD i 0 = xs.getD i 0 := by
  rw [List.getD_eq_getElem?_getD, List.getD_eq_getElem?_getD, List.getElem?_append_left h]
theorem app_r {xs ys : List Int} {i : Nat} (h : xs.length ≤ i) : (xs ++ ys).getD i 0 = ys.getD (i - xs.length) 0 := by
  rw [List.getD_eq_getElem?_getD, List.getD_eq_getElem?_getD, List.getElem?_append_right h]
theorem fRow_at (aim : List Int) {i : Nat} (h : i < aim.length) : (fRow aim).getD i 0 = aim.getD i 0 := by
  unfold fRow
  rw [List.append_assoc, app_l h]
theorem kRow_at (aim : List Int) (j : Nat) {i : Nat} (h : i < aim.length) : (kRow aim j).getD i 0 = aim.getD i 0 := by
  unfold kRow
  rw [app_l h]
theorem fRow_last (aim : List Int) : (fRow aim).getD (2 * aim.length) 0 = 1 := by
  unfold fRow
  rw [app_r (by simp; omega)]
  have e : 2 * aim.length - (aim ++ List.replicate aim.length (0 : Int)).length = 0 := by simp; omega
  rw [e]
  rfl
theorem kRow_last (aim : List Int) {i : Nat} (h : i < aim.length) : (kRow aim i).getD (2 * aim.length) 0 = 0 := by
  unfold kRow
  rw [app_r (by omega), List.getD_eq_getElem?_getD, List.getElem?_map, List.getElem?_range (by omega)]
  show (if 2 * aim.length - aim.length = i then (1 : Int) else 0) = 0
  rw [if_neg (by omega)]
theorem fRow_bd {aim : List Int} {k : Nat} (h : ∀ x ∈ aim, Bd k x) (hk : 1 ≤ k) : ∀ x ∈ fRow aim, Bd k x := fun x hx => by
  have h01 : Bd k 0 ∧ Bd k 1 := ⟨(show Bd 1 0 by unfold Bd; decide).mono hk, (show Bd 1 1 by unfold Bd; decide).mono hk⟩
  unfold fRow at hx
  rcases List.mem_append.mp hx with hx | hx
  · rcases List.mem_append.mp hx with hx | hx
    · exact h x hx
    · rw [(List.mem_replicate.mp hx).2]; exact h01.1
  · rw [List.mem_singleton.mp hx]; exact h01.2
theorem kRow_bd {aim : List Int} {i k : Nat} (h : ∀ x ∈ aim, Bd k x) (hk : 1 ≤ k) : ∀ x ∈ kRow aim i, Bd k x := fun x hx => by
  have h01 : Bd k 0 ∧ Bd k 1 := ⟨(show Bd 1 0 by unfold Bd; decide).mono hk, (show Bd 1 1 by unfold Bd; decide).mono hk⟩
  unfold kRow at hx
  rcases List.mem_append.mp hx with hx | hx
  · exact h x hx
  · obtain ⟨j, _, e⟩ := List.mem_map.mp hx
    subst e
    split
    · exact h01.2
    · exact h01.1
/-- the kept rows with one more -/
theorem KInv.more {n p : Nat} {ks : Kept} {aim o1 o2 : List Int} (h : KInv n ks) (ha : aim.length = n) (hb : ∀ x ∈ aim, Bd (szK 0) x) (h1 : Clr ks (fRow aim) o1) (hi : ∃ i < n, o1.getD i 0 ≠ 0) (h2 : Clr ks (kRow aim ks.length) o2) :
    (∃ i < n, o2.getD i 0 ≠ 0) ∧ (p < n → o2.getD p 0 ≠ 0 → KInv n (ks ++ [(p, o2)])) := by
  have hlen := kRow_len aim ks.length
  have hfl := fRow_len aim
  rw [ha] at hlen hfl
  have hpp : Pp n o1 o2 := Clr.prop (w := 2 * n + 1) (by omega) h.ok h.lt hfl hlen ⟨1, 1, by decide, by decide, fun i hi => by
    rw [fRow_at aim (by omega), kRow_at aim _ (by omega)]⟩ h1 h2
  refine ⟨?_, fun hp hz => ?_⟩
  · obtain ⟨i, hi, e⟩ := hi
    exact ⟨i, hi, fun e2 => e ((hpp.zero hi).mpr e2)⟩
  · have hpiv := h2.piv h.ok h.tri hlen
    have hll := h.len_lt hp fun k hk e => hz (by rw [← e]; exact hpiv k hk)
    have holen := h2.len h.ok hlen
    refine { ok := fun k hk => ?_, lt := fun k hk => ?_, tri := ?_, bd := ?_, z := fun k hk => ?_ }
    · rcases List.mem_append.mp hk with hk | hk
      · exact h.ok k hk
      · rw [List.mem_singleton.mp hk]
        exact ⟨by show p < 2 * n + 1; omega, holen, hz⟩
    · rcases List.mem_append.mp hk with hk | hk
      · exact h.lt k hk
      · rw [List.mem_singleton.mp hk]; exact hp
    · unfold KTri
      rw [List.pairwise_append]
      refine ⟨h.tri, List.pairwise_singleton .., fun a ha b hb => ?_⟩
      rw [List.mem_singleton.mp hb]
      exact hpiv a ha
    · refine KBd_app h.bd ?_
      exact h2.bd h.bd (kRow_bd hb (by decide))
    · rcases List.mem_append.mp hk with hk | hk
      · exact h.z k hk
      · rw [List.mem_singleton.mp hk]
        refine (h2.zero (i := 2 * n) (by omega) h.ok h.z hlen).mpr ?_
        rw [← ha]
        exact kRow_last aim (by omega)
end VL

set_option Elab.async false
set_option linter.all false
set_option maxRecDepth 100000
set_option maxHeartbeats 1000000
/-! Ltn: m__law_factors. -/
namespace VL
open PySem PySem.Spec PyProof.Rows L2
theorem iL_app (a b : List Int) : iL a ++ iL b = iL (a ++ b) := by unfold iL; rw [List.map_append]
theorem iL_take (a : List Int) (n : Nat) : (iL a).take n = iL (a.take n) := by unfold iL; rw [List.map_take]
theorem zeros_mul {n : Nat} (hn : n ≤ 100) : dMul (.lst [.int 0]) (.int (n : Int)) = some (.new (.lst (iL (List.replicate n 0)))) := by
  have z := sizeLine_n (n := n) (by omega)
  have t0 : ((n : Int)).toNat = n := by omega
  rw [dMul_lst, if_pos ⟨by omega, by omega, by rw [t0, List.length_singleton, Nat.one_mul]; exact z⟩, t0, zeros]
theorem take_zero {n : Nat} {o : List Int} (h : n ≤ o.length) : o.take n = List.replicate n 0 ↔ ∀ i < n, o.getD i 0 = 0 := by
  constructor
  · intro e i hi
    have := congrArg (fun l => l.getD i 0) e
    simp only [List.getD_eq_getElem?_getD, List.getElem?_take, List.getElem?_replicate, hi, if_true] at this
    rw [List.getD_eq_getElem?_getD]
    exact this
  · intro e
    refine List.ext_getElem (by rw [List.length_take, List.length_replicate]; omega) fun i h1 h2 => ?_
    have hi : i < n := by rw [List.length_replicate] at h2; exact h2
    have := e i hi
    rw [List.getD_eq_getElem?_getD, List.getElem?_eq_getElem (by omega)] at this
    rw [List.getElem_take, List.getElem_replicate]
    exact this
theorem fac_comp {n : Nat} {o : List Int} {F : Nat → Int × Int} {m : Nat} (ho : o.length = 2 * n + 1) (hm : m ≤ n) (hF : ∀ j, m__law_fraction [.int (-(o.getD (n + j) 0)), .int (o.getD (2 * n) 0)] = some (.val (fr (F j)))) (s0 s1 s3 : Sl) (h3 : Hs s3 (.lst (iL o))) :
    compL [4] (.nm 4) tYs (eCall m__law_fraction (aCons (fz (e1 dNeg (e2 dIx (fVar 3) (e2 dAdd (fVar 2) (fVar 4))))) (aCons (fz (e2 dIx (fVar 3) (e2 dMul (fC (.int 2)) (fVar 2)))) aNil))) (nL (List.range m)) [s0, s1, .val (.int (n : Int)), s3, .no] =
      some (frL ((List.range m).map F), [s0, s1, .val (.int (n : Int)), s3, .no]) := by
  have := compL_map (vs := [4]) (t := .nm 4) (fe := eCall m__law_fraction (aCons (fz (e1 dNeg (e2 dIx (fVar 3) (e2 dAdd (fVar 2) (fVar 4))))) (aCons (fz (e2 dIx (fVar 3) (e2 dMul (fC (.int 2)) (fVar 2)))) aNil))) (env := [s0, s1, .val (.int (n : Int)), s3, .no])
    (fun (n : Nat) => D.int (n : Int)) (fun j => fr (F j)) (List.range m) fun j hj => by
      have hj' := List.mem_range.mp hj
      have a1 := iL_at (v := o) (j := n + j) (by omega)
      have a2 := iL_at (v := o) (j := 2 * n) (by omega)
      have e1 : ((n + j : Nat) : Int) = (n : Int) + (j : Int) := by omega
      have e2 : ((2 * n : Nat) : Int) = 2 * (n : Int) := by omega
      rw [e1] at a1
      rw [e2] at a2
      have hf := hF j
      generalize o.getD (n + j) 0 = x at *
      generalize o.getD (2 * n) 0 = y at *
      rcases h3 with rfl | rfl
      · exact ⟨_, _, by simp; rfl, by simp [a1, a2, hf]; first | rfl | exact ⟨rfl, rfl⟩, by simp, by simp⟩
      · exact ⟨_, _, by simp; rfl, by simp [a1, a2, hf]; first | rfl | exact ⟨rfl, rfl⟩, by simp, by simp⟩
  unfold nL frL
  rw [this, List.map_map]
  rfl
/-- the steps of m__law_factors, over any operators -/
noncomputable def faB (F G : D → D → Option Bv) (C : List D → Option Bv) (cf : Ev) : Sm :=
  (sSeq (sSet 2 (eN dLen (aCons (fVar 1) aNil)))
  (sSeq (sSet 3 (eCall C (aCons (fz (e2 G (e2 G (eN dList (aCons (fVar 1) aNil)) (e2 F (eLst (aCons (fz (fC (.int 0))) aNil)) (fVar 2))) (eLst (aCons (fz (fC (.int 1))) aNil)))) (aCons (fz (fVar 0)) aNil))))
  (sSeq (sIf (tb (e2 dNe (eSl (fVar 3) pNone (pSome (fVar 2))) (e2 F (eLst (aCons (fz (fC (.int 0))) aNil)) (fVar 2)))) (sRet (fC .non)) sNx)
  (sRet (eN dTuple (aCons (eComp [4] (.nm 4) (iRan1 (aCons (eN dLen (aCons (fVar 0) aNil)) aNil)) tYs cf) aNil))))))
section
variable {F G : D → D → Option Bv} {C : List D → Option Bv} {cf : Ev} {n : Nat} {aim r0 f1 f2 t o : List Int} {K : List D}
theorem faB_none (ha : aim.length = n) (hmul : F (.lst [.int 0]) (.int (n : Int)) = some (.new (.lst (iL r0)))) (d1 : G (.lst (iL aim)) (.lst (iL r0)) = some (.new (.lst (iL f1)))) (d2 : G (.lst (iL f1)) (.lst [.int 1]) = some (.new (.lst (iL f2))))
    (h1 : gives (C [.lst (iL f2), .lst K]) (.lst (iL o))) (hcut : cutD (iL o) none (some (n : Int)) = iL t) (hne : dNe (.lst (iL t)) (.lst (iL r0)) = some (vB true)) : outB (faB F G C cf [.val (.lst K), .val (.lst (iL aim)), .no, .no, .no]) = some (.val .non) := by
  have s1 : 1 ≤ sizeLine := by decide
  unfold faB
  rcases h1 with e | e <;> simp [ha, s1, hmul, d1, d2, e, hcut, hne]
theorem faB_some {ys : List D} (ha : aim.length = n) (hmul : F (.lst [.int 0]) (.int (n : Int)) = some (.new (.lst (iL r0)))) (d1 : G (.lst (iL aim)) (.lst (iL r0)) = some (.new (.lst (iL f1)))) (d2 : G (.lst (iL f1)) (.lst [.int 1]) = some (.new (.lst (iL f2))))
    (h1 : gives (C [.lst (iL f2), .lst K]) (.lst (iL o))) (hcut : cutD (iL o) none (some (n : Int)) = iL t) (hne : dNe (.lst (iL t)) (.lst (iL r0)) = some (vB false)) (hK : K.length ≤ 1000)
    (hc : ∀ s3, Hs s3 (.lst (iL o)) → compL [4] (.nm 4) tYs cf (nL (List.range K.length)) [.val (.lst K), .val (.lst (iL aim)), .val (.int (n : Int)), s3, .no] = some (ys, [.val (.lst K), .val (.lst (iL aim)), .val (.int (n : Int)), s3, .no])) :
    outB (faB F G C cf [.val (.lst K), .val (.lst (iL aim)), .no, .no, .no]) = some (.val (.tup ys)) := by
  have s1 : 1 ≤ sizeLine := by decide
  have okk : okR (K.length : Int) = true := okR_nat (by omega)
  have lk : K.length < sizeLine := sizeLine_l (by omega)
  have c1 := hc _ (.inl rfl)
  have c2 := hc _ (.inr rfl)
  rw [toD_lst] at c1
  unfold faB
  rcases h1 with e | e <;> simp [ha, s1, hmul, d1, d2, e, hcut, hne, okk, from0, lk, c1, c2]
end
theorem factors_ok {n : Nat} {ks : Kept} {aim : List Int} (hn : n ≤ 4) (h : KInv n ks) (ha : aim.length = n) (hb : ∀ x ∈ aim, Bd (szK 0) x) :
    ∃ o, Clr ks (fRow aim) o ∧ (((∀ i < n, o.getD i 0 = 0) ∧ ∃ fs, m__law_factors [keptD ks, .lst (iL aim)] = some (.val (.tup (frL fs))) ∧ fs.length = ks.length ∧ ∀ p ∈ fs, frOk p = true ∧ Bd 600 p.1 ∧ Bd 600 p.2) ∨
      ((∃ i < n, o.getD i 0 ≠ 0) ∧ m__law_factors [keptD ks, .lst (iL aim)] = some (.val .non))) := by
  have hll := h.len
  have hfl := fRow_len aim
  rw [ha] at hfl
  obtain ⟨o, h1, h2⟩ := cleared_ok (w := 2 * n + 1) (by omega) (by omega) h.ok h.bd hfl (fRow_bd hb (by decide))
  have hol := h2.len h.ok hfl
  have hz : o.getD (2 * n) 0 ≠ 0 := fun e => by
    have := (h2.zero (i := 2 * n) (by omega) h.ok h.z hfl).mp e
    rw [← ha, fRow_last] at this
    exact absurd this (by decide)
  have hbd : ∀ x ∈ o, Bd 600 x := fun x hx => (h2.bd h.bd (fRow_bd hb (by decide)) x hx).mono (Nat.le_trans (szK_mono (show 0 + ks.length ≤ 4 by omega)) (by decide))
  obtain ⟨F, hF⟩ := Classical.axiomOfChoice fun j : Nat => fraction_ok (-(o.getD (n + j) 0)) (o.getD (2 * n) 0) hz (getD_bdz hbd (n + j)).neg (getD_bdz hbd (2 * n)) (by decide)
  refine ⟨o, h2, ?_⟩
  have hmul := zeros_mul (n := n) (by omega)
  have hcut : cutD (iL o) none (some (n : Int)) = iL (o.take n) := by rw [cut_take, iL_take]
  have hne := ne_ints (o.take n) (List.replicate n 0)
  have htz := take_zero (n := n) (o := o) (by omega)
  have s1 : 1 ≤ sizeLine := by decide
  have d1 : dAdd (.lst (iL aim)) (.lst (iL (List.replicate n 0))) = some (.new (.lst (iL (aim ++ List.replicate n 0)))) := by
    rw [dAdd_lst, if_pos (by rw [iL_len, iL_len, List.length_replicate]; exact sizeLine_n (by omega)), iL_app]
  have d2 : dAdd (.lst (iL (aim ++ List.replicate n 0))) (.lst [.int 1]) = some (.new (.lst (iL (fRow aim)))) := by
    rw [dAdd_lst, if_pos (by rw [iL_len, List.length_append, List.length_replicate]; exact sizeLine_n (by simp; omega))]
    have : iL (aim ++ List.replicate n 0) ++ [D.int 1] = iL (fRow aim) := by
      unfold fRow
      rw [ha]
      exact iL_app _ [1]
    rw [this]
  have okk : okR (ks.length : Int) = true := okR_nat (by omega)
  have lk : ks.length < sizeLine := sizeLine_l (by omega)
  have hb : b__law_factors = faB dMul dAdd m__law_cleared (eCall m__law_fraction (aCons (fz (e1 dNeg (e2 dIx (fVar 3) (e2 dAdd (fVar 2) (fVar 4))))) (aCons (fz (e2 dIx (fVar 3) (e2 dMul (fC (.int 2)) (fVar 2)))) aNil))) := rfl
  unfold keptD at *
  by_cases ht : o.take n = List.replicate n 0
  · have hne' : dNe (.lst (iL (o.take n))) (.lst (iL (List.replicate n 0))) = some (vB false) := by rw [hne, decide_eq_true ht]; rfl
    refine .inl ⟨htz.mp ht, (List.range ks.length).map F, ?_, by simp, fun p hp => ?_⟩
    · unfold m__law_factors
      rw [runV2, hb]
      refine faB_some ha hmul d1 d2 h1 hcut hne' (by rw [List.length_map]; omega) fun s3 h3 => ?_
      rw [List.length_map]
      exact fac_comp hol hll (fun j => (hF j).1) _ _ s3 h3
    · obtain ⟨j, _, e⟩ := List.mem_map.mp hp
      subst e
      obtain ⟨g1, g2, g3, g4, g5⟩ := hF j
      exact ⟨g2, g4, g5⟩
  · have hne' : dNe (.lst (iL (o.take n))) (.lst (iL (List.replicate n 0))) = some (vB true) := by rw [hne, decide_eq_false ht]; rfl
    refine .inr ⟨?_, ?_⟩
    · refine Classical.byContradiction fun hc => ht (htz.mpr fun i hi => Classical.byContradiction fun hi2 => hc ⟨i, hi, hi2⟩)
    · unfold m__law_factors
      rw [runV2, hb]
      exact faB_none ha hmul d1 d2 h1 hcut hne'
end VL

set_option Elab.async false
set_option linter.all false
set_option maxRecDepth 100000
set_option maxHeartbeats 1000000
/-! Lto: m__law_kept. -/
namespace VL
open PySem PySem.Spec PyProof.Rows L2
theorem kept_units (n i : Nat) (ks : List D) (hi : ks.length = i) (s1 s2 s3 s5 : Sl) : compL [4] (.nm 4) tYs (eN dInt (aCons (e2 dEq (fVar 4) (eN dLen (aCons (fVar 0) aNil))) aNil)) (nL (List.range n)) [.val (.lst ks), s1, s2, s3, .no, s5] =
    some (iL ((List.range n).map fun j => if j = i then 1 else 0), [.val (.lst ks), s1, s2, s3, .no, s5]) := by
  have := compL_map (vs := [4]) (t := .nm 4) (fe := eN dInt (aCons (e2 dEq (fVar 4) (eN dLen (aCons (fVar 0) aNil))) aNil)) (env := [.val (.lst ks), s1, s2, s3, .no, s5]) (fun (j : Nat) => D.int (j : Int)) (fun (j : Nat) => D.int (if j = i then 1 else 0)) (List.range n) fun j hj => by
    by_cases e : j = i
    · exact ⟨_, _, by simp; rfl, by simp [e, hi]; first | rfl | exact ⟨rfl, rfl⟩, by simp, by simp⟩
    · have e' : ¬ (j : Int) = (i : Int) := by omega
      exact ⟨_, _, by simp; rfl, by simp [e, e', hi]; first | rfl | exact ⟨rfl, rfl⟩, by simp, by simp⟩
  unfold nL
  rw [this, map_iL]
def headsOf (n : Nat) (o : List Int) : List Nat := (List.range n).filter fun j => !decide (o.getD j 0 = 0)
theorem kept_heads {n : Nat} {o : List Int} (ho : n ≤ o.length) (s0 s1 s2 s3 s5 : Sl) (h3 : Hs s3 (.lst (iL o))) : compL [4] (.nm 4) (tb (e2 dNe (e2 dIx (fVar 3) (fVar 4)) (fC (.int 0)))) (fVar 4) (nL (List.range n)) [s0, s1, s2, s3, .no, s5] =
    some (nL (headsOf n o), [s0, s1, s2, s3, .no, s5]) := by
  unfold nL headsOf
  rw [compL_filter (fun (n : Nat) => D.int (n : Int)) (fun (n : Nat) => D.int (n : Int)) (fun j => !decide (o.getD j 0 = 0)) (List.range n) fun j hj => ?_]
  have hj' := List.mem_range.mp hj
  have a1 := iL_at (v := o) (j := j) (by omega)
  generalize o.getD j 0 = x at *
  rcases h3 with rfl | rfl
  · by_cases e : x = 0
    · exact ⟨[s0, s1, s2, .val (.lst (iL o)), .val (.int (j : Int)), s5], [s0, s1, s2, .val (.lst (iL o)), .val (.int (j : Int)), s5], by simp, by simp [a1, e], by simp [e], by simp [e]⟩
    · exact ⟨[s0, s1, s2, .val (.lst (iL o)), .val (.int (j : Int)), s5], [s0, s1, s2, .val (.lst (iL o)), .val (.int (j : Int)), s5], by simp, by simp [a1, e], by simp [e], by simp [e]⟩
  · by_cases e : x = 0
    · exact ⟨[s0, s1, s2, .own (.lst (iL o)), .val (.int (j : Int)), s5], [s0, s1, s2, .own (.lst (iL o)), .val (.int (j : Int)), s5], by simp, by simp [a1, e], by simp [e], by simp [e]⟩
    · exact ⟨[s0, s1, s2, .own (.lst (iL o)), .val (.int (j : Int)), s5], [s0, s1, s2, .own (.lst (iL o)), .val (.int (j : Int)), s5], by simp, by simp [a1, e], by simp [e], by simp [e]⟩
theorem kept_ok {n : Nat} {ks : Kept} {aim o1 : List Int} (hn : n ≤ 4) (h : KInv n ks) (ha : aim.length = n) (hb : ∀ x ∈ aim, Bd (szK 0) x) (h1 : Clr ks (fRow aim) o1) (hi : ∃ i < n, o1.getD i 0 ≠ 0) :
    ∃ p o, m__law_kept [keptD ks, .lst (iL aim)] = some (.new (.lst ((ks ++ [(p, o)]).map kD))) ∧ KInv n (ks ++ [(p, o)]) := by
  have hll := h.len
  have hkl := kRow_len aim ks.length
  rw [ha] at hkl
  obtain ⟨o, g1, g2⟩ := cleared_ok (w := 2 * n + 1) (by omega) (by omega) h.ok h.bd hkl (kRow_bd hb (by decide))
  have hol := g2.len h.ok hkl
  have hx := (h.more (p := 0) ha hb h1 hi g2).1
  obtain ⟨p, r, hhd⟩ : ∃ p r, headsOf n o = p :: r := by
    cases hh : headsOf n o with
    | cons p r => exact ⟨p, r, rfl⟩
    | nil =>
      obtain ⟨i, hi2, e⟩ := hx
      have : i ∈ headsOf n o := by
        unfold headsOf
        rw [List.mem_filter]
        exact ⟨List.mem_range.mpr hi2, by simpa using e⟩
      rw [hh] at this
      cases this
  have hp : p < n ∧ o.getD p 0 ≠ 0 := by
    have : p ∈ headsOf n o := by rw [hhd]; exact List.mem_cons_self
    unfold headsOf at this
    rw [List.mem_filter, List.mem_range] at this
    exact ⟨this.1, by simpa using this.2⟩
  refine ⟨p, o, ?_, (h.more ha hb h1 hi g2).2 hp.1 hp.2⟩
  have hku := fun s1 s2 s3 s5 => kept_units (n + 1) ks.length (ks.map kD) (by simp) s1 s2 s3 s5
  have okn : okR (n : Int) = true := okR_nat (by omega)
  have okn1 : okR ((n : Int) + 1) = true := okR_nat (n := n + 1) (by omega)
  have tn1 : ((n : Int) + 1).toNat = n + 1 := by omega
  have ln : n < sizeLine := sizeLine_l (by omega)
  have ln1 : n + 1 < sizeLine := sizeLine_l (by omega)
  have z1 : n + (n + 1) ≤ sizeLine := sizeLine_n (by omega)
  have e1 : iL aim ++ iL ((List.range (n + 1)).map fun j => if j = ks.length then 1 else 0) = iL (kRow aim ks.length) := by
    unfold kRow
    rw [iL_app, ha]
  have s1 : 1 ≤ sizeLine := by decide
  have s2 : 2 ≤ sizeLine := by decide
  have zk : ks.length + 1 ≤ sizeLine := sizeLine_n (by omega)
  have a0 : ∀ (x : D) (r : List D), atI (x :: r) 0 = some x := fun x r => by
    have := atI_nat (xs := x :: r) (i := 0) (x := x) rfl
    exact this
  have hn0 : nL (headsOf n o) = .int (p : Int) :: nL r := by rw [hhd]; rfl
  unfold m__law_kept b__law_kept keptD at *
  rw [runV2]
  rcases g1 with e | e
  · have hh := kept_heads (n := n) (o := o) (by omega) (.val (.lst (ks.map kD))) (.val (.lst (iL aim))) (.val (.int (n : Int))) (.val (.lst (iL o))) .no (.inl rfl)
    rw [hn0] at hh
    simp [ha, okn, okn1, tn1, from0, ln, ln1, z1, hku, e1, e, hh, a0, s1, s2, zk, kD]
  · have hh := kept_heads (n := n) (o := o) (by omega) (.val (.lst (ks.map kD))) (.val (.lst (iL aim))) (.val (.int (n : Int))) (.own (.lst (iL o))) .no (.inr rfl)
    rw [hn0] at hh
    simp [ha, okn, okn1, tn1, from0, ln, ln1, z1, hku, e1, e, hh, a0, s1, s2, zk, kD]
end VL

set_option Elab.async false
set_option linter.all false
set_option maxRecDepth 100000
set_option maxHeartbeats 1000000
/-! Ltp: m__law_drawn_row: the kept rows. -/
namespace VL
open PySem PySem.Spec PyProof.Rows L2
theorem jnt_bd2 {r0 r1 : Ru} {n0 n1 k : Nat} (h0 : r0.Dr n0) (h1 : r1.Dr n1) (hk : k < 2 ^ 5) : ∀ x ∈ jnt r0 r1 k, Bd (szK 0) x := fun x hx => by
  unfold jnt at hx
  rcases List.mem_append.mp hx with hx | hx
  · exact (lns_bd2 h0 hk x hx).mono (by decide)
  · exact (lns_bd2 h1 hk x hx).mono (by decide)
noncomputable def drB : Sm := (sSeq (sSet 9 (eCall m__law_joint (aCons (fz (fVar 1)) (aCons (fz (fVar 8)) aNil))))
  (sIf (tA (tO (tb (e2 dLe (fVar 8) (fVar 3))) (tb (e2 dEq (fVar 5) (fC (.int 1))))) (tb (e2 dIsN (eCall m__law_factors (aCons (fz (fVar 6)) (aCons (fz (fVar 9)) aNil))) (fC .non)))) (sSeq (sSet 6 (eCall m__law_kept (aCons (fz (fVar 6)) (aCons (fz (fVar 9)) aNil))))
  (sApp 7 (fVar 8))) sNx))
def drE (m : MO) (r0 r1 : Ru) (s2 : Sl) (L : Nat) (s4 : Sl) (way : Int) (s6 : Sl) (used : List Nat) (s8 s9 : Sl) : Env' :=
  [.par m, .val (.lst [r0.d, r1.d]), s2, .val (.int (L : Int)), s4, .val (.int way), s6, .own (.lst (nL used)), s8, s9, .no, .no]
theorem nL_snoc (xs : List Nat) (k : Nat) : nL xs ++ [.int (k : Int)] = nL (xs ++ [k]) := by unfold nL; rw [List.map_append]; rfl
/-- the same over any functions -/
noncomputable def drBg (J Fa Ke : List D → Option Bv) : Sm := (sSeq (sSet 9 (eCall J (aCons (fz (fVar 1)) (aCons (fz (fVar 8)) aNil))))
  (sIf (tA (tO (tb (e2 dLe (fVar 8) (fVar 3))) (tb (e2 dEq (fVar 5) (fC (.int 1))))) (tb (e2 dIsN (eCall Fa (aCons (fz (fVar 6)) (aCons (fz (fVar 9)) aNil))) (fC .non)))) (sSeq (sSet 6 (eCall Ke (aCons (fz (fVar 6)) (aCons (fz (fVar 9)) aNil))))
  (sApp 7 (fVar 8))) sNx))
section
variable {J Fa Ke : List D → Option Bv} {R : D} {k L : Nat} {v : List Int} {K K' : List D} {xs : List D} {m : MO} {s2 s4 s6 s9 : Sl} {way : Int}
theorem drBg_not (p9 : s9.free = true) (hj : J [R, .int (k : Int)] = some (.new (.lst (iL v)))) (h1 : ¬ k ≤ L) (h2 : ¬ way = 1) :
    drBg J Fa Ke [.par m, .val R, s2, .val (.int (L : Int)), s4, .val (.int way), s6, .own (.lst xs), .val (.int (k : Int)), s9, .no, .no] = some (.nx, [.par m, .val R, s2, .val (.int (L : Int)), s4, .val (.int way), s6, .own (.lst xs), .val (.int (k : Int)), .own (.lst (iL v)), .no, .no]) := by
  unfold drBg
  simp [hj, p9, h1, h2]
theorem drBg_old {y : List D} (h6 : Hs s6 (.lst K)) (p9 : s9.free = true) (hj : J [R, .int (k : Int)] = some (.new (.lst (iL v)))) (h : k ≤ L ∨ way = 1) (e : Fa [.lst K, .lst (iL v)] = some (.val (.tup y))) :
    drBg J Fa Ke [.par m, .val R, s2, .val (.int (L : Int)), s4, .val (.int way), s6, .own (.lst xs), .val (.int (k : Int)), s9, .no, .no] = some (.nx, [.par m, .val R, s2, .val (.int (L : Int)), s4, .val (.int way), .val (.lst K), .own (.lst xs), .val (.int (k : Int)), .val (.lst (iL v)), .no, .no]) := by
  unfold drBg
  by_cases h1 : k ≤ L
  · rcases h6 with rfl | rfl <;> simp [hj, p9, h1, e]
  · have h2 : way = 1 := h.resolve_left h1
    rcases h6 with rfl | rfl <;> simp [hj, p9, h1, h2, e]
theorem drBg_new (h6 : Hs s6 (.lst K)) (p9 : s9.free = true) (hj : J [R, .int (k : Int)] = some (.new (.lst (iL v)))) (h : k ≤ L ∨ way = 1) (e : Fa [.lst K, .lst (iL v)] = some (.val .non)) (g : Ke [.lst K, .lst (iL v)] = some (.new (.lst K'))) (lx : xs.length < sizeLine) :
    drBg J Fa Ke [.par m, .val R, s2, .val (.int (L : Int)), s4, .val (.int way), s6, .own (.lst xs), .val (.int (k : Int)), s9, .no, .no] = some (.nx, [.par m, .val R, s2, .val (.int (L : Int)), s4, .val (.int way), .own (.lst K'), .own (.lst (xs ++ [.int (k : Int)])), .val (.int (k : Int)), .val (.lst (iL v)), .no, .no]) := by
  unfold drBg
  by_cases h1 : k ≤ L
  · rcases h6 with rfl | rfl <;> simp [hj, p9, h1, e, g, lx]
  · have h2 : way = 1 := h.resolve_left h1
    rcases h6 with rfl | rfl <;> simp [hj, p9, h1, h2, e, g, lx]
end
theorem dr_turn {r0 r1 : Ru} {n0 n1 k L : Nat} (h0 : r0.Dr n0) (h1 : r1.Dr n1) (hk : k < 2 ^ 5) (way : Int) {ks : Kept} (h : KInv (n0 + n1) ks) (used : List Nat) (hu : used.length = ks.length) (m : MO) (s2 s4 s6 s9 : Sl) (h6 : Hs s6 (keptMO ks)) (p9 : s9.free = true) :
    ∃ ks' used' s6' s9', drB (drE m r0 r1 s2 L s4 way s6 used (.val (.int (k : Int))) s9) = some (.nx, drE m r0 r1 s2 L s4 way s6' used' (.val (.int (k : Int))) s9') ∧ KInv (n0 + n1) ks' ∧ used'.length = ks'.length ∧ Hs s6' (keptMO ks') ∧ s9'.free = true := by
  have m0 := h0.n2
  have m1 := h1.n2
  have hj := joint_eq h0.ok h1.ok hk (by decide)
  have jl := jnt_len h0.ok h1.ok k
  have jb := jnt_bd2 h0 h1 hk
  obtain ⟨o, c1, c2⟩ := factors_ok (by omega) h jl jb
  have hll := h.len
  have lu : (nL used).length < sizeLine := sizeLine_l (by unfold nL; rw [List.length_map]; omega)
  have hsn := nL_snoc used k
  have hB : drB = drBg m__law_joint m__law_factors m__law_kept := rfl
  rw [hB]
  by_cases hT : k ≤ L ∨ way = 1
  · rcases c2 with ⟨_, fs, e, _⟩ | ⟨hi, e⟩
    · exact ⟨ks, used, .val (keptD ks), .val (.lst (iL (jnt r0 r1 k))), drBg_old h6 p9 hj hT e, h, hu, .inl rfl, rfl⟩
    · obtain ⟨p, o2, g1, g2⟩ := kept_ok (by omega) h jl jb c1 hi
      refine ⟨ks ++ [(p, o2)], used ++ [k], .own (keptMO (ks ++ [(p, o2)])), .val (.lst (iL (jnt r0 r1 k))), ?_, g2, by simp [hu], .inr rfl, rfl⟩
      have := drBg_new (m := m) (s2 := s2) (s4 := s4) (xs := nL used) h6 p9 hj hT e g1 lu
      rw [hsn] at this
      exact this
  · exact ⟨ks, used, s6, .own (.lst (iL (jnt r0 r1 k))), drBg_not p9 hj (fun e => hT (.inl e)) (fun e => hT (.inr e)), h, hu, h6, rfl⟩
theorem dr_loop {r0 r1 : Ru} {n0 n1 L : Nat} (h0 : r0.Dr n0) (h1 : r1.Dr n1) (way : Int) (m : MO) (s2 s4 : Sl) : ∀ (todo : List Nat) (ks : Kept) (used : List Nat) (s6 s8 s9 : Sl), (∀ k ∈ todo, k < 2 ^ 5) → KInv (n0 + n1) ks → used.length = ks.length → Hs s6 (keptMO ks) → Pl s8 → s9.free = true →
    ∃ ks' used' s6' s8' s9', forL (.nm 8) drB (nL todo) (drE m r0 r1 s2 L s4 way s6 used s8 s9) = some (.nx, drE m r0 r1 s2 L s4 way s6' used' s8' s9') ∧ KInv (n0 + n1) ks' ∧ used'.length = ks'.length ∧ Hs s6' (keptMO ks') ∧ Pl s8' ∧ s9'.free = true
  | [], ks, used, s6, s8, s9, _, h, hu, h6, p8, p9 => ⟨ks, used, s6, s8, s9, rfl, h, hu, h6, p8, p9⟩
  | k :: todo, ks, used, s6, s8, s9, hk, h, hu, h6, p8, p9 => by
    obtain ⟨ks1, used1, t6, t9, g1, g2, g3, g4, g5⟩ := dr_turn (L := L) h0 h1 (hk k List.mem_cons_self) way h used hu m s2 s4 s6 s9 h6 p9
    obtain ⟨ks2, used2, u6, u8, u9, i1, i2, i3, i4, i5, i6⟩ := dr_loop h0 h1 way m s2 s4 todo ks1 used1 t6 (.val (.int (k : Int))) t9 (fun x hx => hk x (List.mem_cons_of_mem _ hx)) g2 g3 g4 (Pl.v _) g5
    refine ⟨ks2, used2, u6, u8, u9, ?_, i2, i3, i4, i5, i6⟩
    have e : nL (k :: todo) = .int (k : Int) :: nL todo := rfl
    rw [e, forL_cons]
    have ha : asg (.nm 8) (.int (k : Int)) (drE m r0 r1 s2 L s4 way s6 used s8 s9) = some (drE m r0 r1 s2 L s4 way s6 used (.val (.int (k : Int))) s9) := by
      unfold drE
      simp [p8.fr]
    rw [ha]
    dsimp only
    rw [g1]
    exact i1
end VL

set_option Elab.async false
set_option linter.all false
set_option maxRecDepth 100000
set_option maxHeartbeats 1000000
/-! Ltq: m__law_drawn_row: the row. -/
namespace VL
open PySem PySem.Spec PyProof.Rows L2
theorem compL_st {σ : Type} {vs : List Nat} {t : Tg} {fe : Ev} {α : Type} (en : α → D) (g : α → D) (mk : σ → Env') (I : σ → Prop) : ∀ (xs : List α),
    (∀ x ∈ xs, ∀ s, I s → ∃ e1 e3 s', asg t (en x) (mk s) = some e1 ∧ fz fe e1 = some (.val (g x), e3) ∧ clean vs e3 = true ∧ wipeE e3 vs = mk s' ∧ I s') →
    ∀ s, I s → ∃ s', compL vs t tYs fe (xs.map en) (mk s) = some (xs.map g, mk s') ∧ I s'
  | [], _, s, hs => ⟨s, rfl, hs⟩
  | x :: xs, h, s, hs => by
    obtain ⟨e1, e3, s1, h1, h2, h3, h4, h5⟩ := h x List.mem_cons_self s hs
    obtain ⟨s2, g1, g2⟩ := compL_st en g mk I xs (fun z hz => h z (List.mem_cons_of_mem _ hz)) s1 h5
    refine ⟨s2, ?_, g2⟩
    rw [List.map_cons, compL_cons]
    simp only [h1, tYs_ap, h2, h3, h4, g1]
    rfl
/-- a fraction as the law draws it -/
def FrB (p : Int × Int) : Prop := frOk p = true ∧ Bd 600 p.1 ∧ Bd 600 p.2
theorem frs_of : ∀ (ys : List D), (∀ y ∈ ys, ∃ p, y = fr p ∧ FrB p) → ∃ fs, ys = frL fs ∧ fs.length = ys.length ∧ ∀ p ∈ fs, FrB p
  | [], _ => ⟨[], rfl, rfl, fun z hz => by cases hz⟩
  | y :: ys, h => by
    obtain ⟨i, e, p⟩ := h y List.mem_cons_self
    obtain ⟨zs, h1, h2, h3⟩ := frs_of ys fun x hx => h x (List.mem_cons_of_mem _ hx)
    refine ⟨i :: zs, by rw [e, h1]; rfl, by rw [List.length_cons, List.length_cons, h2], fun z hz => ?_⟩
    rcases List.mem_cons.mp hz with e | hz
    · subst e; exact p
    · exact h3 z hz
theorem rows_of {ns : List Nat} {fs : List (Int × Int)} (hl : fs.length = ns.length) (hn : ns.length ≤ 10) (hf : ∀ p ∈ fs, FrB p) : RowsOk 600 ns (some fs) where
  ok := fun l e => by
    cases e
    exact ⟨{ ok := fun p hp => (hf p hp).1, b2 := fun p hp => (hf p hp).2.2, b1 := fun p hp => (hf p hp).2.1, sm := by decide, ln := by omega }, hl⟩
def menuL : List (Int × Int) := [(0, 1), (1, 1), (-1, 1), (1, 2), (2, 1)]
theorem bd_tiny {x : Int} (h : -7 ≤ x ∧ x ≤ 7) : Bd 600 x := (bd3 h).mono (by decide)
theorem menu_fr : ∀ p ∈ menuL, FrB p := fun p hp => by
  unfold menuL at hp
  simp only [List.mem_cons, List.not_mem_nil, or_false] at hp
  rcases hp with rfl | rfl | rfl | rfl | rfl <;> exact ⟨by decide, bd_tiny (by decide), bd_tiny (by decide)⟩
theorem menu_at {c : Int} (h0 : 0 ≤ c) (h5 : c < 5) : ∃ p, atI (frL menuL) c = some (fr p) ∧ FrB p := by
  obtain ⟨k, rfl⟩ : ∃ k : Nat, c = (k : Int) := ⟨c.toNat, by omega⟩
  have hk : k < menuL.length := by show k < 5; omega
  refine ⟨menuL[k], atI_nat ?_, menu_fr _ (List.getElem_mem hk)⟩
  rw [show frL menuL = menuL.map fr from rfl, List.getElem?_map, List.getElem?_eq_getElem hk]
  rfl
theorem menu_src {ns : List Nat} (s1 s2 s3 s4 s5 s6 s7 s9 s10 : Sl) : ∀ m, Src m → ∃ fs m', compL [8] (.nm 8) tYs (e2 dIx (fVar 11) (eCallI m__law_draw (aCons (fVar 0) (aCons (fz (fC (.int 5))) aNil)))) (nL ns) [.par m, s1, s2, s3, s4, s5, s6, s7, .no, s9, s10, .own (.lst (frL menuL))] =
      some (frL fs, [.par m', s1, s2, s3, s4, s5, s6, s7, .no, s9, s10, .own (.lst (frL menuL))]) ∧ Src m' ∧ fs.length = ns.length ∧ ∀ p ∈ fs, FrB p := by
  intro m h
  have lp := compL_src (vs := [8]) (t := .nm 8) (fe := e2 dIx (fVar 11) (eCallI m__law_draw (aCons (fVar 0) (aCons (fz (fC (.int 5))) aNil)))) (fun (n : Nat) => D.int (n : Int)) (fun m => [.par m, s1, s2, s3, s4, s5, s6, s7, .no, s9, s10, .own (.lst (frL menuL))]) (fun y => ∃ p, y = fr p ∧ FrB p) ns (fun j hj m hm => by
    obtain ⟨c, m', g1, g2, g3, g4⟩ := draw_ok hm (n := 5) (by omega) (by omega)
    obtain ⟨p, a1, a2⟩ := menu_at g3 g4
    exact ⟨[.par m, s1, s2, s3, s4, s5, s6, s7, .val (.int (j : Int)), s9, s10, .own (.lst (frL menuL))], fr p, [.par m', s1, s2, s3, s4, s5, s6, s7, .val (.int (j : Int)), s9, s10, .own (.lst (frL menuL))], m', by simp, by simp [g1, a1], by simp, by simp, g2, p, rfl, a2⟩) m h
  obtain ⟨ys, m', g1, g2, g3, g4⟩ := lp
  obtain ⟨fs, e1, e2, e3⟩ := frs_of ys g4
  subst e1
  exact ⟨fs, m', g1, g2, by rw [e2, g3], e3⟩
theorem nL_iL (xs : List Nat) : nL xs = iL (xs.map fun (k : Nat) => (k : Int)) := by unfold nL iL; rw [List.map_map]; rfl
theorem idxI_mem {k : Nat} : ∀ {xs : List Nat}, k ∈ xs → ∃ j, idxI (k : Int) (xs.map fun (k : Nat) => (k : Int)) = some j ∧ j < xs.length
  | x :: xs, h => by
    unfold idxI
    rw [List.map_cons]
    dsimp only
    by_cases e : (x : Int) = (k : Int)
    · rw [if_pos e]
      exact ⟨0, rfl, Nat.succ_pos _⟩
    · have hm : k ∈ xs := (List.mem_cons.mp h).resolve_left fun e2 => e (by rw [e2])
      obtain ⟨j, g1, g2⟩ := idxI_mem hm
      rw [if_neg e, g1]
      exact ⟨j + 1, rfl, by rw [List.length_cons]; omega⟩
theorem fr_at {fs : List (Int × Int)} {j : Nat} (h : j < fs.length) : ∃ p ∈ fs, atI (frL fs) (j : Int) = some (fr p) := by
  refine ⟨fs[j], List.getElem_mem h, atI_nat ?_⟩
  rw [show frL fs = fs.map fr from rfl, List.getElem?_map, List.getElem?_eq_getElem h]
  rfl
/-- the item at a number: found there if it is used -/
theorem use_item {used : List Nat} {fs : List (Int × Int)} (hu : used.length = fs.length) (hf : ∀ p ∈ fs, FrB p) : ∀ k : Nat, ∃ p : Int × Int, FrB p ∧ (k ∈ used → ∃ j : Nat, idxI (k : Int) (used.map fun (k : Nat) => (k : Int)) = some j ∧ atI (frL fs) (j : Int) = some (fr p)) ∧ (¬ k ∈ used → p = (0, 1)) := fun k => by
  by_cases hk : k ∈ used
  · obtain ⟨j, g1, g2⟩ := idxI_mem hk
    obtain ⟨p, h1, h2⟩ := fr_at (fs := fs) (j := j) (by omega)
    exact ⟨p, hf p h1, fun _ => ⟨j, g1, h2⟩, fun h => absurd hk h⟩
  · exact ⟨(0, 1), ⟨by decide, bd_tiny (by decide), bd_tiny (by decide)⟩, fun h => absurd h hk, fun _ => rfl⟩
theorem use_src {ns used : List Nat} {fs : List (Int × Int)} (hu : used.length = fs.length) (hf : ∀ p ∈ fs, FrB p) (s0 s1 s2 s3 s4 s5 s6 s9 s11 : Sl) : ∃ gs s7', compL [8] (.nm 8) tYs (eIf (tb (e2 dIn (fVar 8) (fVar 7))) (e2 dIx (fVar 10) (eIndex (fVar 7) (fVar 8))) (eTup (aCons (fz (fC (.int 0))) (aCons (fz (fC (.int 1))) aNil)))) (nL ns) [s0, s1, s2, s3, s4, s5, s6, .own (.lst (nL used)), .no, s9, .val (.tup (frL fs)), s11] =
      some (frL gs, [s0, s1, s2, s3, s4, s5, s6, s7', .no, s9, .val (.tup (frL fs)), s11]) ∧ gs.length = ns.length ∧ ∀ p ∈ gs, FrB p := by
  obtain ⟨F, hF⟩ := Classical.axiomOfChoice (use_item hu hf)
  have s2' : 2 ≤ sizeLine := by decide
  have hin := fun k => dIn_nLl k used
  have hii : intsD (nL used) = some (used.map fun (k : Nat) => (k : Int)) := by rw [nL_iL]; exact iL_ints _
  have lp := compL_st (vs := [8]) (t := .nm 8) (fe := eIf (tb (e2 dIn (fVar 8) (fVar 7))) (e2 dIx (fVar 10) (eIndex (fVar 7) (fVar 8))) (eTup (aCons (fz (fC (.int 0))) (aCons (fz (fC (.int 1))) aNil)))) (fun (n : Nat) => D.int (n : Int)) (fun k => fr (F k)) (fun s7 => [s0, s1, s2, s3, s4, s5, s6, s7, .no, s9, .val (.tup (frL fs)), s11]) (fun s7 => Hs s7 (.lst (nL used))) ns (fun k hk s7 h7 => by
    obtain ⟨q1, q2, q3⟩ := hF k
    by_cases hm : k ∈ used
    · obtain ⟨j, j1, j2⟩ := q2 hm
      refine ⟨[s0, s1, s2, s3, s4, s5, s6, s7, .val (.int (k : Int)), s9, .val (.tup (frL fs)), s11], [s0, s1, s2, s3, s4, s5, s6, .val (.lst (nL used)), .val (.int (k : Int)), s9, .val (.tup (frL fs)), s11], .val (.lst (nL used)), by simp, ?_, by simp, by simp, .inl rfl⟩
      rcases h7 with rfl | rfl <;> simp [hin, hm, hii, j1, j2]
    · refine ⟨[s0, s1, s2, s3, s4, s5, s6, s7, .val (.int (k : Int)), s9, .val (.tup (frL fs)), s11], [s0, s1, s2, s3, s4, s5, s6, s7, .val (.int (k : Int)), s9, .val (.tup (frL fs)), s11], s7, by simp, ?_, by simp, by simp, h7⟩
      rw [q3 hm]
      rcases h7 with rfl | rfl <;> simp [hin, hm, s2', fr]) (.own (.lst (nL used))) (.inr rfl)
  obtain ⟨s7', g1, g2⟩ := lp
  refine ⟨ns.map F, s7', ?_, by simp, fun p hp => ?_⟩
  · have e : frL (ns.map F) = ns.map fun k => fr (F k) := by
      show (ns.map F).map fr = _
      rw [List.map_map]; rfl
    rw [e]
    exact g1
  · obtain ⟨k, _, e⟩ := List.mem_map.mp hp
    subst e; exact (hF k).1
end VL

set_option Elab.async false
set_option linter.all false
set_option maxRecDepth 100000
set_option maxHeartbeats 1000000
/-! Ltr: m__law_drawn_row. -/
namespace VL
open PySem PySem.Spec PyProof.Rows L2
noncomputable def drR : Sm := (sSeq (sPar [6, 7] (sCons (eLst aNil) (sCons (eLst aNil) sNil)))
  (sSeq (sFor (.nm 8) (iSq (fVar 2)) drB)
  (sSeq (sSet 10 (eCall m__law_factors (aCons (fz (fVar 6)) (aCons (fz (eCall m__law_joint (aCons (fz (fVar 1)) (aCons (fz (fVar 3)) aNil)))) aNil))))
  (sSeq (sIf (tO (tb (e2 dIsN (fVar 10) (fC .non))) (tb (e2 dEq (fVar 5) (fC (.int 2))))) (sSeq (sSet 11 (eLst (aCons (fz (eTup (aCons (fz (fC (.int 0))) (aCons (fz (fC (.int 1))) aNil)))) (aCons (fz (eTup (aCons (fz (fC (.int 1))) (aCons (fz (fC (.int 1))) aNil)))) (aCons (fz (eTup (aCons (fz (e1 dNeg (fC (.int 1)))) (aCons (fz (fC (.int 1))) aNil)))) (aCons (fz (eTup (aCons (fz (fC (.int 1))) (aCons (fz (fC (.int 2))) aNil)))) (aCons (fz (eTup (aCons (fz (fC (.int 2))) (aCons (fz (fC (.int 1))) aNil)))) aNil)))))))
  (sRet (eN dTuple (aCons (eComp [8] (.nm 8) (iSq (fVar 2)) tYs (e2 dIx (fVar 11) (eCallI m__law_draw (aCons (fVar 0) (aCons (fz (fC (.int 5))) aNil))))) aNil)))) sNx)
  (sRet (eN dTuple (aCons (eComp [8] (.nm 8) (iSq (fVar 2)) tYs (eIf (tb (e2 dIn (fVar 8) (fVar 7))) (e2 dIx (fVar 10) (eIndex (fVar 7) (fVar 8))) (eTup (aCons (fz (fC (.int 0))) (aCons (fz (fC (.int 1))) aNil))))) aNil)))))))
def mnL : List D := [.tup [.int 0, .int 1], .tup [.int 1, .int 1], .tup [.int (-1), .int 1], .tup [.int 1, .int 2], .tup [.int 2, .int 1]]
noncomputable def mnE : Ev := (eLst (aCons (fz (eTup (aCons (fz (fC (.int 0))) (aCons (fz (fC (.int 1))) aNil)))) (aCons (fz (eTup (aCons (fz (fC (.int 1))) (aCons (fz (fC (.int 1))) aNil)))) (aCons (fz (eTup (aCons (fz (e1 dNeg (fC (.int 1)))) (aCons (fz (fC (.int 1))) aNil)))) (aCons (fz (eTup (aCons (fz (fC (.int 1))) (aCons (fz (fC (.int 2))) aNil)))) (aCons (fz (eTup (aCons (fz (fC (.int 2))) (aCons (fz (fC (.int 1))) aNil)))) aNil))))))
theorem mnE_eq (env : Env') : mnE env = some (.new (.lst mnL), env) := by
  have s2' : 2 ≤ sizeLine := by decide
  have s5' : 5 ≤ sizeLine := by decide
  unfold mnE mnL
  simp [s2', s5']
noncomputable def drRg (B : Sm) (J Fa : List D → Option Bv) (mE cM cU : Ev) : Sm := (sSeq (sPar [6, 7] (sCons (eLst aNil) (sCons (eLst aNil) sNil)))
  (sSeq (sFor (.nm 8) (iSq (fVar 2)) B)
  (sSeq (sSet 10 (eCall Fa (aCons (fz (fVar 6)) (aCons (fz (eCall J (aCons (fz (fVar 1)) (aCons (fz (fVar 3)) aNil)))) aNil))))
  (sSeq (sIf (tO (tb (e2 dIsN (fVar 10) (fC .non))) (tb (e2 dEq (fVar 5) (fC (.int 2))))) (sSeq (sSet 11 mE)
  (sRet (eN dTuple (aCons (eComp [8] (.nm 8) (iSq (fVar 2)) tYs cM) aNil)))) sNx)
  (sRet (eN dTuple (aCons (eComp [8] (.nm 8) (iSq (fVar 2)) tYs cU) aNil)))))))
section
variable {B : Sm} {J Fa : List D → Option Bv} {mE cM cU : Ev} {R : D} {L : Nat} {v : List Int} {K xs us ys : List D} {mn : List D} {m m' : MO} {s4 s6 s7' s8 s9 : Sl} {way : Int}
theorem drRg_menu {d : D} (hB : forL (.nm 8) B xs [.par m, .val R, .val (.lst xs), .val (.int (L : Int)), s4, .val (.int way), .own (.lst []), .own (.lst []), .no, .no, .no, .no] = some (.nx, [.par m, .val R, .val (.lst xs), .val (.int (L : Int)), s4, .val (.int way), s6, .own (.lst us), s8, s9, .no, .no]))
    (h6 : Hs s6 (.lst K)) (p8 : Pl s8) (hx : xs.length < sizeLine) (hj : J [R, .int (L : Int)] = some (.new (.lst (iL v)))) (e : Fa [.lst K, .lst (iL v)] = some (.val d)) (hd : d = .non ∨ way = 2 ∧ ∃ ts, d = .tup ts) (hm : ∀ env, mE env = some (.new (.lst mn), env))
    (hc : compL [8] (.nm 8) tYs cM xs [.par m, .val R, .val (.lst xs), .val (.int (L : Int)), s4, .val (.int way), .val (.lst K), .own (.lst us), .no, s9, .val d, .own (.lst mn)] = some (ys, [.par m', .val R, .val (.lst xs), .val (.int (L : Int)), s4, .val (.int way), .val (.lst K), .own (.lst us), .no, s9, .val d, .own (.lst mn)])) :
    ∃ e, drRg B J Fa mE cM cU [.par m, .val R, .val (.lst xs), .val (.int (L : Int)), s4, .val (.int way), .no, .no, .no, .no, .no, .no] = some (.rt (.val (.tup ys)), .par m' :: e) := by
  have s0' : 0 ≤ sizeLine := by decide
  unfold drRg
  rcases hd with rfl | ⟨hw, ts, rfl⟩
  · rcases h6 with rfl | rfl <;> rcases p8 with rfl | ⟨d, rfl⟩ <;> exact ⟨_, by simp [s0', hB, hj, e, hm, hx, hc]; rfl⟩
  · subst hw
    rcases h6 with rfl | rfl <;> rcases p8 with rfl | ⟨d, rfl⟩ <;> exact ⟨_, by simp [s0', hB, hj, e, hm, hx, hc]; rfl⟩
theorem drRg_use {ts : List D} (hB : forL (.nm 8) B xs [.par m, .val R, .val (.lst xs), .val (.int (L : Int)), s4, .val (.int way), .own (.lst []), .own (.lst []), .no, .no, .no, .no] = some (.nx, [.par m, .val R, .val (.lst xs), .val (.int (L : Int)), s4, .val (.int way), s6, .own (.lst us), s8, s9, .no, .no]))
    (h6 : Hs s6 (.lst K)) (p8 : Pl s8) (hx : xs.length < sizeLine) (hj : J [R, .int (L : Int)] = some (.new (.lst (iL v)))) (e : Fa [.lst K, .lst (iL v)] = some (.val (.tup ts))) (hw : way ≠ 2)
    (hc : compL [8] (.nm 8) tYs cU xs [.par m, .val R, .val (.lst xs), .val (.int (L : Int)), s4, .val (.int way), .val (.lst K), .own (.lst us), .no, s9, .val (.tup ts), .no] = some (ys, [.par m, .val R, .val (.lst xs), .val (.int (L : Int)), s4, .val (.int way), .val (.lst K), s7', .no, s9, .val (.tup ts), .no])) :
    ∃ e, drRg B J Fa mE cM cU [.par m, .val R, .val (.lst xs), .val (.int (L : Int)), s4, .val (.int way), .no, .no, .no, .no, .no, .no] = some (.rt (.val (.tup ys)), .par m :: e) := by
  have s0' : 0 ≤ sizeLine := by decide
  unfold drRg
  rcases h6 with rfl | rfl <;> rcases p8 with rfl | ⟨d, rfl⟩ <;> exact ⟨_, by simp [s0', hB, hj, e, hw, hx, hc]; rfl⟩
end
noncomputable def drHg (Dr : MO → List D → Option (Bv × MO)) (R : Sm) : Sm := (sSeq (sSet 5 (eCallI Dr (aCons (fVar 0) (aCons (fz (fC (.int 12))) aNil))))
    (sSeq (sIf (tO (tb (e2 dEq (fVar 5) (fC (.int 0)))) (tA (tb (e2 dLt (fVar 5) (fC (.int 9)))) (tA (tb (e2 dNotN (fVar 4) (fC .non))) (tb (e2 dGe (fVar 3) (fVar 4)))))) (sRet (fC .non)) sNx) R))
section
variable {Dr : MO → List D → Option (Bv × MO)} {R : Sm} {m m1 m2 : MO} {way : Int} {L : Nat} {lim : Option Nat} {r n row : D} {e : Env'}
theorem drHg_non (a1 : Dr m [.int 12] = some (.val (.int way), m1)) (h : way = 0 ∨ (way < 9 ∧ ∃ l, lim = some l ∧ l ≤ L)) : outI (drHg Dr R (.par m :: .val r :: .val n :: .val (.int (L : Int)) :: .val (limD lim) :: List.replicate (12 - 5) .no)) = some (.val .non, m1) := by
  unfold drHg
  by_cases hw : way = 0
  · simp [a1, hw]
  · obtain ⟨hw9, l, e2, hlL⟩ := h.resolve_left hw
    subst e2
    simp [limD, a1, hw, hw9, hlL]
theorem drHg_go (a1 : Dr m [.int 12] = some (.val (.int way), m1)) (hw : ¬ way = 0) (h : ¬ (way < 9 ∧ ∃ l, lim = some l ∧ l ≤ L)) (hR : R [.par m1, .val r, .val n, .val (.int (L : Int)), .val (limD lim), .val (.int way), .no, .no, .no, .no, .no, .no] = some (.rt (.val row), .par m2 :: e)) :
    outI (drHg Dr R (.par m :: .val r :: .val n :: .val (.int (L : Int)) :: .val (limD lim) :: List.replicate (12 - 5) .no)) = some (.val row, m2) := by
  unfold drHg
  by_cases hw9 : way < 9
  · cases hlim : lim with
    | none =>
      subst hlim
      unfold limD at *
      simp [a1, hw, hw9, hR]
    | some l =>
      subst hlim
      have hlL : ¬ l ≤ L := fun hh => h ⟨hw9, l, rfl, hh⟩
      unfold limD at *
      simp [a1, hw, hw9, hlL, hR]
  · simp [a1, hw, hw9, hR]
end
section
variable {r0 r1 : Ru} {n0 n1 L : Nat} {ns : List Nat}
theorem dr_rest (h0 : r0.Dr n0) (h1 : r1.Dr n1) (hns : ∀ k ∈ ns, k < 10) (hl : ns.length ≤ 10) (hL : L < 2 ^ 5) (s4 : Sl) (way : Int) {m : MO} (hm : Src m) :
    ∃ row m' e, drR [.par m, .val (.lst [r0.d, r1.d]), .val (.lst (nL ns)), .val (.int (L : Int)), s4, .val (.int way), .no, .no, .no, .no, .no, .no] = some (.rt (.val (rowD row)), .par m' :: e) ∧ Src m' ∧ RowsOk 600 ns row := by
  have m0 := h0.n2
  have m1 := h1.n2
  have hj := joint_eq h0.ok h1.ok hL (by decide)
  have jl := jnt_len h0.ok h1.ok L
  have jb := jnt_bd2 h0 h1 hL
  obtain ⟨ks, used, s6, s8, s9, g1, g2, g3, g4, g5, g6⟩ := dr_loop (L := L) h0 h1 way m (.val (.lst (nL ns))) s4 ns [] [] (.own (.lst [])) .no .no (fun k hk => by have := hns k hk; omega) (KInv.nil _) rfl (.inr rfl) Pl.no rfl
  obtain ⟨o, c1, c2⟩ := factors_ok (by omega) g2 jl jb
  have ln : (nL ns).length < sizeLine := sizeLine_l (by unfold nL; rw [List.length_map]; omega)
  have hR : drR = drRg drB m__law_joint m__law_factors mnE (e2 dIx (fVar 11) (eCallI m__law_draw (aCons (fVar 0) (aCons (fz (fC (.int 5))) aNil)))) (eIf (tb (e2 dIn (fVar 8) (fVar 7))) (e2 dIx (fVar 10) (eIndex (fVar 7) (fVar 8))) (eTup (aCons (fz (fC (.int 0))) (aCons (fz (fC (.int 1))) aNil)))) := rfl
  rw [hR]
  have menu : ∀ d : D, m__law_factors [keptD ks, .lst (iL (jnt r0 r1 L))] = some (.val d) → (d = .non ∨ way = 2 ∧ ∃ ts, d = .tup ts) → ∃ row m' e, drRg drB m__law_joint m__law_factors mnE (e2 dIx (fVar 11) (eCallI m__law_draw (aCons (fVar 0) (aCons (fz (fC (.int 5))) aNil)))) (eIf (tb (e2 dIn (fVar 8) (fVar 7))) (e2 dIx (fVar 10) (eIndex (fVar 7) (fVar 8))) (eTup (aCons (fz (fC (.int 0))) (aCons (fz (fC (.int 1))) aNil)))) [.par m, .val (.lst [r0.d, r1.d]), .val (.lst (nL ns)), .val (.int (L : Int)), s4, .val (.int way), .no, .no, .no, .no, .no, .no] = some (.rt (.val (rowD row)), .par m' :: e) ∧ Src m' ∧ RowsOk 600 ns row := fun d e hd => by
    obtain ⟨gs, m', k1, k2, k3, k4⟩ := menu_src (ns := ns) (.val (.lst [r0.d, r1.d])) (.val (.lst (nL ns))) (.val (.int (L : Int))) s4 (.val (.int way)) (.val (.lst (ks.map kD))) (.own (.lst (nL used))) s9 (.val d) m hm
    obtain ⟨e', hh⟩ := drRg_menu (B := drB) (mE := mnE) (cU := (eIf (tb (e2 dIn (fVar 8) (fVar 7))) (e2 dIx (fVar 10) (eIndex (fVar 7) (fVar 8))) (eTup (aCons (fz (fC (.int 0))) (aCons (fz (fC (.int 1))) aNil))))) g1 g4 g5 ln hj e hd mnE_eq k1
    exact ⟨some gs, m', e', hh, k2, rows_of k3 hl k4⟩
  rcases c2 with ⟨_, fs, e, el, e3⟩ | ⟨_, e⟩
  · by_cases hw : way = 2
    · exact menu _ e (.inr ⟨hw, _, rfl⟩)
    · obtain ⟨gs, s7', k1, k3, k4⟩ := use_src (ns := ns) (used := used) (fs := fs) (by omega) e3 (.par m) (.val (.lst [r0.d, r1.d])) (.val (.lst (nL ns))) (.val (.int (L : Int))) s4 (.val (.int way)) (.val (.lst (ks.map kD))) s9 .no
      obtain ⟨e', hh⟩ := drRg_use (B := drB) (mE := mnE) (cM := (e2 dIx (fVar 11) (eCallI m__law_draw (aCons (fVar 0) (aCons (fz (fC (.int 5))) aNil))))) g1 g4 g5 ln hj e hw k1
      exact ⟨some gs, m, e', hh, hm, rows_of k3 hl k4⟩
  · exact menu _ e (.inl rfl)
theorem drawn_row_ok (h0 : r0.Dr n0) (h1 : r1.Dr n1) (hns : ∀ k ∈ ns, k < 10) (hl : ns.length ≤ 10) (hL : L < 2 ^ 5) (lim : Option Nat) {m : MO} (hm : Src m) :
    ∃ row m', m__law_drawn_row m [.lst [r0.d, r1.d], .lst (nL ns), .int (L : Int), limD lim] = some (.val (rowD row), m') ∧ Src m' ∧ RowsOk 600 ns row := by
  obtain ⟨way, m1, a1, a2, a3, a4⟩ := draw_ok hm (n := 12) (by omega) (by omega)
  obtain ⟨row, m2, e, b1, b2, b3⟩ := dr_rest h0 h1 hns hl hL (.val (limD lim)) way a2
  have hnon : RowsOk 600 ns none := { ok := fun l e => by cases e }
  have hb : b__law_drawn_row = drHg m__law_draw drR := rfl
  unfold m__law_drawn_row
  rw [hb, runI5]
  by_cases hw : way = 0
  · refine ⟨none, m1, ?_, a2, hnon⟩
    exact drHg_non a1 (.inl hw)
  · by_cases hc : way < 9 ∧ ∃ l, lim = some l ∧ l ≤ L
    · exact ⟨none, m1, drHg_non a1 (.inr hc), a2, hnon⟩
    · exact ⟨row, m2, drHg_go a1 hw hc b1, b2, b3⟩
end
end VL

set_option Elab.async false
set_option linter.all false
set_option maxRecDepth 100000
set_option maxHeartbeats 1000000
/-! Lts: m__law_paper. -/
namespace VL
open PySem PySem.Spec PyProof.Rows L2
theorem compL_srcF {vs : List Nat} {t : Tg} {ft : Tv} {fe : Ev} {α : Type} (en : α → D) (g : α → D) (mk : MO → Env') : ∀ (xs : List α),
    (∀ x ∈ xs, ∀ m, Src m → ∃ e1 m', asg t (en x) (mk m) = some e1 ∧ Src m' ∧ ((∃ e2 e3, ft e1 = some (true, e2) ∧ fz fe e2 = some (.val (g x), e3) ∧ clean vs e3 = true ∧ wipeE e3 vs = mk m') ∨ (∃ e2, ft e1 = some (false, e2) ∧ clean vs e2 = true ∧ wipeE e2 vs = mk m'))) →
    ∀ m, Src m → ∃ (ys : List α) (m' : MO), compL vs t ft fe (xs.map en) (mk m) = some (ys.map g, mk m') ∧ Src m' ∧ ys.Sublist xs
  | [], _, m, hm => ⟨[], m, rfl, hm, List.Sublist.refl _⟩
  | x :: xs, h, m, hm => by
    obtain ⟨e1, m1, h1, h2, h3⟩ := h x List.mem_cons_self m hm
    obtain ⟨ys, m', g1, g2, g3⟩ := compL_srcF en g mk xs (fun z hz => h z (List.mem_cons_of_mem _ hz)) m1 h2
    rcases h3 with ⟨e2, e3, k1, k2, k3, k4⟩ | ⟨e2, k1, k3, k4⟩
    · refine ⟨x :: ys, m', ?_, g2, g3.cons_cons x⟩
      rw [List.map_cons, compL_cons]
      simp only [h1, k1, k2, k3, k4, g1]
      rfl
    · refine ⟨ys, m', ?_, g2, g3.cons x⟩
      rw [List.map_cons, compL_cons]
      simp only [h1, k1, k3, k4, g1]
noncomputable def paT : Tv := (tO (tb (e2 dLt (eCallI m__law_draw (aCons (fVar 0) (aCons (fz (fC (.int 5))) aNil))) (fC (.int 2)))) (tA (tb (e2 dLt (fVar 4) (fC (.int 2)))) (tb (e2 dGt (eCallI m__law_draw (aCons (fVar 0) (aCons (fz (fC (.int 4))) aNil))) (fC (.int 0))))))
theorem pa_numbers (s1 s2 s3 s5 s6 s7 : Sl) {m : MO} (hm : Src m) : ∃ (ns : List Nat) (m' : MO), compL [4] (.nm 4) paT (fVar 4) (nL (List.range 10)) [.par m, s1, s2, s3, .no, s5, s6, s7] = some (nL ns, [.par m', s1, s2, s3, .no, s5, s6, s7]) ∧ Src m' ∧ ns.Sublist (List.range 10) := by
  have lp := compL_srcF (vs := [4]) (t := .nm 4) (ft := paT) (fe := fVar 4) (fun (n : Nat) => D.int (n : Int)) (fun (n : Nat) => D.int (n : Int)) (fun m => [.par m, s1, s2, s3, .no, s5, s6, s7]) (List.range 10) (fun j hj m hm => by
    obtain ⟨c, m1, g1, g2, g3, g4⟩ := draw_ok hm (n := 5) (by omega) (by omega)
    obtain ⟨c2, m2, k1, k2, k3, k4⟩ := draw_ok g2 (n := 4) (by omega) (by omega)
    unfold paT
    by_cases hc : c < 2
    · refine ⟨[.par m, s1, s2, s3, .val (.int (j : Int)), s5, s6, s7], m1, by simp, g2, .inl ⟨[.par m1, s1, s2, s3, .val (.int (j : Int)), s5, s6, s7], [.par m1, s1, s2, s3, .val (.int (j : Int)), s5, s6, s7], by simp [g1, hc], by simp, by simp, by simp⟩⟩
    · by_cases hj2 : j < 2
      · have hj3 : (j : Int) < 2 := by omega
        by_cases hc2 : 0 < c2
        · refine ⟨[.par m, s1, s2, s3, .val (.int (j : Int)), s5, s6, s7], m2, by simp, k2, .inl ⟨[.par m2, s1, s2, s3, .val (.int (j : Int)), s5, s6, s7], [.par m2, s1, s2, s3, .val (.int (j : Int)), s5, s6, s7], by simp [g1, hc, k1, hc2, hj2, hj3], by simp, by simp, by simp⟩⟩
        · refine ⟨[.par m, s1, s2, s3, .val (.int (j : Int)), s5, s6, s7], m2, by simp, k2, .inr ⟨[.par m2, s1, s2, s3, .val (.int (j : Int)), s5, s6, s7], by simp [g1, hc, k1, hc2, hj2, hj3], by simp, by simp⟩⟩
      · have hj3 : ¬ (j : Int) < 2 := by omega
        refine ⟨[.par m, s1, s2, s3, .val (.int (j : Int)), s5, s6, s7], m1, by simp, g2, .inr ⟨[.par m1, s1, s2, s3, .val (.int (j : Int)), s5, s6, s7], by simp [g1, hc, hj2, hj3], by simp, by simp⟩⟩) m hm
  exact lp
theorem pa_below {ns : List Nat} (l : Nat) (s0 s1 s3 s5 s6 s7 : Sl) : compL [4] (.nm 4) (tb (e2 dLt (fVar 4) (fVar 2))) (fVar 4) (nL ns) [s0, s1, .val (.int (l : Int)), s3, .no, s5, s6, s7] = some (nL (ns.filter fun k => decide (k < l)), [s0, s1, .val (.int (l : Int)), s3, .no, s5, s6, s7]) := by
  unfold nL
  rw [compL_filter (fun (n : Nat) => D.int (n : Int)) (fun (n : Nat) => D.int (n : Int)) (fun k => decide (k < l)) ns fun j hj => ?_]
  by_cases e : j < l
  · have e' : (j : Int) < (l : Int) := by omega
    exact ⟨[s0, s1, .val (.int (l : Int)), s3, .val (.int (j : Int)), s5, s6, s7], [s0, s1, .val (.int (l : Int)), s3, .val (.int (j : Int)), s5, s6, s7], by simp, by simp [e, e'], by simp [e], by simp [e]⟩
  · have e' : ¬ (j : Int) < (l : Int) := by omega
    exact ⟨[s0, s1, .val (.int (l : Int)), s3, .val (.int (j : Int)), s5, s6, s7], [s0, s1, .val (.int (l : Int)), s3, .val (.int (j : Int)), s5, s6, s7], by simp, by simp [e, e'], by simp [e], by simp [e]⟩
noncomputable def paB : Sm := (sSeq (sSet 6 (eComp [7] (.nm 7) (iRan1 (aCons (fC (.int 2)) aNil)) tYs (eCallI m__law_drawn_row (aCons (fVar 0) (aCons (fz (fVar 1)) (aCons (fz (fVar 3)) (aCons (fz (e2 dAdd (e2 dMul (fC (.int 2)) (fVar 4)) (fVar 7))) (aCons (fz (fVar 2)) aNil))))))))
  (sApp 5 (eN dTuple (aCons (fVar 6) aNil))))
def paE (m : MO) (r0 r1 : Ru) (lim : Option Nat) (ns : List Nat) (s4 : Sl) (pss : List (Row × Row)) (s6 : Sl) : Env' := [.par m, .val (.lst [r0.d, r1.d]), .val (limD lim), .val (.lst (nL ns)), s4, .own (.lst (pss.map prD)), s6, .no]
section
variable {r0 r1 : Ru} {n0 n1 : Nat} {ns : List Nat}
theorem pa_rows (h0 : r0.Dr n0) (h1 : r1.Dr n1) (hns : ∀ k ∈ ns, k < 10) (hl : ns.length ≤ 10) (lim : Option Nat) {k : Nat} (hk : k < 10) (s5 s6 : Sl) {m : MO} (hm : Src m) : ∃ (a b : Row) (m' : MO), compL [7] (.nm 7) tYs (eCallI m__law_drawn_row (aCons (fVar 0) (aCons (fz (fVar 1)) (aCons (fz (fVar 3)) (aCons (fz (e2 dAdd (e2 dMul (fC (.int 2)) (fVar 4)) (fVar 7))) (aCons (fz (fVar 2)) aNil)))))) (nL (List.range 2)) [.par m, .val (.lst [r0.d, r1.d]), .val (limD lim), .val (.lst (nL ns)), .val (.int (k : Int)), s5, s6, .no] =
    some ([rowD a, rowD b], [.par m', .val (.lst [r0.d, r1.d]), .val (limD lim), .val (.lst (nL ns)), .val (.int (k : Int)), s5, s6, .no]) ∧ Src m' ∧ RowsOk 600 ns a ∧ RowsOk 600 ns b := by
  have lp := compL_src (vs := [7]) (t := .nm 7) (fe := eCallI m__law_drawn_row (aCons (fVar 0) (aCons (fz (fVar 1)) (aCons (fz (fVar 3)) (aCons (fz (e2 dAdd (e2 dMul (fC (.int 2)) (fVar 4)) (fVar 7))) (aCons (fz (fVar 2)) aNil)))))) (fun (n : Nat) => D.int (n : Int)) (fun m => [.par m, .val (.lst [r0.d, r1.d]), .val (limD lim), .val (.lst (nL ns)), .val (.int (k : Int)), s5, s6, .no]) (fun y => ∃ row, y = rowD row ∧ RowsOk 600 ns row) (List.range 2) (fun d hd m hm => by
    have hd' := List.mem_range.mp hd
    obtain ⟨row, m1, g1, g2, g3⟩ := drawn_row_ok (L := 2 * k + d) h0 h1 hns hl (by omega) lim hm
    have e : ((2 * k + d : Nat) : Int) = 2 * (k : Int) + (d : Int) := by omega
    rw [e] at g1
    exact ⟨[.par m, .val (.lst [r0.d, r1.d]), .val (limD lim), .val (.lst (nL ns)), .val (.int (k : Int)), s5, s6, .val (.int (d : Int))], rowD row, [.par m1, .val (.lst [r0.d, r1.d]), .val (limD lim), .val (.lst (nL ns)), .val (.int (k : Int)), s5, s6, .val (.int (d : Int))], m1, by simp, by simp [g1], by simp, by simp, g2, row, rfl, g3⟩) m hm
  obtain ⟨ys, m', g1, g2, g3, g4⟩ := lp
  match ys, g3, g4, g1 with
  | [x, y], _, g4, g1 =>
    obtain ⟨a, ea, ha⟩ := g4 x (by simp)
    obtain ⟨b, eb, hb⟩ := g4 y (by simp)
    subst ea eb
    exact ⟨a, b, m', g1, g2, ha, hb⟩
theorem pa_turn (h0 : r0.Dr n0) (h1 : r1.Dr n1) (hns : ∀ k ∈ ns, k < 10) (hl : ns.length ≤ 10) (lim : Option Nat) {k : Nat} (hk : k < 10) (pss : List (Row × Row)) (hp : pss.length ≤ 20) (s6 : Sl) (p6 : s6.free = true) {m : MO} (hm : Src m) :
    ∃ (a b : Row) (m' : MO) (s6' : Sl), paB (paE m r0 r1 lim ns (.val (.int (k : Int))) pss s6) = some (.nx, paE m' r0 r1 lim ns (.val (.int (k : Int))) (pss ++ [(a, b)]) s6') ∧ Src m' ∧ RowsOk 600 ns a ∧ RowsOk 600 ns b ∧ s6'.free = true := by
  obtain ⟨a, b, m', g1, g2, g3, g4⟩ := pa_rows h0 h1 hns hl lim hk (.own (.lst (pss.map prD))) s6 hm
  refine ⟨a, b, m', .own (.lst [rowD a, rowD b]), ?_, g2, g3, g4, rfl⟩
  have s2' : 2 < sizeLine := by decide
  have lp : pss.length < sizeLine := sizeLine_l (by omega)
  unfold paB paE
  simp [from0, s2', g1, p6, lp, prD]
theorem pa_loop (h0 : r0.Dr n0) (h1 : r1.Dr n1) (hns : ∀ k ∈ ns, k < 10) (hl : ns.length ≤ 10) (lim : Option Nat) : ∀ (todo : List Nat) (pss : List (Row × Row)) (s4 s6 : Sl) (m : MO), (∀ k ∈ todo, k < 10) → pss.length + todo.length ≤ 10 → Pl s4 → s6.free = true → Src m → (∀ p ∈ pss, RowsOk 600 ns p.1 ∧ RowsOk 600 ns p.2) →
    ∃ (pss' : List (Row × Row)) (m' : MO) (s4' s6' : Sl), forL (.nm 4) paB (nL todo) (paE m r0 r1 lim ns s4 pss s6) = some (.nx, paE m' r0 r1 lim ns s4' pss' s6') ∧ Src m' ∧ pss'.length = pss.length + todo.length ∧ ∀ p ∈ pss', RowsOk 600 ns p.1 ∧ RowsOk 600 ns p.2
  | [], pss, s4, s6, m, _, _, _, _, hm, hp => ⟨pss, m, s4, s6, rfl, hm, rfl, hp⟩
  | k :: todo, pss, s4, s6, m, hk, hlen, p4, p6, hm, hp => by
    rw [List.length_cons] at hlen
    obtain ⟨a, b, m1, t6, g1, g2, g3, g4, g5⟩ := pa_turn h0 h1 hns hl lim (hk k List.mem_cons_self) pss (by omega) s6 p6 hm
    obtain ⟨pss', m', s4', s6', i1, i2, i3, i4⟩ := pa_loop h0 h1 hns hl lim todo (pss ++ [(a, b)]) (.val (.int (k : Int))) t6 m1 (fun x hx => hk x (List.mem_cons_of_mem _ hx)) (by simp; omega) (Pl.v _) g5 g2 (fun p hp2 => by
      rcases List.mem_append.mp hp2 with h | h
      · exact hp p h
      · rw [List.mem_singleton.mp h]; exact ⟨g3, g4⟩)
    refine ⟨pss', m', s4', s6', ?_, i2, by rw [i3, List.length_append, List.length_singleton, List.length_cons]; omega, i4⟩
    have e : nL (k :: todo) = .int (k : Int) :: nL todo := rfl
    rw [e, forL_cons]
    have ha : asg (.nm 4) (.int (k : Int)) (paE m r0 r1 lim ns s4 pss s6) = some (paE m r0 r1 lim ns (.val (.int (k : Int))) pss s6) := by
      unfold paE
      simp [p4.fr]
    rw [ha]
    dsimp only
    rw [g1]
    exact i1
end
theorem sub_range {ns : List Nat} (h : ns.Sublist (List.range 10)) : (∀ k ∈ ns, k < 10) ∧ ns.length ≤ 10 ∧ ns.Pairwise (· < ·) := by
  refine ⟨fun k hk => List.mem_range.mp (h.subset hk), ?_, ?_⟩
  · have := h.length_le
    rwa [List.length_range] at this
  · exact List.Pairwise.sublist h List.pairwise_lt_range
noncomputable def paR : Sm := (sSeq (sSet 5 (eLst aNil))
  (sSeq (sFor (.nm 4) (iSq (fVar 3)) paB)
  (sRet (eTup (aCons (fz (eN dTuple (aCons (fVar 3) aNil))) (aCons (fz (eN dTuple (aCons (fVar 5) aNil))) aNil))))))
section
variable {r0 r1 : Ru} {n0 n1 : Nat} {ns : List Nat}
theorem pa_rest (h0 : r0.Dr n0) (h1 : r1.Dr n1) (h : ns.Sublist (List.range 10)) (lim : Option Nat) (s3 : Sl) (h3 : Hs s3 (.lst (nL ns))) {m : MO} (hm : Src m) : ∃ pss m' e, paR [.par m, .val (.lst [r0.d, r1.d]), .val (limD lim), s3, .no, .no, .no, .no] = some (.rt (.val (papD ns pss)), .par m' :: e) ∧ Src m' ∧ PapOk 600 ns pss := by
  obtain ⟨q1, q2, q3⟩ := sub_range h
  obtain ⟨pss, m', s4, s6, g1, g2, g3, g4⟩ := pa_loop h0 h1 q1 q2 lim ns [] .no .no m q1 (by simpa using q2) Pl.no rfl hm (fun p hp => by cases hp)
  have s0' : 0 ≤ sizeLine := by decide
  have s2' : 2 ≤ sizeLine := by decide
  have hq : PapOk 600 ns pss := { asc := q3, lt := fun k hk => Nat.lt_trans (q1 k hk) (by decide), ln := by omega, pl := by simpa using g3, r1 := fun p hp => (g4 p hp).1, r2 := fun p hp => (g4 p hp).2 }
  unfold paE at g1
  rw [List.map_nil] at g1
  unfold paR papD
  rcases h3 with rfl | rfl <;> exact ⟨pss, m', _, by simp [s0', s2', g1]; rfl, g2, hq⟩
theorem paper_ok (h0 : r0.Dr n0) (h1 : r1.Dr n1) (lim : Option Nat) {m : MO} (hm : Src m) : ∃ ns pss m', m__law_paper m [.lst [r0.d, r1.d], limD lim] = some (.val (papD ns pss), m') ∧ Src m' ∧ PapOk 600 ns pss ∧ ∀ k ∈ ns, k < 10 := by
  obtain ⟨ns, m1, a1, a2, a3⟩ := pa_numbers (.val (.lst [r0.d, r1.d])) (.val (limD lim)) .no .no .no .no hm
  obtain ⟨c, m2, b1, b2, b3, b4⟩ := draw_ok a2 (n := 4) (by omega) (by omega)
  have s10 : 10 < sizeLine := by decide
  have hb : b__law_paper = (sSeq (sSet 3 (eComp [4] (.nm 4) (iRan1 (aCons (fC (.int 10)) aNil)) paT (fVar 4)))
    (sSeq (sIf (tA (tb (e2 dNotN (fVar 2) (fC .non))) (tb (e2 dGt (eCallI m__law_draw (aCons (fVar 0) (aCons (fz (fC (.int 4))) aNil))) (fC (.int 0))))) (sSet 3 (eComp [4] (.nm 4) (iSq (fVar 3)) (tb (e2 dLt (fVar 4) (fVar 2))) (fVar 4))) sNx) paR)) := rfl
  have ln : ns.length < sizeLine := by
    have := (sub_range a3).2.1
    exact sizeLine_l (by omega)
  cases lim with
  | none =>
    obtain ⟨pss, m3, e, k1, k2, k3⟩ := pa_rest h0 h1 a3 none (.own (.lst (nL ns))) (.inr rfl) a2
    refine ⟨ns, pss, m3, ?_, k2, k3, (sub_range a3).1⟩
    unfold m__law_paper
    rw [hb, runI3]
    unfold limD at *
    simp [from0, s10, a1, k1]
  | some l =>
    by_cases hc : 0 < c
    · have hsub : (ns.filter fun k => decide (k < l)).Sublist (List.range 10) := List.Sublist.trans List.filter_sublist a3
      obtain ⟨pss, m3, e, k1, k2, k3⟩ := pa_rest h0 h1 hsub (some l) (.own (.lst (nL (ns.filter fun k => decide (k < l))))) (.inr rfl) b2
      refine ⟨_, pss, m3, ?_, k2, k3, (sub_range hsub).1⟩
      have hbl := pa_below (ns := ns) l (.par m2) (.val (.lst [r0.d, r1.d])) (.val (.lst (nL ns))) .no .no .no
      unfold m__law_paper
      rw [hb, runI3]
      unfold limD at *
      simp [from0, s10, a1, b1, hc, hbl, ln, k1]
    · obtain ⟨pss, m3, e, k1, k2, k3⟩ := pa_rest h0 h1 a3 (some l) (.own (.lst (nL ns))) (.inr rfl) b2
      refine ⟨ns, pss, m3, ?_, k2, k3, (sub_range a3).1⟩
      unfold m__law_paper
      rw [hb, runI3]
      unfold limD at *
      simp [from0, s10, a1, b1, hc, k1]
end
end VL

set_option Elab.async false
set_option linter.all false
set_option maxRecDepth 100000
set_option maxHeartbeats 1000000
/-! Ltu: m__law_span_right. -/
namespace VL
open PySem PySem.Spec PyProof.Rows L2
theorem nz5 (xs : List Int) (s0 s1 s2 s3 s4 s6 s7 : Sl) : compL [5] (.nm 5) (tb (e2 dNe (fVar 5) (fC (.int 0)))) (fVar 5) (iL xs) [s0, s1, s2, s3, s4, .no, s6, s7] = some (iL (xs.filter fun x => !decide (x = 0)), [s0, s1, s2, s3, s4, .no, s6, s7]) := by
  unfold iL
  rw [compL_filter D.int D.int (fun x => !decide (x = 0)) xs fun x hx => ?_]
  by_cases e : x = 0
  · exact ⟨[s0, s1, s2, s3, s4, .val (.int x), s6, s7], [s0, s1, s2, s3, s4, .val (.int x), s6, s7], by simp, by simp [e], by simp [e], by simp [e]⟩
  · exact ⟨[s0, s1, s2, s3, s4, .val (.int x), s6, s7], [s0, s1, s2, s3, s4, .val (.int x), s6, s7], by simp, by simp [e], by simp [e], by simp [e]⟩
noncomputable def srB (F : D → D → Option Bv) (Rp : List D → Option Bv) (Pa : MO → List D → Option (Bv × MO)) (Pn Is Su Ac : List D → Option Bv) : Sm :=
  (sSeq (sPar [3, 4] (sCons (eCallI Pa (aCons (fVar 0) (aCons (fz (fVar 1)) (aCons (fz (fC .non)) aNil)))) (sCons (eN dTuple (aCons (eComp [5] (.nm 5) (iSq (fVar 1)) tYs (eCall Pn (aCons (fz (fVar 5)) aNil))) aNil)) sNil)))
  (sSeq (sSet 6 (eA (eCall Is (aCons (fz (fVar 1)) (aCons (fz (fVar 3)) (aCons (fz (fC .non)) aNil)))) (e2 dEq (eComp [5] (.nm 5) (iSq (eCall Su (aCons (fz (fVar 1)) (aCons (fz (fVar 2)) (aCons (fz (e2 dIx (fVar 3) (fC (.int 0)))) aNil))))) (tb (e2 dNe (fVar 5) (fC (.int 0)))) (fVar 5)) (eLst aNil))))
  (sSeq (sIf (tA (tb (fVar 6)) (tb (e2 dNe (eCall Su (aCons (fz (fVar 1)) (aCons (fz (fVar 2)) (aCons (fz (eLR (aCons (fC (.int 16)) aNil))) aNil)))) (e2 F (eLst (aCons (fz (fC (.int 0))) aNil)) (fC (.int 16)))))) (sRet (fC (.bl false))) sNx)
  (sSeq (sSet 7 (eLst (aCons (fz (eCall Ac (aCons (fz (eTup (aCons (fz (fC (.str ("relation" : PySem.Str)))) (aCons (fz (fVar 4)) (aCons (fz (fVar 2)) aNil))))) (aCons (fz (fVar 3)) aNil)))) aNil)))
  (sSeq (sIf (tb (e2 dEq (fVar 2) (eTup (aCons (fz (fC (.int 1))) (aCons (fz (e1 dNeg (fC (.int 1)))) aNil))))) (sApp 7 (eCall Ac (aCons (fz (eTup (aCons (fz (fC (.str ("same" : PySem.Str)))) (aCons (fz (e2 dIx (fVar 4) (fC (.int 0)))) (aCons (fz (e2 dIx (fVar 4) (fC (.int 1)))) aNil))))) (aCons (fz (fVar 3)) aNil)))) sNx)
  (sRet (e2 dEq (eN Rp (aCons (fVar 7) aNil)) (eN Rp (aCons (e2 F (eLst (aCons (fz (fVar 6)) aNil)) (eN dLen (aCons (fVar 7) aNil))) aNil)))))))))
section
variable {F : D → D → Option Bv} {Rp : List D → Option Bv} {Pa : MO → List D → Option (Bv × MO)} {Pn Is Su Ac : List D → Option Bv} {x0 x1 p0 p1 N Q : D} {b0 b1 : Int} {m m' : MO} {S : Bool} {xs ys : List Int} {z1 z2 : PySem.Str}
theorem srB_go (hp : Pa m [.lst [x0, x1], .non] = some (.val (.tup [N, Q]), m')) (h0 : Pn [x0] = some (.val p0)) (h1 : Pn [x1] = some (.val p1)) (his : Is [.lst [x0, x1], .tup [N, Q], .non] = some (.val (.bl S)))
    (hsu : Su [.lst [x0, x1], .tup [.int b0, .int b1], N] = some (.new (.lst (iL xs)))) (hsu2 : Su [.lst [x0, x1], .tup [.int b0, .int b1], .lst (nL (List.range 16))] = some (.new (.lst (iL ys)))) (hx : xs.length ≤ 1000)
    (due : Bool) (hdue : due = (S && decide ((xs.filter fun x => !decide (x = 0)) = []))) (htrue : due = true → ys = List.replicate 16 0)
    (hF : F (.lst [.int 0]) (.int 16) = some (.new (.lst (iL (List.replicate 16 0))))) (hF1 : ∀ b, F (.lst [.bl b]) (.int 1) = some (.new (.lst [.bl b]))) (hF2 : ∀ b, F (.lst [.bl b]) (.int 2) = some (.new (.lst [.bl b, .bl b])))
    (hac : Ac [.tup [.str ("relation" : PySem.Str), .tup [p0, p1], .tup [.int b0, .int b1]], .tup [N, Q]] = some (.val (.bl due)))
    (hac2 : b0 = 1 ∧ b1 = -1 → Ac [.tup [.str ("same" : PySem.Str), p0, p1], .tup [N, Q]] = some (.val (.bl due)))
    (hby : dEq (.tup [.int b0, .int b1]) (.tup [.int 1, .int (-1)]) = some (vB (decide (b0 = 1 ∧ b1 = -1))))
    (hr1 : Rp [.lst [.bl due]] = some (.val (.str z1))) (hr2 : Rp [.lst [.bl due, .bl due]] = some (.val (.str z2))) (he1 : dEq (.str z1) (.str z1) = some (vB true)) (he2 : dEq (.str z2) (.str z2) = some (vB true)) :
    outI (srB F Rp Pa Pn Is Su Ac (.par m :: .val (.lst [x0, x1]) :: .val (.tup [.int b0, .int b1]) :: List.replicate (8 - 3) .no)) = some (.val (.bl true), m') := by
  have l2 : 2 < sizeLine := by decide
  have l1 : 1 < sizeLine := by decide
  have s0' : 0 ≤ sizeLine := by decide
  have s1' : 1 ≤ sizeLine := by decide
  have s2' : 2 ≤ sizeLine := by decide
  have s3' : 3 ≤ sizeLine := by decide
  have a0 : atI [N, Q] 0 = some N := rfl
  have a0' : atI [p0, p1] 0 = some p0 := rfl
  have a1' : atI [p0, p1] 1 = some p1 := rfl
  have lx : xs.length < sizeLine := sizeLine_l (by omega)
  have hnz := nz5 xs
  have heq := eq_ints (xs.filter fun x => !decide (x = 0)) []
  rw [iL_nil] at heq
  have hne := ne_ints ys (List.replicate 16 0)
  generalize hfil : (xs.filter fun x => !decide (x = 0)) = fs at *
  generalize hrep : (List.replicate 16 0 : List Int) = r16 at *
  generalize hran : nL (List.range 16) = n16 at *
  have hlr : fromN 0 1 16 = n16 := by rw [from0, hran]
  unfold srB
  cases S with
  | false =>
    simp at hdue
    subst hdue
    by_cases hb : b0 = 1 ∧ b1 = -1
    · have := hac2 hb
      obtain ⟨rfl, rfl⟩ := hb
      simp [hp, compL_cons, h0, h1, l2, l1, s0', s1', s2', s3', his, hac, this, a0', a1', hr1, hr2, he1, he2, hF1, hF2, hby]
    · rw [decide_eq_false hb] at hby
      simp [hp, compL_cons, h0, h1, l2, l1, s0', s1', s2', s3', his, hac, a0', a1', hr1, hr2, he1, he2, hF1, hF2, hby]
  | true =>
    by_cases hf : fs = []
    · have hd : due = true := by rw [hdue, hf]; rfl
      have hy := htrue hd
      subst hd
      subst hf
      rw [hy] at hne
      rw [iL_nil] at heq
      by_cases hb : b0 = 1 ∧ b1 = -1
      · have := hac2 hb
        obtain ⟨rfl, rfl⟩ := hb
        simp [hp, compL_cons, h0, h1, l2, l1, s0', s1', s2', s3', his, hac, this, a0', a1', hr1, hr2, he1, he2, hF1, hF2, hby, hsu, hsu2, hnz, lx, heq, a0, hF, hlr, hy, hne]
      · rw [decide_eq_false hb] at hby
        simp [hp, compL_cons, h0, h1, l2, l1, s0', s1', s2', s3', his, hac, a0', a1', hr1, hr2, he1, he2, hF1, hF2, hby, hsu, hsu2, hnz, lx, heq, a0, hF, hlr, hy, hne]
    · have hd : due = false := by rw [hdue, decide_eq_false hf]; rfl
      subst hd
      by_cases hb : b0 = 1 ∧ b1 = -1
      · have := hac2 hb
        obtain ⟨rfl, rfl⟩ := hb
        simp [hp, compL_cons, h0, h1, l2, l1, s0', s1', s2', s3', his, hac, this, a0', a1', hr1, hr2, he1, he2, hF1, hF2, hby, hsu, hsu2, hnz, lx, heq, a0, hf, hF, hlr]
      · rw [decide_eq_false hb] at hby
        simp [hp, compL_cons, h0, h1, l2, l1, s0', s1', s2', s3', his, hac, a0', a1', hr1, hr2, he1, he2, hF1, hF2, hby, hsu, hsu2, hnz, lx, heq, a0, hf, hF, hlr]
end
theorem rp_1 (b : Bool) : ∃ z : PySem.Str, dRepr [.lst [.bl b]] = some (.val (.str z)) ∧ dEq (.str z) (.str z) = some (vB true) := by
  cases b
  · exact ⟨(PyData.list [.bool false]).shown, by kernel_rfl, by kernel_rfl⟩
  · exact ⟨(PyData.list [.bool true]).shown, by kernel_rfl, by kernel_rfl⟩
theorem rp_2 (b : Bool) : ∃ z : PySem.Str, dRepr [.lst [.bl b, .bl b]] = some (.val (.str z)) ∧ dEq (.str z) (.str z) = some (vB true) := by
  cases b
  · exact ⟨(PyData.list [.bool false, .bool false]).shown, by kernel_rfl, by kernel_rfl⟩
  · exact ⟨(PyData.list [.bool true, .bool true]).shown, by kernel_rfl, by kernel_rfl⟩
theorem rp_b (b : Bool) : ∃ z : PySem.Str, dRepr [.bl b] = some (.val (.str z)) ∧ dEq (.str z) (.str z) = some (vB true) := by
  cases b
  · exact ⟨(PyData.bool false).shown, by kernel_rfl, by kernel_rfl⟩
  · exact ⟨(PyData.bool true).shown, by kernel_rfl, by kernel_rfl⟩
end VL

set_option Elab.async false
set_option linter.all false
set_option maxRecDepth 100000
set_option maxHeartbeats 1000000
/-! Ltv: m__law_span_right on drawn rules; the steps of m__law_parting_right. -/
namespace VL
open PySem PySem.Spec PyProof.Rows L2
theorem bl_mul1 (b : Bool) : dMul (.lst [.bl b]) (.int 1) = some (.new (.lst [.bl b])) := by
  rw [dMul_lst, if_pos ⟨by omega, by omega, by show 1 ≤ sizeLine; decide⟩]
  rfl
theorem bl_mul2 (b : Bool) : dMul (.lst [.bl b]) (.int 2) = some (.new (.lst [.bl b, .bl b])) := by
  rw [dMul_lst, if_pos ⟨by omega, by omega, by show 2 ≤ sizeLine; decide⟩]
  rfl
theorem all_zero_map {α : Type} (f : α → Int) (ns : List α) : decide (((ns.map f).filter fun x => !decide (x = 0)) = []) = ns.all fun k => decide (f k = 0) := by
  rw [Bool.eq_iff_iff, decide_eq_true_iff, List.all_eq_true, List.filter_eq_nil_iff]
  constructor
  · intro h k hk
    have := h (f k) (List.mem_map_of_mem hk)
    simpa using this
  · intro h x hx
    obtain ⟨k, hk, e⟩ := List.mem_map.mp hx
    subst e
    simpa using h k hk
theorem psi_scaled (r0 r1 : Ru) (b0 b1 : Int) (k : Nat) : psi r0 r1 (r0.tl.map (b0 * ·)) (r1.tl.map (b1 * ·)) k = b0 * told r0 k + b1 * told r1 k := by
  unfold psi told
  rw [dot_scale, dot_scale]
theorem eq_by (b0 b1 : Int) : dEq (.tup [.int b0, .int b1]) (.tup [.int 1, .int (-1)]) = some (vB (decide (b0 = 1 ∧ b1 = -1))) := by
  have := eq_dec (α := Int × Int) (b0, b1) (1, -1) (by decide)
  have e : decide ((b0, b1) = ((1 : Int), (-1 : Int))) = decide (b0 = 1 ∧ b1 = -1) := decide_eq_decide.mpr (by rw [Prod.mk.injEq])
  rw [e] at this
  exact this
section
variable {r0 r1 : Ru} {n0 n1 : Nat}
theorem span_right_ok (h0 : r0.Dr n0) (h1 : r1.Dr n1) (b0 b1 : Int) (hb0 : b0.natAbs < 2 ^ 60) (hb1 : b1.natAbs < 2 ^ 60) {m : MO} (hm : Src m) : ∃ m', m__law_span_right m [.lst [r0.d, r1.d], .tup [.int b0, .int b1]] = some (.val (.bl true), m') ∧ Src m' := by
  obtain ⟨ns, pss, m', a1, a2, a3, a4⟩ := paper_ok h0 h1 none hm
  refine ⟨m', ?_, a2⟩
  have k0 := h0.ok
  have k1 := h1.ok
  have his := is_span_eq k0 k1 a3 none
  have hsu := sums_eq k0 k1 b0 b1 hb0 hb1 (d := .tup (nL ns)) ns rfl a3.lt (by have := a3.ln; omega)
  have hsu2 := sums_eq k0 k1 b0 b1 hb0 hb1 (d := .lst (nL (List.range 16))) (List.range 16) rfl (fun k hk => by have := List.mem_range.mp hk; omega) (by simp)
  have hac := accepts_R k0 k1 a3 b0 b1 hb0 hb1
  have hacS := accepts_S k0 k1 a3
  have haz := all_zero_map (fun k => b0 * told r0 k + b1 * told r1 k) ns
  have hrel : ns.all (relB r0 r1 b0 b1) = ns.all fun k => decide (b0 * told r0 k + b1 * told r1 k = 0) := rfl
  have htrue : (spanB [r0, r1] ns pss none && ns.all (relB r0 r1 b0 b1)) = true → (List.range 16).map (fun k => b0 * told r0 k + b1 * told r1 k) = List.replicate 16 0 := fun h => by
    rw [Bool.and_eq_true, List.all_eq_true] at h
    refine List.eq_replicate_iff.mpr ⟨by simp, fun x hx => ?_⟩
    obtain ⟨k, _, e⟩ := List.mem_map.mp hx
    subst e
    have := span_tells k0 k1 a3 none h.1 k (fun l e => by cases e) (r0.tl.map (b0 * ·)) (r1.tl.map (b1 * ·)) fun x hx _ => by
      rw [psi_scaled]
      exact of_decide_eq_true (h.2 x hx)
    rw [psi_scaled] at this
    exact this
  have hS : b0 = 1 ∧ b1 = -1 → ns.all (sameB r0 r1) = ns.all (relB r0 r1 b0 b1) := fun ⟨e0, e1⟩ => by
    subst e0 e1
    congr 1
    funext x
    unfold sameB relB
    exact decide_eq_decide.mpr (by omega)
  obtain ⟨z1, q1, q2⟩ := rp_1 (spanB [r0, r1] ns pss none && ns.all (relB r0 r1 b0 b1))
  obtain ⟨z2, q3, q4⟩ := rp_2 (spanB [r0, r1] ns pss none && ns.all (relB r0 r1 b0 b1))
  have hb : b__law_span_right = srB dMul dRepr m__law_paper m__law_plain m__law_is_span m__law_sums m_accepts := rfl
  unfold m__law_span_right
  rw [hb, runI3]
  exact srB_go a1 (plain_eq k0) (plain_eq k1) his hsu hsu2 (by rw [List.length_map]; have := a3.ln; omega) _ (by rw [haz, hrel]) htrue (zeros_mul (n := 16) (by decide)) bl_mul1 bl_mul2 hac (fun e => by rw [← hS e]; exact hacS) (eq_by b0 b1) q1 q3 q2 q4
end
theorem nz7 (xs : List Int) (s0 s1 s2 s3 s4 s5 s6 : Sl) : compL [7] (.nm 7) (tb (e2 dNe (fVar 7) (fC (.int 0)))) (fVar 7) (iL xs) [s0, s1, s2, s3, s4, s5, s6, .no] = some (iL (xs.filter fun x => !decide (x = 0)), [s0, s1, s2, s3, s4, s5, s6, .no]) := by
  unfold iL
  rw [compL_filter D.int D.int (fun x => !decide (x = 0)) xs fun x hx => ?_]
  by_cases e : x = 0
  · exact ⟨[s0, s1, s2, s3, s4, s5, s6, .val (.int x)], [s0, s1, s2, s3, s4, s5, s6, .val (.int x)], by simp, by simp [e], by simp [e], by simp [e]⟩
  · exact ⟨[s0, s1, s2, s3, s4, s5, s6, .val (.int x)], [s0, s1, s2, s3, s4, s5, s6, .val (.int x)], by simp, by simp [e], by simp [e], by simp [e]⟩
theorem pr_ge (ns : List Nat) (L : Nat) (s0 s1 s2 s5 s6 s7 : Sl) : compL [3] (.nm 3) (tb (e2 dGe (fVar 3) (fVar 4))) (fVar 3) (nL ns) [s0, s1, s2, .no, .val (.int (L : Int)), s5, s6, s7] = some (nL (ns.filter fun k => decide (L ≤ k)), [s0, s1, s2, .no, .val (.int (L : Int)), s5, s6, s7]) := by
  unfold nL
  rw [compL_filter (fun (n : Nat) => D.int (n : Int)) (fun (n : Nat) => D.int (n : Int)) (fun k => decide (L ≤ k)) ns fun j hj => ?_]
  by_cases e : L ≤ j
  · exact ⟨[s0, s1, s2, .val (.int (j : Int)), .val (.int (L : Int)), s5, s6, s7], [s0, s1, s2, .val (.int (j : Int)), .val (.int (L : Int)), s5, s6, s7], by simp, by simp [e], by simp [e], by simp [e]⟩
  · exact ⟨[s0, s1, s2, .val (.int (j : Int)), .val (.int (L : Int)), s5, s6, s7], [s0, s1, s2, .val (.int (j : Int)), .val (.int (L : Int)), s5, s6, s7], by simp, by simp [e], by simp [e], by simp [e]⟩
theorem eq_nats_nil (ns : List Nat) : dEq (.lst (nL ns)) (.lst []) = some (vB (decide (ns = []))) := by
  have := eq_ints (ns.map fun (k : Nat) => (k : Int)) []
  rw [iL_nil, ← nL_iL] at this
  rw [this]
  have e : decide ((ns.map fun (k : Nat) => (k : Int)) = []) = decide (ns = []) := decide_eq_decide.mpr (by rw [List.map_eq_nil_iff])
  rw [e]
theorem ne_nats_nil (ns : List Nat) : dNe (.lst (nL ns)) (.lst []) = some (vB (!decide (ns = []))) := by
  have := ne_ints (ns.map fun (k : Nat) => (k : Int)) []
  rw [iL_nil, ← nL_iL] at this
  rw [this]
  have e : decide ((ns.map fun (k : Nat) => (k : Int)) = []) = decide (ns = []) := decide_eq_decide.mpr (by rw [List.map_eq_nil_iff])
  rw [e]
noncomputable def prG (tv : Tv) (le : Ev) (Rp : List D → Option Bv) (Pa : MO → List D → Option (Bv × MO)) (Pn Is Su Ac : List D → Option Bv) : Sm :=
  (sSeq (sSet 2 (eComp [3] (.nm 3) (iRan1 (aCons (fC (.int 16)) aNil)) tv (fVar 3)))
  (sSeq (sSet 4 le)
  (sSeq (sSet 5 (eCallI Pa (aCons (fVar 0) (aCons (fz (fVar 1)) (aCons (fz (fVar 4)) aNil)))))
  (sSeq (sSet 6 (eA (eCall Is (aCons (fz (fVar 1)) (aCons (fz (fVar 5)) (aCons (fz (fVar 4)) aNil)))) (eA (e2 dIn (fVar 4) (fVar 2)) (e2 dEq (eComp [3] (.nm 3) (iSq (e2 dIx (fVar 5) (fC (.int 0)))) (tb (e2 dGe (fVar 3) (fVar 4))) (fVar 3)) (eLst aNil)))))
  (sSeq (sSet 6 (eA (fVar 6) (e2 dEq (eComp [7] (.nm 7) (iSq (eCall Su (aCons (fz (fVar 1)) (aCons (fz (eTup (aCons (fz (fC (.int 1))) (aCons (fz (e1 dNeg (fC (.int 1)))) aNil)))) (aCons (fz (e2 dIx (fVar 5) (fC (.int 0)))) aNil))))) (tb (e2 dNe (fVar 7) (fC (.int 0)))) (fVar 7)) (eLst aNil))))
  (sSeq (sIf (tA (tb (fVar 6)) (tb (e2 dNe (fVar 4) (e2 dIx (fVar 2) (fC (.int 0)))))) (sRet (fC (.bl false))) sNx)
  (sSeq (sSet 7 (eTup (aCons (fz (fC (.str ("parting" : PySem.Str)))) (aCons (fz (eCall Pn (aCons (fz (e2 dIx (fVar 1) (fC (.int 0)))) aNil))) (aCons (fz (eCall Pn (aCons (fz (e2 dIx (fVar 1) (fC (.int 1)))) aNil))) (aCons (fz (fVar 4)) aNil))))))
  (sRet (e2 dEq (eN Rp (aCons (eCall Ac (aCons (fz (fVar 7)) (aCons (fz (fVar 5)) aNil))) aNil)) (eN Rp (aCons (fVar 6) aNil)))))))))))
section
variable {tv : Tv} {le : Ev} {Rp : List D → Option Bv} {Pa : MO → List D → Option (Bv × MO)} {Pn Is Su Ac : List D → Option Bv} {x0 x1 p0 p1 Q : D} {m m1 m2 : MO} {L : Nat} {A ns : List Nat} {S : Bool} {xs : List Int} {z : PySem.Str}
theorem prG_go (hA : compL [3] (.nm 3) tv (fVar 3) (nL (List.range 16)) [.par m, .val (.lst [x0, x1]), .no, .no, .no, .no, .no, .no] = some (nL A, [.par m, .val (.lst [x0, x1]), .no, .no, .no, .no, .no, .no]))
    (hle : le [.par m, .val (.lst [x0, x1]), .own (.lst (nL A)), .no, .no, .no, .no, .no] = some (.val (.int (L : Int)), [.par m1, .val (.lst [x0, x1]), .own (.lst (nL A)), .no, .no, .no, .no, .no]))
    (hp : Pa m1 [.lst [x0, x1], .int (L : Int)] = some (.val (.tup [.tup (nL ns), Q]), m2)) (h0 : Pn [x0] = some (.val p0)) (h1 : Pn [x1] = some (.val p1)) (his : Is [.lst [x0, x1], .tup [.tup (nL ns), Q], .int (L : Int)] = some (.val (.bl S)))
    (hsu : Su [.lst [x0, x1], .tup [.int 1, .int (-1)], .tup (nL ns)] = some (.new (.lst (iL xs)))) (hx : xs.length ≤ 1000) (hn : ns.length ≤ 1000)
    (due : Bool) (hdue : due = (S && (decide (L ∈ A) && (decide ((ns.filter fun k => decide (L ≤ k)) = []) && decide ((xs.filter fun x => !decide (x = 0)) = []))))) (htrue : due = true → ∃ r, A = L :: r)
    (hac : Ac [.tup [.str ("parting" : PySem.Str), p0, p1, .int (L : Int)], .tup [.tup (nL ns), Q]] = some (.val (.bl due)))
    (hr : Rp [.bl due] = some (.val (.str z))) (he : dEq (.str z) (.str z) = some (vB true)) :
    outI (prG tv le Rp Pa Pn Is Su Ac (.par m :: .val (.lst [x0, x1]) :: List.replicate (8 - 2) .no)) = some (.val (.bl true), m2) := by
  have l16 : 16 < sizeLine := by decide
  have s0' : 0 ≤ sizeLine := by decide
  have s2' : 2 ≤ sizeLine := by decide
  have s4' : 4 ≤ sizeLine := by decide
  have a0 : ∀ x y : D, atI [x, y] 0 = some x := fun _ _ => rfl
  have a1 : ∀ x y : D, atI [x, y] 1 = some y := fun _ _ => rfl
  have lx : xs.length < sizeLine := sizeLine_l (by omega)
  have ln : ns.length < sizeLine := sizeLine_l (by omega)
  have hnz := nz7 xs
  have hge := pr_ge ns L
  have heq := eq_ints (xs.filter fun x => !decide (x = 0)) []
  rw [iL_nil] at heq
  have heg := eq_nats_nil (ns.filter fun k => decide (L ≤ k))
  have hin := dIn_nLl L A
  generalize hfil : (xs.filter fun x => !decide (x = 0)) = fs at *
  generalize hgil : (ns.filter fun k => decide (L ≤ k)) = gs at *
  generalize decide (fs = []) = df at *
  generalize decide (gs = []) = dg at *
  generalize decide (L ∈ A) = dA at *
  unfold prG
  cases S with
  | false =>
    simp at hdue
    subst hdue
    simp [from0, l16, hA, hle, hp, h0, h1, his, s0', s2', s4', a0, a1, hac, hr, he]
  | true =>
    cases dA with
    | false =>
      simp at hdue
      subst hdue
      simp [from0, l16, hA, hle, hp, h0, h1, his, s0', s2', s4', a0, a1, hac, hr, he, hin]
    | true =>
      cases dg with
      | false =>
        simp at hdue
        subst hdue
        simp [from0, l16, hA, hle, hp, h0, h1, his, s0', s2', s4', a0, a1, hac, hr, he, hin, hge, heg, ln]
      | true =>
        cases df with
        | false =>
          simp at hdue
          subst hdue
          simp [from0, l16, hA, hle, hp, h0, h1, his, s0', s2', s4', a0, a1, hac, hr, he, hin, hge, heg, ln, hsu, lx, hnz, heq]
        | true =>
          simp at hdue
          subst hdue
          obtain ⟨r, hr2⟩ := htrue rfl
          have aL : atI (nL A) 0 = some (.int (L : Int)) := by
            have := atI_nat (xs := nL A) (i := 0) (x := .int (L : Int)) (by rw [hr2]; rfl)
            exact this
          simp [from0, l16, hA, hle, hp, h0, h1, his, s0', s2', s4', a0, a1, hac, hr, he, hin, hge, heg, ln, hsu, lx, hnz, heq, aL]
end
end VL

set_option Elab.async false
set_option linter.all false
set_option maxRecDepth 100000
set_option maxHeartbeats 1000000
/-! Ltw: m__law_parting_right on drawn rules. -/
namespace VL
open PySem PySem.Spec PyProof.Rows L2
theorem ne_one (x : Int) : dNe (.lst [.int x]) (.lst [.int 0]) = some (vB (!decide (x = 0))) := by
  have := ne_ints [x] [0]
  have e : decide ([x] = [(0 : Int)]) = decide (x = 0) := decide_eq_decide.mpr (by simp)
  rw [e] at this
  exact this
noncomputable def paTv (Su : List D → Option Bv) : Tv := (tb (e2 dNe (eCall Su (aCons (fz (fVar 1)) (aCons (fz (eTup (aCons (fz (fC (.int 1))) (aCons (fz (e1 dNeg (fC (.int 1)))) aNil)))) (aCons (fz (eLst (aCons (fz (fVar 3)) aNil))) aNil)))) (eLst (aCons (fz (fC (.int 0))) aNil))))
theorem pr_apart {Su : List D → Option Bv} {R : D} {v : Nat → Int} (m : MO) (h : ∀ k : Nat, k < 16 → Su [R, .tup [.int 1, .int (-1)], .lst [.int (k : Int)]] = some (.new (.lst [.int (v k)]))) :
    compL [3] (.nm 3) (paTv Su) (fVar 3) (nL (List.range 16)) [.par m, .val R, .no, .no, .no, .no, .no, .no] = some (nL ((List.range 16).filter fun k => !decide (v k = 0)), [.par m, .val R, .no, .no, .no, .no, .no, .no]) := by
  have s1' : 1 ≤ sizeLine := by decide
  have s2' : 2 ≤ sizeLine := by decide
  unfold nL
  rw [compL_filter (fun (n : Nat) => D.int (n : Int)) (fun (n : Nat) => D.int (n : Int)) (fun k => !decide (v k = 0)) (List.range 16) fun j hj => ?_]
  have hs := h j (List.mem_range.mp hj)
  have hne := ne_one (v j)
  unfold paTv
  by_cases e : v j = 0
  · rw [e] at hs hne
    exact ⟨[.par m, .val R, .no, .val (.int (j : Int)), .no, .no, .no, .no], [.par m, .val R, .no, .val (.int (j : Int)), .no, .no, .no, .no], by simp, by simp [s1', s2', hs, hne, e], by simp [e], by simp [e]⟩
  · exact ⟨[.par m, .val R, .no, .val (.int (j : Int)), .no, .no, .no, .no], [.par m, .val R, .no, .val (.int (j : Int)), .no, .no, .no, .no], by simp, by simp [s1', s2', hs, hne, e], by simp [e], by simp [e]⟩
noncomputable def prLe (Dr : MO → List D → Option (Bv × MO)) : Ev := (eIf (tA (tb (e2 dNe (fVar 2) (eLst aNil))) (tb (e2 dGt (eCallI Dr (aCons (fVar 0) (aCons (fz (fC (.int 3))) aNil))) (fC (.int 0))))) (e2 dIx (fVar 2) (fC (.int 0))) (eCallI Dr (aCons (fVar 0) (aCons (fz (fC (.int 10))) aNil))))
section
variable {Dr : MO → List D → Option (Bv × MO)} {R : D} {m m1 m2 : MO} {c d : Int} {a : Nat} {A : List Nat}
theorem le_none (h : Dr m [.int 10] = some (.val (.int c), m1)) : prLe Dr [.par m, .val R, .own (.lst (nL [])), .no, .no, .no, .no, .no] = some (.val (.int c), [.par m1, .val R, .own (.lst (nL [])), .no, .no, .no, .no, .no]) := by
  have s0' : 0 ≤ sizeLine := by decide
  have hne := ne_nats_nil []
  rw [show nL [] = [] from rfl] at *
  unfold prLe
  simp [s0', hne, h]
theorem le_head (h : Dr m [.int 3] = some (.val (.int c), m1)) (hc : 0 < c) : prLe Dr [.par m, .val R, .own (.lst (nL (a :: A))), .no, .no, .no, .no, .no] = some (.val (.int (a : Int)), [.par m1, .val R, .own (.lst (nL (a :: A))), .no, .no, .no, .no, .no]) := by
  have s0' : 0 ≤ sizeLine := by decide
  have hne := ne_nats_nil (a :: A)
  have a0 : atI (nL (a :: A)) 0 = some (.int (a : Int)) := by
    have := atI_nat (xs := nL (a :: A)) (i := 0) (x := .int (a : Int)) rfl
    exact this
  unfold prLe
  simp [s0', hne, h, hc, a0]
theorem le_other (h : Dr m [.int 3] = some (.val (.int c), m1)) (hc : ¬ 0 < c) (h2 : Dr m1 [.int 10] = some (.val (.int d), m2)) : prLe Dr [.par m, .val R, .own (.lst (nL (a :: A))), .no, .no, .no, .no, .no] = some (.val (.int d), [.par m2, .val R, .own (.lst (nL (a :: A))), .no, .no, .no, .no, .no]) := by
  have s0' : 0 ≤ sizeLine := by decide
  have hne := ne_nats_nil (a :: A)
  unfold prLe
  simp [s0', hne, h, hc, h2]
end
theorem pr_limit (R : D) {A : List Nat} (hA : ∀ k ∈ A, k < 16) {m : MO} (hm : Src m) : ∃ (L : Nat) (m1 : MO), prLe m__law_draw [.par m, .val R, .own (.lst (nL A)), .no, .no, .no, .no, .no] = some (.val (.int (L : Int)), [.par m1, .val R, .own (.lst (nL A)), .no, .no, .no, .no, .no]) ∧ Src m1 ∧ L < 16 := by
  cases A with
  | nil =>
    obtain ⟨c, m1, g1, g2, g3, g4⟩ := draw_ok hm (n := 10) (by omega) (by omega)
    obtain ⟨L, rfl⟩ : ∃ k : Nat, c = (k : Int) := ⟨c.toNat, by omega⟩
    exact ⟨L, m1, le_none g1, g2, by omega⟩
  | cons a A =>
    obtain ⟨c, m1, g1, g2, g3, g4⟩ := draw_ok hm (n := 3) (by omega) (by omega)
    by_cases hc : 0 < c
    · exact ⟨a, m1, le_head g1 hc, g2, hA a List.mem_cons_self⟩
    · obtain ⟨d, m2, k1, k2, k3, k4⟩ := draw_ok g2 (n := 10) (by omega) (by omega)
      obtain ⟨L, rfl⟩ : ∃ k : Nat, d = (k : Int) := ⟨d.toNat, by omega⟩
      exact ⟨L, m2, le_other g1 hc k1, k2, by omega⟩
section
variable {r0 r1 : Ru} {n0 n1 : Nat}
theorem parting_right_ok (h0 : r0.Dr n0) (h1 : r1.Dr n1) {m : MO} (hm : Src m) : ∃ m', m__law_parting_right m [.lst [r0.d, r1.d]] = some (.val (.bl true), m') ∧ Src m' := by
  have k0 := h0.ok
  have k1 := h1.ok
  have hv : ∀ k : Nat, (1 * told r0 k + -1 * told r1 k = 0) ↔ told r0 k = told r1 k := fun k => by omega
  have hap := pr_apart (Su := m__law_sums) (R := .lst [r0.d, r1.d]) (v := fun k => 1 * told r0 k + -1 * told r1 k) m fun k hk => by
    have := sums_eq k0 k1 1 (-1) (by decide) (by decide) (d := .lst (nL [k])) [k] rfl (fun x hx => by rw [List.mem_singleton.mp hx]; omega) (by simp)
    exact this
  generalize hAd : ((List.range 16).filter fun k => !decide (1 * told r0 k + -1 * told r1 k = 0)) = A at hap
  have hAm : ∀ k, k ∈ A ↔ k < 16 ∧ ¬ told r0 k = told r1 k := fun k => by
    rw [← hAd, List.mem_filter, List.mem_range]
    simp only [Bool.not_eq_true', decide_eq_false_iff_not, hv]
  have hAs : A.Pairwise (· < ·) := by
    rw [← hAd]
    exact List.Pairwise.sublist List.filter_sublist List.pairwise_lt_range
  obtain ⟨L, m1, l1, l2, l3⟩ := pr_limit (.lst [r0.d, r1.d]) (fun k hk => ((hAm k).mp hk).1) hm
  obtain ⟨ns, pss, m2, a1, a2, a3, a4⟩ := paper_ok h0 h1 (some L) l2
  refine ⟨m2, ?_, a2⟩
  have his := is_span_eq k0 k1 a3 (some L)
  have hsu := sums_eq k0 k1 1 (-1) (by decide) (by decide) (d := .tup (nL ns)) ns rfl a3.lt (by have := a3.ln; omega)
  have hac := accepts_P k0 k1 a3 (L := L) (by omega)
  have haz := all_zero_map (fun k => 1 * told r0 k + -1 * told r1 k) ns
  have hge : decide ((ns.filter fun k => decide (L ≤ k)) = []) = ns.all fun k => decide (k < L) := by
    rw [Bool.eq_iff_iff, decide_eq_true_iff, List.all_eq_true, List.filter_eq_nil_iff]
    simp
  have hsame : ∀ k, sameB r0 r1 k = decide (1 * told r0 k + -1 * told r1 k = 0) := fun k => by
    unfold sameB
    exact decide_eq_decide.mpr (hv k).symm
  have hdue : (!sameB r0 r1 L && (spanB [r0, r1] ns pss (some L) && ns.all fun x => decide (x < L) && sameB r0 r1 x)) = (spanB [r0, r1] ns pss (some L) && (decide (L ∈ A) && (decide ((ns.filter fun k => decide (L ≤ k)) = []) && decide (((ns.map fun k => 1 * told r0 k + -1 * told r1 k).filter fun x => !decide (x = 0)) = [])))) := by
    rw [haz, hge]
    have e1 : decide (L ∈ A) = !sameB r0 r1 L := by
      rw [Bool.eq_iff_iff, decide_eq_true_iff, hAm]
      unfold sameB
      simp [l3]
    have e2 : (ns.all fun x => decide (x < L) && sameB r0 r1 x) = ((ns.all fun k => decide (k < L)) && ns.all fun k => decide (1 * told r0 k + -1 * told r1 k = 0)) := by
      rw [Bool.eq_iff_iff, Bool.and_eq_true, List.all_eq_true, List.all_eq_true, List.all_eq_true]
      constructor
      · intro h
        refine ⟨fun x hx => (Bool.and_eq_true_iff.mp (h x hx)).1, fun x hx => ?_⟩
        rw [← hsame]
        exact (Bool.and_eq_true_iff.mp (h x hx)).2
      · intro h x hx
        rw [hsame]
        exact Bool.and_eq_true_iff.mpr ⟨h.1 x hx, h.2 x hx⟩
    rw [e1, e2, Bool.and_left_comm]
  have htrue : (!sameB r0 r1 L && (spanB [r0, r1] ns pss (some L) && ns.all fun x => decide (x < L) && sameB r0 r1 x)) = true → ∃ r, A = L :: r := fun h => by
    have h' := h
    rw [hdue] at h'
    simp only [Bool.and_eq_true] at h h'
    obtain ⟨hs, hLA, _⟩ := h'
    have hLA := of_decide_eq_true hLA
    have hall := List.all_eq_true.mp h.2.2
    cases hA2 : A with
    | nil => rw [hA2] at hLA; cases hLA
    | cons a r =>
      have haA : a ∈ A := by rw [hA2]; exact List.mem_cons_self
      have hle : a ≤ L := by
        rw [hA2] at hLA hAs
        rcases List.mem_cons.mp hLA with e | hm2
        · omega
        · have := (List.pairwise_cons.mp hAs).1 L hm2
          omega
      have hna := ((hAm a).mp haA).2
      refine ⟨r, ?_⟩
      by_cases hlt : a < L
      · exfalso
        have := span_tells k0 k1 a3 (some L) hs a (fun l e => by cases e; exact hlt) (r0.tl.map (1 * ·)) (r1.tl.map (-1 * ·)) fun x hx _ => by
          rw [psi_scaled]
          have := (Bool.and_eq_true_iff.mp (hall x hx)).2
          rw [hsame] at this
          exact of_decide_eq_true this
        rw [psi_scaled] at this
        exact hna ((hv a).mp this)
      · have : a = L := by omega
        rw [this]
  obtain ⟨z, q1, q2⟩ := rp_b (!sameB r0 r1 L && (spanB [r0, r1] ns pss (some L) && ns.all fun x => decide (x < L) && sameB r0 r1 x))
  have hb : b__law_parting_right = prG (paTv m__law_sums) (prLe m__law_draw) dRepr m__law_paper m__law_plain m__law_is_span m__law_sums m_accepts := rfl
  unfold m__law_parting_right
  rw [hb, runI2]
  exact prG_go hap l1 a1 (plain_eq k0) (plain_eq k1) his hsu (by rw [List.length_map]; have := a3.ln; omega) (by have := a3.ln; omega) _ hdue htrue hac q1 q2
end
end VL

set_option Elab.async false
set_option linter.all false
set_option maxRecDepth 100000
set_option maxHeartbeats 1000000
/-! Ltx: m__law_right, m_law. -/
namespace VL
open PySem PySem.Spec PyProof.Rows L2
noncomputable def rgB (Sl' Dr Rw Sp Pr : MO → List D → Option (Bv × MO)) : Sm :=
  (sSeq (sSet 1 (eCallI Sl' (aCons (fVar 0) (aCons (fz (e2 dAdd (fC (.int 1)) (eCallI Dr (aCons (fVar 0) (aCons (fz (fC (.int 2))) aNil))))) (aCons (fz (e2 dAdd (fC (.int 1)) (eCallI Dr (aCons (fVar 0) (aCons (fz (fC (.int 2))) aNil))))) aNil)))))
  (sSeq (sSet 2 (eCallI Sl' (aCons (fVar 0) (aCons (fz (e2 dAdd (fC (.int 1)) (eCallI Dr (aCons (fVar 0) (aCons (fz (fC (.int 2))) aNil))))) (aCons (fz (fC (.int 1))) aNil)))))
  (sSeq (sPar [3, 4] (sCons (eCallI Dr (aCons (fVar 0) (aCons (fz (fC (.int 3))) aNil))) (sCons (eTup (aCons (fz (e2 dSub (eCallI Dr (aCons (fVar 0) (aCons (fz (fC (.int 3))) aNil))) (fC (.int 1)))) (aCons (fz (e2 dSub (eCallI Dr (aCons (fVar 0) (aCons (fz (fC (.int 3))) aNil))) (fC (.int 1)))) aNil))) sNil)))
  (sSeq (sIf (tb (e2 dEq (fVar 3) (fC (.int 0)))) (sSet 2 (fVar 1)) sNx)
  (sSeq (sIf (tb (e2 dEq (fVar 3) (fC (.int 1)))) (sSet 2 (eTup (aCons (fz (e2 dIx (fVar 1) (fC (.int 0)))) (aCons (fz (e2 dIx (fVar 1) (fC (.int 1)))) (aCons (fz (e2 dIx (fVar 1) (fC (.int 2)))) (aCons (fz (eCallI Rw (aCons (fVar 0) (aCons (fz (eN dLen (aCons (e2 dIx (fVar 1) (fC (.int 2))) aNil))) (aCons (fz (fC (.int 1))) aNil))))) aNil)))))) sNx)
  (sSeq (sSet 5 (eLst (aCons (fz (fVar 1)) (aCons (fz (fVar 2)) aNil))))
  (sSeq (sIf (tO (tN (tb (eCallI Sp (aCons (fVar 0) (aCons (fz (fVar 5)) (aCons (fz (eTup (aCons (fz (fC (.int 1))) (aCons (fz (e1 dNeg (fC (.int 1)))) aNil)))) aNil)))))) (tN (tb (eCallI Sp (aCons (fVar 0) (aCons (fz (fVar 5)) (aCons (fz (fVar 4)) aNil))))))) (sRet (fC (.bl false))) sNx)
  (sRet (eA (eCallI Pr (aCons (fVar 0) (aCons (fz (fVar 5)) aNil))) (eCallI Pr (aCons (fVar 0) (aCons (fz (fVar 5)) aNil))))))))))))
section
variable {Sl' Dr Rw Sp Pr : MO → List D → Option (Bv × MO)} {m m1 m2 m3 m4 m5 m6 m7 m8 m9 m10 m11 m12 m13 : MO} {c1 c2 c3 way e0 e1 : Int} {x0 x1 x2 : D}
theorem rgB_go (d1 : Dr m [.int 2] = some (.val (.int c1), m1)) (d2 : Dr m1 [.int 2] = some (.val (.int c2), m2)) (s1 : Sl' m2 [.int (1 + c1), .int (1 + c2)] = some (.val x0, m3))
    (d3 : Dr m3 [.int 2] = some (.val (.int c3), m4)) (s2 : Sl' m4 [.int (1 + c3), .int 1] = some (.val x1, m5)) (d4 : Dr m5 [.int 3] = some (.val (.int way), m6)) (d5 : Dr m6 [.int 3] = some (.val (.int e0), m7)) (d6 : Dr m7 [.int 3] = some (.val (.int e1), m8))
    (hx : (way = 0 ∧ x2 = x0 ∧ m9 = m8) ∨ (way = 1 ∧ ∃ a b st t, x0 = .tup [a, b, .tup st, t] ∧ ∃ t', Rw m8 [.int (st.length : Int), .int 1] = some (.val t', m9) ∧ x2 = .tup [a, b, .tup st, t']) ∨ (way ≠ 0 ∧ way ≠ 1 ∧ x2 = x1 ∧ m9 = m8))
    (p1 : Sp m9 [.lst [x0, x2], .tup [.int 1, .int (-1)]] = some (.val (.bl true), m10)) (p2 : Sp m10 [.lst [x0, x2], .tup [.int (e0 - 1), .int (e1 - 1)]] = some (.val (.bl true), m11)) (q1 : Pr m11 [.lst [x0, x2]] = some (.val (.bl true), m12)) (q2 : Pr m12 [.lst [x0, x2]] = some (.val (.bl true), m13)) :
    outI (rgB Sl' Dr Rw Sp Pr (.par m :: List.replicate (6 - 1) .no)) = some (.val (.bl true), m13) := by
  have z2 : 2 ≤ sizeLine := by decide
  have z4 : 4 ≤ sizeLine := by decide
  unfold rgB
  rcases hx with ⟨rfl, rfl, rfl⟩ | ⟨rfl, a, b, st, t, rfl, t', r, rfl⟩ | ⟨h0, h1, rfl, rfl⟩
  · simp [d1, d2, d3, d4, d5, d6, s1, s2, p1, p2, q1, q2, z2]
  · have a0 : atI [a, b, .tup st, t] 0 = some a := rfl
    have a1 : atI [a, b, .tup st, t] 1 = some b := rfl
    have a2 : atI [a, b, .tup st, t] 2 = some (.tup st) := rfl
    simp [d1, d2, d3, d4, d5, d6, s1, s2, p1, p2, q1, q2, z2, z4, a0, a1, a2, r]
  · simp [d1, d2, d3, d4, d5, d6, s1, s2, p1, p2, q1, q2, z2, h0, h1]
end
theorem right_ok {m : MO} (hm : Src m) : ∃ m', m__law_right m [] = some (.val (.bl true), m') ∧ Src m' := by
  obtain ⟨c1, m1, d1, h1, l1, u1⟩ := draw_ok hm (n := 2) (by omega) (by omega)
  obtain ⟨c2, m2, d2, h2, l2, u2⟩ := draw_ok h1 (n := 2) (by omega) (by omega)
  obtain ⟨n0, hn0⟩ : ∃ k : Nat, 1 + c1 = (k : Int) := ⟨(1 + c1).toNat, by omega⟩
  obtain ⟨r0, m3, s1, h3, g0⟩ := small_ok h2 (n := n0) (w := 1 + c2) (by omega) (by omega) (by omega) (by omega)
  obtain ⟨c3, m4, d3, h4, l3, u3⟩ := draw_ok h3 (n := 2) (by omega) (by omega)
  obtain ⟨n1, hn1⟩ : ∃ k : Nat, 1 + c3 = (k : Int) := ⟨(1 + c3).toNat, by omega⟩
  obtain ⟨r1, m5, s2, h5, g1⟩ := small_ok h4 (n := n1) (w := 1) (by omega) (by omega) (by omega) (by omega)
  obtain ⟨way, m6, d4, h6, l4, u4⟩ := draw_ok h5 (n := 3) (by omega) (by omega)
  obtain ⟨e0, m7, d5, h7, l5, u5⟩ := draw_ok h6 (n := 3) (by omega) (by omega)
  obtain ⟨e1, m8, d6, h8, l6, u6⟩ := draw_ok h7 (n := 3) (by omega) (by omega)
  rw [← hn0] at s1
  rw [← hn1] at s2
  have hx : ∃ (r2 : Ru) (n2 : Nat) (m9 : MO), r2.Dr n2 ∧ Src m9 ∧ ((way = 0 ∧ r2.d = r0.d ∧ m9 = m8) ∨ (way = 1 ∧ ∃ a b st t, r0.d = .tup [a, b, .tup st, t] ∧ ∃ t', m__law_row m8 [.int (st.length : Int), .int 1] = some (.val t', m9) ∧ r2.d = .tup [a, b, .tup st, t']) ∨ (way ≠ 0 ∧ way ≠ 1 ∧ r2.d = r1.d ∧ m9 = m8)) := by
    by_cases w0 : way = 0
    · exact ⟨r0, n0, m8, g0, h8, .inl ⟨w0, rfl, rfl⟩⟩
    · by_cases w1 : way = 1
      · obtain ⟨tl, m9, k1, k2, k3, k4⟩ := row_ok h8 (n := n0) (w := 1) (by have := g0.n2; omega) (by omega) (by omega)
        refine ⟨{ r0 with tl := tl }, n0, m9, { n1 := g0.n1, n2 := g0.n2, evl := g0.evl, odl := g0.odl, stl := g0.stl, tll := k3, evr := g0.evr, odr := g0.odr, stb := g0.stb, tlb := fun y hy => bd3w (k4 y hy) (by omega), fit := g0.fit }, k2, .inr (.inl ⟨w1, mt r0.ev, mt r0.od, iL r0.st, .tup (iL r0.tl), rfl, .tup (iL tl), ?_, rfl⟩)⟩
        rw [iL_len, g0.stl]
        exact k1
      · exact ⟨r1, n1, m8, g1, h8, .inr (.inr ⟨w0, w1, rfl, rfl⟩)⟩
  obtain ⟨r2, n2, m9, g2, h9, hx⟩ := hx
  obtain ⟨m10, p1, h10⟩ := span_right_ok g0 g2 1 (-1) (by decide) (by decide) h9
  obtain ⟨m11, p2, h11⟩ := span_right_ok g0 g2 (e0 - 1) (e1 - 1) (by omega) (by omega) h10
  obtain ⟨m12, q1, h12⟩ := parting_right_ok g0 g2 h11
  obtain ⟨m13, q2, h13⟩ := parting_right_ok g0 g2 h12
  refine ⟨m13, ?_, h13⟩
  have hb : b__law_right = rgB m__law_small m__law_draw m__law_row m__law_span_right m__law_parting_right := rfl
  unfold m__law_right
  rw [hb, runI1]
  exact rgB_go d1 d2 s1 d3 s2 d4 d5 d6 hx p1 p2 q1 q2
/-! ### law -/
noncomputable def lwB (So Ce : List D → Option Bv) (cf : Ev) : Sm := (sSeq (sSet 2 (eCall So (aCons (fz (eCall Ce (aCons (fz (fVar 0)) (aCons (fz (fVar 1)) aNil)))) aNil)))
  (sIf (tN (tb (eN dAll (aCons (eComp [3] (.nm 3) (iRan1 (aCons (fC (.int 3)) aNil)) tYs cf) aNil)))) (sRet (fC (.bl false))) sNx))
theorem lwB_go {So Ce : List D → Option Bv} {cf : Ev} {cells : D} {k : Nat} {c : D} {m m' : MO} {s2 : Sl} (hc : Ce [cells, .int (k : Int)] = some (.val c)) (hs : So [c] = some (.new m)) (p2 : s2.free = true)
    (h : compL [3] (.nm 3) tYs cf (nL (List.range 3)) [.val cells, .val (.int (k : Int)), .own m, .no] = some ([.bl true, .bl true, .bl true], [.val cells, .val (.int (k : Int)), .own m', .no])) :
    lwB So Ce cf [.val cells, .val (.int (k : Int)), s2, .no] = some (.nx, [.val cells, .val (.int (k : Int)), .own m', .no]) := by
  have l3 : 3 < sizeLine := by decide
  have hb : blsD [.bl true, .bl true, .bl true] = some [true, true, true] := rfl
  unfold lwB
  simp [hc, hs, p2, from0, l3, h, hb]
theorem turns_src (s0 s1 : Sl) {m : MO} (hm : Src m) : ∃ m', compL [3] (.nm 3) tYs (eCallI m__law_right (aCons (fVar 2) aNil)) (nL (List.range 3)) [s0, s1, .own m, .no] = some ([.bl true, .bl true, .bl true], [s0, s1, .own m', .no]) ∧ Src m' := by
  have lp := compL_src (vs := [3]) (t := .nm 3) (fe := eCallI m__law_right (aCons (fVar 2) aNil)) (fun (n : Nat) => D.int (n : Int)) (fun m => [s0, s1, .own m, .no]) (fun y => y = .bl true) (List.range 3) (fun j hj m hm => by
    obtain ⟨m', g1, g2⟩ := right_ok hm
    exact ⟨[s0, s1, .own m, .val (.int (j : Int))], .bl true, [s0, s1, .own m', .val (.int (j : Int))], m', by simp, by simp [g1], by simp, by simp, g2, rfl⟩) m hm
  obtain ⟨ys, m', g1, g2, g3, g4⟩ := lp
  match ys, g3, g4, g1 with
  | [x, y, z], _, g4, g1 =>
    rw [g4 x (by simp), g4 y (by simp), g4 z (by simp)] at g1
    exact ⟨m', g1, g2⟩
theorem law_loop (zs : List Int) (hl : zs.length ≤ 63) : ∀ (todo : List Nat) (s1 s2 : Sl), (∀ k ∈ todo, k < 5) → Pl s1 → s2.free = true → ∃ s1' s2', forL (.nm 1) (lwB m__law_source m__law_cell (eCallI m__law_right (aCons (fVar 2) aNil))) (nL todo) [.val (.fl (iL zs)), s1, s2, .no] = some (.nx, [.val (.fl (iL zs)), s1', s2', .no])
  | [], s1, s2, _, _, _ => ⟨s1, s2, rfl⟩
  | k :: todo, s1, s2, hk, p1, p2 => by
    obtain ⟨c, g1⟩ := cell_ok zs hl k (hk k List.mem_cons_self)
    obtain ⟨m, g2, hm⟩ := source_ok c
    obtain ⟨m', g3, hm'⟩ := turns_src (.val (.fl (iL zs))) (.val (.int (k : Int))) hm
    obtain ⟨t1, t2, i1⟩ := law_loop zs hl todo (.val (.int (k : Int))) (.own m') (fun x hx => hk x (List.mem_cons_of_mem _ hx)) (Pl.v _) rfl
    refine ⟨t1, t2, ?_⟩
    have e : nL (k :: todo) = .int (k : Int) :: nL todo := rfl
    rw [e, forL_cons]
    have ha : asg (.nm 1) (.int (k : Int)) [.val (.fl (iL zs)), s1, s2, .no] = some [.val (.fl (iL zs)), .val (.int (k : Int)), s2, .no] := by simp [p1.fr]
    rw [ha]
    dsimp only
    rw [lwB_go g1 g2 p2 g3]
    exact i1
noncomputable def lwG (B : Sm) : Sm := (sSeq (sFor (.nm 1) (iRan1 (aCons (eN dMax2 (aCons (fC (.int 2)) (aCons (eN dMin2 (aCons (eN dLen (aCons (fVar 0) aNil)) (aCons (fC (.int 5)) aNil))) aNil))) aNil)) B)
  (sRet (fC (.bl true))))
theorem lwG_go {B : Sm} {zs : List Int} {k : Nat} {s1 s2 : Sl} (hk : max 2 (min (zs.length : Int) 5) = (k : Int)) (hk2 : k ≤ 5) (h : forL (.nm 1) B (nL (List.range k)) [.val (.fl (iL zs)), .no, .no, .no] = some (.nx, [.val (.fl (iL zs)), s1, s2, .no])) :
    outB (lwG B (.val (.fl (iL zs)) :: List.replicate (4 - 1) .no)) = some (.val (.bl true)) := by
  have okk : okR (k : Int) = true := okR_nat (by omega)
  unfold lwG
  simp [hk, okk, from0, h]
theorem law_ok (zs : List Int) (hl : zs.length ≤ 63) : m_law [.fl (iL zs)] = some (.val (.bl true)) := by
  obtain ⟨k, hk⟩ : ∃ k : Nat, max 2 (min (zs.length : Int) 5) = (k : Int) := ⟨(max 2 (min (zs.length : Int) 5)).toNat, by omega⟩
  obtain ⟨s1, s2, h⟩ := law_loop zs hl (List.range k) .no .no (fun x hx => by have := List.mem_range.mp hx; omega) Pl.no rfl
  have hb : b_law = lwG (lwB m__law_source m__law_cell (eCallI m__law_right (aCons (fVar 2) aNil))) := rfl
  unfold m_law
  rw [hb, runV1]
  exact lwG_go hk (by omega) h
end VL

set_option Elab.async false
set_option linter.all false
set_option maxRecDepth 100000
set_option maxHeartbeats 1000000
/-! Lw: the law holds of its cells. -/
namespace VL
open PySem PySem.Spec PyProof.Rows L2
theorem reps_iL (K : PySem.W.Frag) (cl : Nat → Addr) (S : Hp) : ∀ zs : List Int, Reps K cl S (iL zs) (zs.map V.int)
  | [] => rfl
  | z :: zs => ⟨_, _, rfl, rfl, reps_iL K cl S zs⟩
theorem law_start {K : PySem.W.Frag} {H : Hp} {a : Addr} {zs : List Int} (hl : zs.length ≤ 63) (hq : SqL K H a (zs.map V.int)) : spV K (clF K) 1 m_law [.ref a] H (fun v _ => v = .bl true) E0 :=
  ⟨rfl, H, [.fl (iL zs)], _, Sub.rfl', ⟨_, _, rfl, ⟨a, _, rfl, hq, reps_iL K (clF K) H zs⟩, rfl⟩, law_ok zs hl, fun v H' S' _ b => b⟩
end VL

set_option Elab.async false
set_option linter.all false
set_option maxRecDepth 100000
set_option maxHeartbeats 0
open PySem PySem.W PySem.Calls PyProof.Rows
theorem PySem.Challenge.cw_halverules_k66_whole_accepted_claims_are_holds : PySem.Challenge.rw_halverules_k66_whole_accepted_claims_are.Holds := by
  w_on; o_law
  refine HandSHeadRun.head_any (r := OpenLaw.row PySem.Challenge.rw_halverules_k66_whole_accepted_claims_are) (q := view (OpenLaw.row PySem.Challenge.rw_halverules_k66_whole_accepted_claims_are).prog [66]) (H := VL.hkL) (ob := VL.obL) (M := 6000) (loose := VL.nmL) (d := HandSHeadRun.topDef (OpenLaw.row PySem.Challenge.rw_halverules_k66_whole_accepted_claims_are).prog 66) (kwd := []) VL.ob_eqL
    (by kernel_rfl) (fun s => by kernel_rfl) VL.runL (by kernel_rfl) (by kernel_rfl) (by kernel_rfl) (by rfl) (by first | assumption | decide +kernel) (by decide +kernel) ⟨rfl, rfl, rfl, rfl, rfl, by decide +kernel⟩ ?hw ?hc
  case hw => w_witness2
  case hc =>
    refine VL.own_walk (l := PySem.Challenge.rw_halverules_k66_whole_accepted_claims_are) (n := 63) (k := 12) (y := "cells") rfl (by decide) rfl ⟨rfl, by decide, by decide⟩ ?_
    intro w mg g h ⟨K, KX, c⟩ G hg
    obtain ⟨fd, hb, hF⟩ := VL.all_ok (P := (PySem.Challenge.rw_halverules_k66_whole_accepted_claims_are).prog) KX G c
    have hg' : g = He.ga K "law" := by
      have e := He.glo_ok KX G (c.t.d.fact 50)
      have e2 := hg.symm.trans e
      cases e2
      rfl
    subst hg'
    exact ⟨K, fd, _, KX, hb, fun H a zs hl hq => VL.law_start hl hq, fun base _ _ => hF base⟩
