import PyProof.Rows.All
import PySem.Challenge.RW_boughrules_k12_main_rows_put_together
import HandS.ForMost
import HandS.ForExc
import HandS.TupAny
import HandS.IsInst
import HandS.Flow
import HandS.Conv
import HandS.TupMul
import HandS.Wide
import KE.GoesEnum
import HandS.Zip
import HandS.Defaults
import HandS.NoneIn
import HandS.Small
import HandS.WordsExc
import HandS.ExcIs
import HandS.Deep
import HandS.Codes
import KE.IntBitsLaws
import HandS.ExcBuiltin
import HandS.EndBits
set_option Elab.async false
set_option linter.all false
set_option maxRecDepth 100000
set_option maxHeartbeats 4000000
/-! Dl0: owned containers over a frozen view of the heap. Own work. -/
namespace Dl
open PySem PySem.Spec PyProof.Rows L2

abbrev D := PyData
abbrev St := List (Option V)

theorem same_new {H : Hp} {p : Addr} {o : HO} (h : H p = none) : Same H (upd H p o) := fun a u e => by
  rw [upd_ne (ne_of_none e h)]
  exact e
theorem rd_mono {H H' : Hp} {a : Addr} {u : HO} (e : Same H H') (h : Rd H a u) : Rd H' a u := by
  rcases h with h | ⟨o, h⟩
  · exact .inl (e a _ h)
  · exact .inr ⟨o, e a _ h⟩
theorem l_mono {K : PySem.W.Frag} {H H' : Hp} {a : Addr} {xs : List V} (e : Same H H') (h : SqL K H a xs) : SqL K H' a xs := by
  rcases h with h | h
  · exact .inl (rd_mono e h)
  · exact .inr h
theorem t_mono {K : PySem.W.Frag} {H H' : Hp} {a : Addr} {xs : List V} (e : Same H H') (h : SqT K H a xs) : SqT K H' a xs := by
  rcases h with h | h
  · exact .inl (rd_mono e h)
  · exact .inr h
mutual
/-- the data that stand at a value: lists are tracked themselves, tuples may be written ones -/
inductive Dp (K : PySem.W.Frag) (H : Hp) : V → PyData → Prop
  | non : Dp K H .non .none
  | bl (b : Bool) : Dp K H (.bl b) (.bool b)
  | int (i : Int) : Dp K H (.int i) (.int i)
  | str (x : Str) : Dp K H (.str x) (.str x)
  | lst {a : Addr} {xs : List V} {ds : List PyData} : H a = some (.lst xs) → DpAll K H xs ds → Dp K H (.ref a) (.list ds)
  | tup {a : Addr} {xs : List V} {ds : List PyData} : SqT K H a xs → DpAll K H xs ds → Dp K H (.ref a) (.tuple ds)
inductive DpAll (K : PySem.W.Frag) (H : Hp) : List V → List PyData → Prop
  | nil : DpAll K H [] []
  | cons {v : V} {vs : List V} {d : PyData} {ds : List PyData} : Dp K H v d → DpAll K H vs ds → DpAll K H (v :: vs) (d :: ds)
end
mutual
theorem dp_mono {K : PySem.W.Frag} {H H' : Hp} (e : Same H H') : ∀ {v : V} {d : D}, Dp K H v d → Dp K H' v d
  | _, _, .non => .non
  | _, _, .bl b => .bl b
  | _, _, .int i => .int i
  | _, _, .str x => .str x
  | _, _, .lst h q => .lst (e _ _ h) (dpAll_mono e q)
  | _, _, .tup h q => .tup (t_mono e h) (dpAll_mono e q)
theorem dpAll_mono {K : PySem.W.Frag} {H H' : Hp} (e : Same H H') : ∀ {vs : List V} {ds : List D}, DpAll K H vs ds → DpAll K H' vs ds
  | _, _, .nil => .nil
  | _, _, .cons h q => .cons (dp_mono e h) (dpAll_mono e q)
end
mutual
theorem Dp.out {K : PySem.W.Frag} {H : Hp} : ∀ {v : V} {d : D}, Dp K H v d → L2.Dp K H v d
  | _, _, .non => .non
  | _, _, .bl b => .bl b
  | _, _, .int i => .int i
  | _, _, .str x => .str x
  | _, _, .lst h q => .lst (.inl (.inl h)) (DpAll.out q)
  | _, _, .tup h q => .tup h (DpAll.out q)
theorem DpAll.out {K : PySem.W.Frag} {H : Hp} : ∀ {vs : List V} {ds : List D}, DpAll K H vs ds → L2.DpAll K H vs ds
  | _, _, .nil => .nil
  | _, _, .cons h q => .cons (Dp.out h) (DpAll.out q)
end

/-! ### lists of data -/
section
variable {K : PySem.W.Frag} {H : Hp}
theorem DpAll.length : ∀ {vs : List V} {ds : List D}, DpAll K H vs ds → vs.length = ds.length
  | _, _, .nil => rfl
  | _, _, .cons _ q => congrArg (· + 1) (DpAll.length q)
theorem DpAll.append : ∀ {vs ws : List V} {ds es : List D}, DpAll K H vs ds → DpAll K H ws es → DpAll K H (vs ++ ws) (ds ++ es)
  | _, _, _, _, .nil, q => q
  | _, _, _, _, .cons h r, q => .cons h (DpAll.append r q)
theorem DpAll.get : ∀ {vs : List V} {ds : List D} {i : Nat} {d : D}, DpAll K H vs ds → ds[i]? = some d → ∃ v, vs[i]? = some v ∧ Dp K H v d
  | _, _, _, _, .nil, e => by simp at e
  | _, _, 0, _, .cons h _, e => by simp at e; subst e; exact ⟨_, rfl, h⟩
  | _, _, i + 1, d, .cons _ q, e => by
    obtain ⟨v, h1, h2⟩ := DpAll.get (i := i) (d := d) q (by simpa using e)
    exact ⟨v, by simpa using h1, h2⟩
theorem DpAll.set : ∀ {vs : List V} {ds : List D} {i : Nat} {v : V} {d : D}, DpAll K H vs ds → Dp K H v d → DpAll K H (vs.set i v) (ds.set i d)
  | _, _, _, _, _, .nil, _ => .nil
  | _, _, 0, _, _, .cons _ q, h => .cons h q
  | _, _, i + 1, _, _, .cons h q, h' => .cons h (DpAll.set q h')
theorem DpAll.take : ∀ {vs : List V} {ds : List D} (n : Nat), DpAll K H vs ds → DpAll K H (vs.take n) (ds.take n)
  | _, _, 0, _ => .nil
  | _, _, _ + 1, .nil => .nil
  | _, _, n + 1, .cons h q => .cons h (DpAll.take n q)
theorem DpAll.drop : ∀ {vs : List V} {ds : List D} (n : Nat), DpAll K H vs ds → DpAll K H (vs.drop n) (ds.drop n)
  | _, _, 0, q => q
  | _, _, _ + 1, .nil => .nil
  | _, _, n + 1, .cons _ q => DpAll.drop n q
theorem DpAll.eraseIdx : ∀ {vs : List V} {ds : List D} (n : Nat), DpAll K H vs ds → DpAll K H (vs.eraseIdx n) (ds.eraseIdx n)
  | _, _, _, .nil => .nil
  | _, _, 0, .cons _ q => q
  | _, _, n + 1, .cons h q => .cons h (DpAll.eraseIdx n q)
theorem DpAll.one {v : V} {d : D} (h : Dp K H v d) : DpAll K H [v] [d] := .cons h .nil
theorem DpAll.rep {v : V} {d : D} (h : Dp K H v d) : ∀ n : Nat, DpAll K H (List.replicate n v) (List.replicate n d)
  | 0 => .nil
  | n + 1 => .cons h (DpAll.rep h n)
theorem DpAll.ints : ∀ (ns : List Int), DpAll K H (ns.map V.int) (ns.map PyData.int)
  | [] => .nil
  | n :: r => .cons (.int n) (DpAll.ints r)
theorem DpAll.of_ints : ∀ {vs : List V} {ns : List Int}, DpAll K H vs (ns.map PyData.int) → vs = ns.map V.int
  | _, [], h => by cases h; rfl
  | _, n :: r, h => by
    cases h with
    | cons h q =>
      cases h
      rw [DpAll.of_ints q] <;> rfl
theorem DpAll.of_strs : ∀ {vs : List V} {ns : List Str}, DpAll K H vs (ns.map PyData.str) → vs = ns.map V.str
  | _, [], h => by cases h; rfl
  | _, n :: r, h => by
    cases h with
    | cons h q =>
      cases h
      rw [DpAll.of_strs q] <;> rfl
theorem DpAll.of_bools : ∀ {vs : List V} {ns : List Bool}, DpAll K H vs (ns.map PyData.bool) → vs = ns.map V.bl
  | _, [], h => by cases h; rfl
  | _, n :: r, h => by
    cases h with
    | cons h q =>
      cases h
      rw [DpAll.of_bools q] <;> rfl
theorem DpAll.strs : ∀ (ns : List Str), DpAll K H (ns.map V.str) (ns.map PyData.str)
  | [] => .nil
  | n :: r => .cons (.str n) (DpAll.strs r)
end

/-! ### what is owned -/
inductive Cn where
  | val (d : D)
  | ls (ds : List D)
  | dk (kvs : List (Key × D))
  | lc (cs : List Cn)
  | ob (C : Addr) (fs : List (Str × Cn))
  | raw (v : V)
  | ro (ds : List D)

inductive KvAll (K : PySem.W.Frag) (F : Hp) : List (Key × V) → List (Key × D) → Prop
  | nil : KvAll K F [] []
  | cons {k : Key} {v : V} {d : D} {vs : List (Key × V)} {ds : List (Key × D)} : Dp K F v d → KvAll K F vs ds → KvAll K F ((k, v) :: vs) ((k, d) :: ds)
theorem KvAll.mono {K : PySem.W.Frag} {F F' : Hp} (e : Same F F') : ∀ {vs : List (Key × V)} {ds : List (Key × D)}, KvAll K F vs ds → KvAll K F' vs ds
  | _, _, .nil => .nil
  | _, _, .cons h q => .cons (dp_mono e h) (KvAll.mono e q)

mutual
inductive Own (K : PySem.W.Frag) (F H : Hp) : V → Cn → List Addr → Prop
  | val {v : V} {d : D} : Dp K F v d → Own K F H v (.val d) []
  | raw {v : V} : Own K F H v (.raw v) []
  | ro {p : Addr} {vs : List V} {ds : List D} : SqL K F p vs → DpAll K F vs ds → Own K F H (.ref p) (.ro ds) []
  | ls {p : Addr} {vs : List V} {ds : List D} : H p = some (.lst vs) → DpAll K F vs ds → Own K F H (.ref p) (.ls ds) [p]
  | dk {p : Addr} {vs : List (Key × V)} {ds : List (Key × D)} : H p = some (.dK vs) → KvAll K F vs ds → Own K F H (.ref p) (.dk ds) [p]
  | lc {p : Addr} {vs : List V} {cs : List Cn} {fp : List Addr} : H p = some (.lst vs) → OwnAll K F H vs cs fp → Own K F H (.ref p) (.lc cs) (p :: fp)
  | ob {p C dx : Addr} {vs : List (Str × V)} {cs : List (Str × Cn)} {fp : List Addr} : H p = some (.ins C dx vs) → H dx = some (.own p) → OwnF K F H vs cs fp → Own K F H (.ref p) (.ob C cs) (p :: dx :: fp)
inductive OwnAll (K : PySem.W.Frag) (F H : Hp) : List V → List Cn → List Addr → Prop
  | nil : OwnAll K F H [] [] []
  | cons {v : V} {c : Cn} {vs : List V} {cs : List Cn} {f1 f2 : List Addr} : Own K F H v c f1 → OwnAll K F H vs cs f2 → OwnAll K F H (v :: vs) (c :: cs) (f1 ++ f2)
inductive OwnF (K : PySem.W.Frag) (F H : Hp) : List (Str × V) → List (Str × Cn) → List Addr → Prop
  | nil : OwnF K F H [] [] []
  | cons {n : Str} {v : V} {c : Cn} {vs : List (Str × V)} {cs : List (Str × Cn)} {f1 f2 : List Addr} : Own K F H v c f1 → OwnF K F H vs cs f2 → OwnF K F H ((n, v) :: vs) ((n, c) :: cs) (f1 ++ f2)
end
mutual
theorem Own.mono {K : PySem.W.Frag} {F F' H H' : Hp} (e : Same F F') : ∀ {v : V} {c : Cn} {fp : List Addr}, (∀ p ∈ fp, H' p = H p) → Own K F H v c fp → Own K F' H' v c fp
  | _, _, _, _, .val h => .val (dp_mono e h)
  | _, _, _, _, .raw => .raw
  | _, _, _, _, .ro h q => .ro (l_mono e h) (dpAll_mono e q)
  | _, _, _, k, .ls h q => .ls (by rw [k _ (by simp)]; exact h) (dpAll_mono e q)
  | _, _, _, k, .dk h q => .dk (by rw [k _ (by simp)]; exact h) (q.mono e)
  | _, _, _, k, .lc h q => .lc (by rw [k _ (by simp)]; exact h) (OwnAll.mono e (fun p hp => k p (List.mem_cons_of_mem _ hp)) q)
  | _, _, _, k, .ob h h2 q => .ob (by rw [k _ (by simp)]; exact h) (by rw [k _ (by simp)]; exact h2) (OwnF.mono e (fun p hp => k p (List.mem_cons_of_mem _ (List.mem_cons_of_mem _ hp))) q)
theorem OwnAll.mono {K : PySem.W.Frag} {F F' H H' : Hp} (e : Same F F') : ∀ {v : List V} {c : List Cn} {fp : List Addr}, (∀ p ∈ fp, H' p = H p) → OwnAll K F H v c fp → OwnAll K F' H' v c fp
  | _, _, _, _, .nil => .nil
  | _, _, _, k, .cons h q => .cons (Own.mono e (fun p hp => k p (List.mem_append_left _ hp)) h) (OwnAll.mono e (fun p hp => k p (List.mem_append_right _ hp)) q)
theorem OwnF.mono {K : PySem.W.Frag} {F F' H H' : Hp} (e : Same F F') : ∀ {v : List (Str × V)} {c : List (Str × Cn)} {fp : List Addr}, (∀ p ∈ fp, H' p = H p) → OwnF K F H v c fp → OwnF K F' H' v c fp
  | _, _, _, _, .nil => .nil
  | _, _, _, k, .cons h q => .cons (Own.mono e (fun p hp => k p (List.mem_append_left _ hp)) h) (OwnF.mono e (fun p hp => k p (List.mem_append_right _ hp)) q)
end
mutual
theorem Own.there {K : PySem.W.Frag} {F H : Hp} : ∀ {v : V} {c : Cn} {fp : List Addr}, Own K F H v c fp → ∀ p ∈ fp, ∃ o, H p = some o
  | _, _, _, .val _, p, hp => nomatch hp
  | _, _, _, .raw, p, hp => nomatch hp
  | _, _, _, .ro _ _, p, hp => nomatch hp
  | _, _, _, .ls h _, p, hp => by rcases List.mem_singleton.mp hp with rfl; exact ⟨_, h⟩
  | _, _, _, .dk h _, p, hp => by rcases List.mem_singleton.mp hp with rfl; exact ⟨_, h⟩
  | _, _, _, .lc h q, p, hp => by
    rcases List.mem_cons.mp hp with rfl | hp
    · exact ⟨_, h⟩
    · exact OwnAll.there q p hp
  | _, _, _, .ob h h2 q, p, hp => by
    rcases List.mem_cons.mp hp with rfl | hp
    · exact ⟨_, h⟩
    · rcases List.mem_cons.mp hp with rfl | hp
      · exact ⟨_, h2⟩
      · exact OwnF.there q p hp
theorem OwnAll.there {K : PySem.W.Frag} {F H : Hp} : ∀ {v : List V} {c : List Cn} {fp : List Addr}, OwnAll K F H v c fp → ∀ p ∈ fp, ∃ o, H p = some o
  | _, _, _, .nil, p, hp => nomatch hp
  | _, _, _, .cons h q, p, hp => by
    rcases List.mem_append.mp hp with hp | hp
    · exact Own.there h p hp
    · exact OwnAll.there q p hp
theorem OwnF.there {K : PySem.W.Frag} {F H : Hp} : ∀ {v : List (Str × V)} {c : List (Str × Cn)} {fp : List Addr}, OwnF K F H v c fp → ∀ p ∈ fp, ∃ o, H p = some o
  | _, _, _, .nil, p, hp => nomatch hp
  | _, _, _, .cons h q, p, hp => by
    rcases List.mem_append.mp hp with hp | hp
    · exact Own.there h p hp
    · exact OwnF.there q p hp
end

/-! ### slots -/
abbrev Env := List (Option Cn)
inductive OwnS (K : PySem.W.Frag) (F H : Hp) : St → Env → List Addr → Prop
  | nil : OwnS K F H [] [] []
  | no {x : Option V} {σ : St} {env : Env} {fp : List Addr} : OwnS K F H σ env fp → OwnS K F H (x :: σ) (none :: env) fp
  | yes {v : V} {c : Cn} {σ : St} {env : Env} {f1 f2 : List Addr} : Own K F H v c f1 → OwnS K F H σ env f2 → OwnS K F H (some v :: σ) (some c :: env) (f1 ++ f2)
section
variable {K : PySem.W.Frag} {F F' H H' : Hp}
theorem OwnS.length : ∀ {σ : St} {env : Env} {fp : List Addr}, OwnS K F H σ env fp → σ.length = env.length
  | _, _, _, .nil => rfl
  | _, _, _, .no q => congrArg (· + 1) q.length
  | _, _, _, .yes _ q => congrArg (· + 1) q.length
theorem OwnS.mono (e : Same F F') : ∀ {σ : St} {env : Env} {fp : List Addr}, (∀ p ∈ fp, H' p = H p) → OwnS K F H σ env fp → OwnS K F' H' σ env fp
  | _, _, _, _, .nil => .nil
  | _, _, _, k, .no q => .no (OwnS.mono e k q)
  | _, _, _, k, .yes h q => .yes (Own.mono e (fun p hp => k p (List.mem_append_left _ hp)) h) (OwnS.mono e (fun p hp => k p (List.mem_append_right _ hp)) q)
theorem OwnS.there : ∀ {σ : St} {env : Env} {fp : List Addr}, OwnS K F H σ env fp → ∀ p ∈ fp, ∃ o, H p = some o
  | _, _, _, .nil, p, hp => nomatch hp
  | _, _, _, .no q, p, hp => OwnS.there q p hp
  | _, _, _, .yes h q, p, hp => by
    rcases List.mem_append.mp hp with hp | hp
    · exact Own.there h p hp
    · exact OwnS.there q p hp
/-- a slot taken out -/
theorem OwnS.split : ∀ {σ : St} {env : Env} {fp : List Addr} {i : Nat} {c : Cn}, OwnS K F H σ env fp → env[i]? = some (some c) →
    ∃ v f fr, σ[i]? = some (some v) ∧ Own K F H v c f ∧ fp.Perm (f ++ fr) ∧ OwnS K F H σ (env.set i none) fr
  | _, _, _, i, c, .nil, e => by simp at e
  | _, _, _, 0, c, .no q, e => by simp at e
  | _, _, _, i + 1, c, .no q, e => by
    obtain ⟨v, f, fr, h1, h2, h3, h4⟩ := q.split (i := i) (c := c) (by simpa using e)
    exact ⟨v, f, fr, by simpa using h1, h2, h3, .no h4⟩
  | _, _, _, 0, c, .yes (v := v) (f1 := f1) (f2 := f2) h q, e => by
    simp at e; subst e
    exact ⟨v, f1, f2, rfl, h, List.Perm.refl _, .no q⟩
  | _, _, _, i + 1, c, .yes (f1 := f1) h q, e => by
    obtain ⟨v, f, fr, h1, h2, h3, h4⟩ := q.split (i := i) (c := c) (by simpa using e)
    refine ⟨v, f, f1 ++ fr, by simpa using h1, h2, ?_, .yes h h4⟩
    refine (List.Perm.append_left f1 h3).trans ?_
    rw [← List.append_assoc, ← List.append_assoc]
    exact List.Perm.append_right fr List.perm_append_comm
/-- a slot that holds nothing known may hold anything -/
theorem OwnS.put {v : V} {c : Cn} {f : List Addr} (h : Own K F H v c f) : ∀ {env : Env} {σ : St} {fr : List Addr} {i : Nat}, OwnS K F H σ (env.set i none) fr →
    ∃ fp, (∀ p ∈ fp, p ∈ f ∨ p ∈ fr) ∧ ((f ++ fr).Nodup → fp.Nodup) ∧ OwnS K F H (σ.set i (some v)) (env.set i (some c)) fp := by
  intro env
  induction env with
  | nil =>
    intro σ fr i q
    cases q
    exact ⟨[], fun _ hp => (nomatch hp), fun _ => List.nodup_nil, .nil⟩
  | cons x env ih =>
    intro σ fr i q
    cases i with
    | zero =>
      cases q with
      | no q => exact ⟨f ++ fr, fun p hp => List.mem_append.mp hp, id, .yes h q⟩
    | succ i =>
      rw [List.set_cons_succ] at q ⊢
      cases q with
      | no q =>
        obtain ⟨fp, h1, h2, h3⟩ := ih q
        exact ⟨fp, h1, h2, .no h3⟩
      | @yes _ _ _ _ f1 f2 g q =>
        obtain ⟨fp, h1, h2, h3⟩ := ih q
        refine ⟨f1 ++ fp, fun p hp => ?_, fun nd => ?_, .yes g h3⟩
        · rcases List.mem_append.mp hp with hp | hp
          · exact .inr (List.mem_append_left _ hp)
          · rcases h1 p hp with hp | hp
            · exact .inl hp
            · exact .inr (List.mem_append_right _ hp)
        · obtain ⟨n1, n2, n3⟩ := List.nodup_append.mp nd
          obtain ⟨m1, m2, m3⟩ := List.nodup_append.mp n2
          refine List.nodup_append.mpr ⟨m1, h2 (List.nodup_append.mpr ⟨n1, m2, fun a ha b hb => n3 a ha b (List.mem_append_right _ hb)⟩), fun a ha b hb => ?_⟩
          rcases h1 b hb with hb | hb
          · exact fun z => n3 b hb a (List.mem_append_left _ ha) z.symm
          · exact m3 a ha b hb
theorem OwnS.drop1 : ∀ {σ : St} {env : Env} {fp : List Addr} (i : Nat), OwnS K F H σ env fp → ∃ fr, List.Sublist fr fp ∧ OwnS K F H σ (env.set i none) fr
  | _, _, _, i, .nil => ⟨[], List.Sublist.refl _, .nil⟩
  | _, _, _, 0, .no q => ⟨_, List.Sublist.refl _, .no q⟩
  | _, _, _, i + 1, .no q => by
    obtain ⟨fr, h1, h2⟩ := q.drop1 i
    exact ⟨fr, h1, .no h2⟩
  | _, _, _, 0, .yes h q => ⟨_, List.sublist_append_right _ _, .no q⟩
  | _, _, _, i + 1, .yes h q => by
    obtain ⟨fr, h1, h2⟩ := q.drop1 i
    exact ⟨_, List.Sublist.append_left h1 _, .yes h h2⟩
/-- the value in a slot that is not known may change -/
theorem OwnS.setv (x : Option V) : ∀ {env : Env} {σ : St} {fr : List Addr} {i : Nat}, OwnS K F H σ (env.set i none) fr → OwnS K F H (σ.set i x) (env.set i none) fr := by
  intro env
  induction env with
  | nil =>
    intro σ fr i q
    cases q
    exact .nil
  | cons y env ih =>
    intro σ fr i q
    cases i with
    | zero =>
      cases q with
      | no q => exact .no q
    | succ i =>
      rw [List.set_cons_succ] at q ⊢
      cases q with
      | no q => exact .no (ih q)
      | yes h q => exact .yes h (ih q)
theorem OwnS.append : ∀ {σ τ : St} {env fnv : Env} {f1 f2 : List Addr}, OwnS K F H σ env f1 → OwnS K F H τ fnv f2 → OwnS K F H (σ ++ τ) (env ++ fnv) (f1 ++ f2)
  | _, _, _, _, _, _, .nil, q => q
  | _, _, _, _, _, _, .no h, q => .no (OwnS.append h q)
  | _, _, _, _, _, _, .yes g h, q => by
    rw [List.append_assoc]
    exact .yes g (OwnS.append h q)
theorem OwnS.unappend : ∀ {σ τ : St} {env fnv : Env} {fp : List Addr}, σ.length = env.length → OwnS K F H (σ ++ τ) (env ++ fnv) fp → ∃ f1 f2, fp = f1 ++ f2 ∧ OwnS K F H σ env f1 ∧ OwnS K F H τ fnv f2
  | [], τ, [], fnv, fp, _, q => ⟨[], fp, rfl, .nil, q⟩
  | _ :: σ, τ, [], fnv, fp, l, q => by simp at l
  | [], τ, _ :: env, fnv, fp, l, q => by simp at l
  | x :: σ, τ, none :: env, fnv, fp, l, .no q => by
    obtain ⟨f1, f2, rfl, h1, h2⟩ := OwnS.unappend (σ := σ) (env := env) (by simpa using l) q
    exact ⟨f1, f2, rfl, .no h1, h2⟩
  | some _ :: σ, τ, some _ :: env, fnv, _, l, .yes (f1 := g) h q => by
    obtain ⟨f1, f2, rfl, h1, h2⟩ := OwnS.unappend (σ := σ) (env := env) (by simpa using l) q
    exact ⟨g ++ f1, f2, (List.append_assoc ..).symm, .yes h h1, h2⟩
end

/-! ### the state: B what stands still, F what is frozen, H all -/
structure Rel (K : PySem.W.Frag) (B : Hp) (env : Env) (σ : St) (F H : Hp) : Prop where
  own : ∃ fp, OwnS K F H σ env fp ∧ fp.Nodup ∧ ∀ p ∈ fp, F p = none ∧ B p = none
  fh : Same F H
  bh : Same B H
/-- the frozen view grows, never at what stands still -/
structure Up (B F F' : Hp) : Prop where
  sm : Same F F'
  fix : ∀ a o, B a = some o → F' a = F a
structure Grow (F H F' H' : Hp) : Prop where
  f : Same F F'
  h : Same H H'
  fh : Same F' H'
  fix : ∀ a o, H a = some o → F' a = F a
section
variable {K : PySem.W.Frag} {B B' F F' F'' H H' H'' : Hp} {env : Env} {σ : St} {c : Cn} {v : V} {d : D} {i : Nat}
theorem Up.refl : Up B F F := ⟨Same.refl F, fun _ _ _ => rfl⟩
theorem Up.trans (a : Up B F F') (b : Up B F' F'') : Up B F F'' := ⟨a.sm.trans b.sm, fun x o h => (b.fix x o h).trans (a.fix x o h)⟩
theorem Up.weak (s : Same B B') (a : Up B' F F') : Up B F F' := ⟨a.sm, fun x o h => a.fix x o (s x o h)⟩
theorem Grow.refl (e : Same F H) : Grow F H F H := ⟨Same.refl F, Same.refl H, e, fun _ _ _ => rfl⟩
theorem Grow.trans (a : Grow F H F' H') (b : Grow F' H' F'' H'') : Grow F H F'' H'' := ⟨a.f.trans b.f, a.h.trans b.h, b.fh, fun x o h => (b.fix x o (a.h x o h)).trans (a.fix x o h)⟩
theorem Grow.new {p : Addr} {o : HO} (e : Same F H) (h : H p = none) : Grow F H (upd F p o) (upd H p o) := by
  have hf : F p = none := by
    cases q : F p with
    | none => rfl
    | some u => rw [e p u q] at h; cases h
  refine ⟨same_new hf, same_new h, fun a u q => ?_, fun a u q => ?_⟩
  · by_cases ha : a = p
    · subst ha; rw [upd_same] at q ⊢; exact q
    · rw [upd_ne ha] at q ⊢; exact e a u q
  · exact upd_ne (ne_of_none q h)
/-- a new object that is not frozen -/
theorem Grow.tmp {p : Addr} {o : HO} (e : Same F H) (h : H p = none) : Grow F H F (upd H p o) := ⟨Same.refl F, same_new h, e.trans (same_new h), fun _ _ _ => rfl⟩
theorem Grow.up (g : Grow F H F' H') (bh : Same B H) : Up B F F' := ⟨g.f, fun a o h => g.fix a o (bh a o h)⟩
theorem Rel.grow (R : Rel K B env σ F H) (g : Grow F H F' H') : Rel K B env σ F' H' := by
  obtain ⟨fp, o, nd, z⟩ := R.own
  refine ⟨⟨fp, OwnS.mono g.f (fun p hp => ?_) o, nd, fun p hp => ?_⟩, g.fh, R.bh.trans g.h⟩
  · obtain ⟨u, q⟩ := o.there p hp
    rw [q]; exact g.h p u q
  · obtain ⟨u, q⟩ := o.there p hp
    exact ⟨(g.fix p u q).trans (z p hp).1, (z p hp).2⟩
theorem Rel.length (R : Rel K B env σ F H) : σ.length = env.length := let ⟨_, o, _⟩ := R.own; o.length
theorem Rel.val (R : Rel K B env σ F H) (h : env[i]? = some (some (.val d))) : ∃ v, σ[i]? = some (some v) ∧ Dp K F v d := by
  obtain ⟨fp, o, nd, z⟩ := R.own
  obtain ⟨v, f, fr, h1, h2, _⟩ := o.split h
  cases h2 with
  | val q => exact ⟨v, h1, q⟩
theorem Rel.ls {ds : List D} (R : Rel K B env σ F H) (h : env[i]? = some (some (.ls ds))) : ∃ p vs, σ[i]? = some (some (.ref p)) ∧ H p = some (.lst vs) ∧ DpAll K F vs ds ∧ F p = none ∧ B p = none := by
  obtain ⟨fp, o, nd, z⟩ := R.own
  obtain ⟨v, f, fr, h1, h2, h3, _⟩ := o.split h
  cases h2 with
  | ls q1 q2 => exact ⟨_, _, h1, q1, q2, z _ (h3.mem_iff.mpr (by simp))⟩
theorem Rel.dk {ds : List (Key × D)} (R : Rel K B env σ F H) (h : env[i]? = some (some (.dk ds))) : ∃ p vs, σ[i]? = some (some (.ref p)) ∧ H p = some (.dK vs) ∧ KvAll K F vs ds ∧ F p = none ∧ B p = none := by
  obtain ⟨fp, o, nd, z⟩ := R.own
  obtain ⟨v, f, fr, h1, h2, h3, _⟩ := o.split h
  cases h2 with
  | dk q1 q2 => exact ⟨_, _, h1, q1, q2, z _ (h3.mem_iff.mpr (by simp))⟩
theorem Rel.raw {u : V} (R : Rel K B env σ F H) (h : env[i]? = some (some (.raw u))) : σ[i]? = some (some u) := by
  obtain ⟨fp, o, nd, z⟩ := R.own
  obtain ⟨v, f, fr, h1, h2, h3, _⟩ := o.split h
  cases h2 with
  | raw => exact h1
theorem Rel.ro {ds : List D} (R : Rel K B env σ F H) (h : env[i]? = some (some (.ro ds))) : ∃ p vs, σ[i]? = some (some (.ref p)) ∧ SqL K F p vs ∧ DpAll K F vs ds := by
  obtain ⟨fp, o, nd, z⟩ := R.own
  obtain ⟨v, f, fr, h1, h2, h3, _⟩ := o.split h
  cases h2 with
  | ro q1 q2 => exact ⟨_, _, h1, q1, q2⟩
/-- what is in front is put into a slot -/
theorem Rel.asg (R : Rel K B (some c :: env) (some v :: σ) F H) (i : Nat) : Rel K B (env.set i (some c)) (σ.set i (some v)) F H := by
  obtain ⟨fp, o, nd, z⟩ := R.own
  cases o with
  | yes h q =>
    obtain ⟨fr, s, q1⟩ := q.drop1 i
    obtain ⟨fp', m, n, q2⟩ := q1.put h
    refine ⟨⟨fp', q2, n ?_, fun p hp => z p ?_⟩, R.fh, R.bh⟩
    · exact List.Nodup.sublist (List.Sublist.append_left s _) nd
    · rcases m p hp with hp | hp
      · exact List.mem_append_left _ hp
      · exact List.mem_append_right _ (s.subset hp)
theorem Rel.front (R : Rel K B env σ F H) (h : Dp K F v d) : Rel K B (some (.val d) :: env) (some v :: σ) F H := by
  obtain ⟨fp, o, nd, z⟩ := R.own
  exact ⟨⟨[] ++ fp, .yes (.val h) o, nd, z⟩, R.fh, R.bh⟩
theorem Rel.frontRaw (R : Rel K B env σ F H) : Rel K B (some (.raw v) :: env) (some v :: σ) F H := by
  obtain ⟨fp, o, nd, z⟩ := R.own
  exact ⟨⟨[] ++ fp, .yes .raw o, nd, z⟩, R.fh, R.bh⟩
theorem Rel.unval (R : Rel K B (some (.val d) :: env) (some v :: σ) F H) : Dp K F v d ∧ Rel K B env σ F H := by
  obtain ⟨fp, o, nd, z⟩ := R.own
  cases o with
  | yes h q =>
    cases h with
    | val h => exact ⟨h, ⟨⟨_, q, nd, z⟩, R.fh, R.bh⟩⟩
theorem Rel.asgv (R : Rel K B env σ F H) (h : Dp K F v d) (i : Nat) : Rel K B (env.set i (some (.val d))) (σ.set i (some v)) F H := (R.front h).asg i
/-- a slot forgotten -/
theorem Rel.forget (R : Rel K B env σ F H) (i : Nat) : Rel K B (env.set i none) σ F H := by
  obtain ⟨fp, o, nd, z⟩ := R.own
  obtain ⟨fr, s, q⟩ := o.drop1 i
  exact ⟨⟨fr, q, List.Nodup.sublist s nd, fun p hp => z p (s.subset hp)⟩, R.fh, R.bh⟩
theorem Rel.forgetv (R : Rel K B env σ F H) (i : Nat) (x : Option V) : Rel K B (env.set i none) (σ.set i x) F H := by
  obtain ⟨fp, o, nd, z⟩ := R.own
  obtain ⟨fr, s, q⟩ := o.drop1 i
  exact ⟨⟨fr, q.setv x, List.Nodup.sublist s nd, fun p hp => z p (s.subset hp)⟩, R.fh, R.bh⟩
theorem Rel.drop (R : Rel K B (some c :: env) (some v :: σ) F H) : Rel K B env σ F H := by
  obtain ⟨fp, o, nd, z⟩ := R.own
  cases o with
  | yes h q => exact ⟨⟨_, q, (List.nodup_append.mp nd).2.1, fun p hp => z p (List.mem_append_right _ hp)⟩, R.fh, R.bh⟩
/-- an object made just now, owned -/
theorem Rel.newo {p : Addr} {o : HO} (R : Rel K B env σ F H) (h : H p = none) (q : Own K F (upd H p o) (.ref p) c [p]) : Rel K B (some c :: env) (some (.ref p) :: σ) F (upd H p o) := by
  have R' := R.grow (Grow.tmp (o := o) R.fh h)
  obtain ⟨fp, ow, nd, z⟩ := R'.own
  obtain ⟨fp0, ow0, nd0, z0⟩ := R.own
  have R2 : OwnS K F (upd H p o) σ env fp0 := OwnS.mono (Same.refl F) (fun a ha => by
    obtain ⟨u, e⟩ := ow0.there a ha
    exact upd_ne (ne_of_none e h)) ow0
  refine ⟨⟨[p] ++ fp0, .yes q R2, ?_, fun a ha => ?_⟩, R'.fh, R'.bh⟩
  · refine List.nodup_append.mpr ⟨by simp, nd0, fun a ha b hb => ?_⟩
    rcases List.mem_singleton.mp ha with rfl
    obtain ⟨u, e⟩ := ow0.there b hb
    exact fun z => ne_of_none e h z.symm
  · rcases List.mem_append.mp ha with ha | ha
    · rcases List.mem_singleton.mp ha with rfl
      constructor
      · cases e : F a with
        | none => rfl
        | some u => rw [R.fh a u e] at h; cases h
      · cases e : B a with
        | none => rfl
        | some u => rw [R.bh a u e] at h; cases h
    · exact z0 a ha
theorem Rel.newl {p : Addr} {vs : List V} {ds : List D} (R : Rel K B env σ F H) (h : H p = none) (q : DpAll K F vs ds) : Rel K B (some (.ls ds) :: env) (some (.ref p) :: σ) F (upd H p (.lst vs)) :=
  R.newo h (.ls upd_same q)
theorem Rel.newd {p : Addr} {vs : List (Key × V)} {ds : List (Key × D)} (R : Rel K B env σ F H) (h : H p = none) (q : KvAll K F vs ds) : Rel K B (some (.dk ds) :: env) (some (.ref p) :: σ) F (upd H p (.dK vs)) :=
  R.newo h (.dk upd_same q)
/-- an owned list in front is frozen -/
theorem Rel.freeze {ds : List D} (R : Rel K B (some (.ls ds) :: env) (some v :: σ) F H) : ∃ F', Rel K B env σ F' H ∧ Up B F F' ∧ Dp K F' v (.list ds) := by
  obtain ⟨fp, o, nd, z⟩ := R.own
  cases o with
  | yes h q =>
    cases h with
    | @ls p vs ds h1 h2 =>
      have hp : F p = none := (z p (by simp)).1
      have sf : Same F (upd F p (.lst vs)) := same_new hp
      refine ⟨upd F p (.lst vs), ⟨⟨_, OwnS.mono sf (fun _ _ => rfl) q, (List.nodup_append.mp nd).2.1, fun a ha => ?_⟩, fun a u e => ?_, R.bh⟩, ⟨sf, fun a u e => ?_⟩, .lst upd_same (dpAll_mono sf h2)⟩
      · have na : a ≠ p := fun e => (List.nodup_append.mp nd).2.2 p (by simp) a ha e.symm
        rw [upd_ne na]
        exact z a (List.mem_append_right _ ha)
      · by_cases ha : a = p
        · subst ha; rw [upd_same] at e; rw [h1]; exact e
        · rw [upd_ne ha] at e; exact R.fh a u e
      · refine upd_ne fun ha => ?_
        subst ha
        rw [(z a (by simp)).2] at e; cases e
/-- a slot taken out in front (its value stays where it is) -/
theorem Rel.take (R : Rel K B env σ F H) (h : env[i]? = some (some c)) : ∃ v, σ[i]? = some (some v) ∧ Rel K B (some c :: env.set i none) (some v :: σ) F H := by
  obtain ⟨fp, o, nd, z⟩ := R.own
  obtain ⟨v, f, fr, h1, h2, h3, h4⟩ := o.split h
  exact ⟨v, h1, ⟨⟨f ++ fr, .yes h2 h4, h3.nodup_iff.mp nd, fun p hp => z p (h3.mem_iff.mpr hp)⟩, R.fh, R.bh⟩⟩
/-- and back -/
theorem Rel.back (R : Rel K B (some c :: env) (some v :: σ) F H) (h : σ[i]? = some (some v)) : Rel K B (env.set i (some c)) σ F H := by
  have q := R.asg i
  have e : σ.set i (some v) = σ := by
    refine List.ext_getElem? fun j => ?_
    by_cases hj : i = j
    · subst hj
      rw [List.getElem?_set_self (List.getElem?_eq_some_iff.mp h).1, h]
    · rw [List.getElem?_set_ne hj]
  rw [e] at q
  exact q
end
/-- objects at some places, else as before -/
def over (B H : Hp) (fp : List Addr) : Hp := fun a => if a ∈ fp then H a else B a
def off (H : Hp) (fp : List Addr) : Hp := fun a => if a ∈ fp then none else H a
section
variable {K : PySem.W.Frag} {B B' F F' F'' H H' H'' : Hp} {env : Env} {σ τ : St} {c : Cn} {v : V} {d : D} {i : Nat}
/-- HOLD: some slots in front stand still while the others go on -/
theorem Rel.hold {env2 : Env} (R : Rel K B (env ++ env2) (τ ++ σ) F H) (hl : τ.length = env.length) : ∃ B', Rel K B' env2 σ F H ∧ Same B B' ∧
    ∀ env3 σ' F' H', Rel K B' env3 σ' F' H' → Up B' F F' → Rel K B (env ++ env3) (τ ++ σ') F' H' ∧ Up B F F' := by
  obtain ⟨fp, o, nd, z⟩ := R.own
  obtain ⟨f1, f2, rfl, o1, o2⟩ := o.unappend hl
  obtain ⟨n1, n2, n3⟩ := List.nodup_append.mp nd
  have sb : Same B (over B H f1) := fun a u e => by
    have na : a ∉ f1 := fun ha => by rw [(z a (List.mem_append_left _ ha)).2] at e; cases e
    show (if a ∈ f1 then H a else B a) = some u
    rw [if_neg na]; exact e
  have at1 : ∀ a, a ∈ f1 → over B H f1 a = H a := fun a ha => if_pos ha
  refine ⟨over B H f1, ⟨⟨f2, o2, n2, fun p hp => ⟨(z p (List.mem_append_right _ hp)).1, ?_⟩⟩, R.fh, fun a u e => ?_⟩, sb, fun env3 σ' F' H' R' U => ?_⟩
  · show (if p ∈ f1 then H p else B p) = none
    rw [if_neg fun h => n3 p h p hp rfl]
    exact (z p (List.mem_append_right _ hp)).2
  · by_cases ha : a ∈ f1
    · rw [at1 a ha] at e; exact e
    · have e' : B a = some u := by
        have e2 : (if a ∈ f1 then H a else B a) = some u := e
        rw [if_neg ha] at e2; exact e2
      exact R.bh a u e'
  · obtain ⟨f3, o3, nd3, z3⟩ := R'.own
    have keep : ∀ a ∈ f1, H' a = H a := fun a ha => by
      obtain ⟨u, q⟩ := o1.there a ha
      rw [q]; exact R'.bh a u (by rw [at1 a ha]; exact q)
    have dis : ∀ a ∈ f1, ∀ b ∈ f3, a ≠ b := fun a ha b hb e => by
      subst e
      obtain ⟨u, q⟩ := o1.there a ha
      have := (z3 a hb).2
      rw [at1 a ha, q] at this; cases this
    refine ⟨⟨⟨f1 ++ f3, (OwnS.mono U.sm keep o1).append o3, List.nodup_append.mpr ⟨n1, nd3, dis⟩, fun p hp => ?_⟩, R'.fh, sb.trans R'.bh⟩, U.weak sb⟩
    rcases List.mem_append.mp hp with hp | hp
    · obtain ⟨u, q⟩ := o1.there p hp
      exact ⟨(U.fix p u (by rw [at1 p hp]; exact q)).trans (z p (List.mem_append_left _ hp)).1, (z p (List.mem_append_left _ hp)).2⟩
    · refine ⟨(z3 p hp).1, ?_⟩
      cases e : B p with
      | none => rfl
      | some u =>
        have := (z3 p hp).2
        rw [sb p u e] at this; cases this
/-- FRAME: the slots in front alone, all else stands still -/
theorem Rel.frame {env2 : Env} (R : Rel K B (env ++ env2) (τ ++ σ) F H) (hl : τ.length = env.length) : ∃ B', Rel K B' env τ F H ∧ Same B B' ∧
    ∀ env3 F' H' (pre : Env) (ρ : St), ρ.length = pre.length → Rel K B' (pre ++ env3) (ρ ++ τ) F' H' → Up B' F F' → Rel K B (pre ++ env3 ++ env2) (ρ ++ τ ++ σ) F' H' ∧ Up B F F' := by
  obtain ⟨fp, o, nd, z⟩ := R.own
  obtain ⟨f1, f2, rfl, o1, o2⟩ := o.unappend hl
  obtain ⟨n1, n2, n3⟩ := List.nodup_append.mp nd
  have offn : ∀ a, a ∉ f1 → off H f1 a = H a := fun a ha => if_neg ha
  have sb : Same B (off H f1) := fun a u e => by
    have na : a ∉ f1 := fun ha => by rw [(z a (List.mem_append_left _ ha)).2] at e; cases e
    rw [offn a na]; exact R.bh a u e
  refine ⟨off H f1, ⟨⟨f1, o1, n1, fun p hp => ⟨(z p (List.mem_append_left _ hp)).1, if_pos hp⟩⟩, R.fh, fun a u e => ?_⟩, sb, fun env3 F' H' pre ρ hρ R' U => ?_⟩
  · by_cases ha : a ∈ f1
    · have e2 : (if a ∈ f1 then none else H a) = some u := e
      rw [if_pos ha] at e2; cases e2
    · rw [offn a ha] at e; exact e
  · obtain ⟨f3, o3, nd3, z3⟩ := R'.own
    have inB : ∀ a ∈ f2, ∃ u, off H f1 a = some u ∧ H a = some u := fun a ha => by
      obtain ⟨u, q⟩ := o2.there a ha
      have na : a ∉ f1 := fun h => n3 a h a ha rfl
      exact ⟨u, by rw [offn a na]; exact q, q⟩
    have keep : ∀ a ∈ f2, H' a = H a := fun a ha => by
      obtain ⟨u, q, q2⟩ := inB a ha
      rw [q2]; exact R'.bh a u q
    have dis : ∀ a ∈ f3, ∀ b ∈ f2, a ≠ b := fun a ha b hb e => by
      subst e
      obtain ⟨u, q, _⟩ := inB a hb
      rw [(z3 a ha).2] at q; cases q
    refine ⟨⟨⟨f3 ++ f2, o3.append (OwnS.mono U.sm keep o2), List.nodup_append.mpr ⟨nd3, n2, dis⟩, fun p hp => ?_⟩, R'.fh, sb.trans R'.bh⟩, U.weak sb⟩
    rcases List.mem_append.mp hp with hp | hp
    · refine ⟨(z3 p hp).1, ?_⟩
      cases e : B p with
      | none => rfl
      | some u =>
        have := (z3 p hp).2
        rw [sb p u e] at this; cases this
    · obtain ⟨u, q, _⟩ := inB p hp
      exact ⟨(U.fix p u q).trans (z p (List.mem_append_right _ hp)).1, (z p (List.mem_append_right _ hp)).2⟩
end
end Dl

/-! Dl1: what an expression comes to, over slots of data. Own work. -/
namespace Dl
open PySem PySem.Spec PyProof.Rows L2

/-- an exception: a class of the text without fields, or with one -/
inductive Xc where
  | plain (n : Str)
  | fld (n f : Str) (d : D)
def IsX (K : PySem.W.Frag) (mg : Str → Option Value) (F H : Hp) : Xc → Value → Option Addr → Prop
  | .plain n, cls, dd => mg n = some cls ∧ dd = none
  | .fld n f d, cls, dd => mg n = some cls ∧ ∃ a v, dd = some a ∧ H a = some (.xd [(f, v)]) ∧ Dp K F v d

inductive Out (α : Type) where
  | ok (a : α) (e : Env)
  | err (x : Xc) (e : Env)
  | no
namespace Out
def bind {α β : Type} : Out α → (α → Env → Out β) → Out β
  | .ok a e, k => k a e
  | .err x e, _ => .err x e
  | .no, _ => .no
def of {α : Type} : Option α → Env → Out α
  | some a, e => .ok a e
  | none, _ => .no
@[simp] theorem bind_ok {α β : Type} (a : α) (e : Env) (k : α → Env → Out β) : (Out.ok a e).bind k = k a e := rfl
@[simp] theorem bind_err {α β : Type} (x : Xc) (e : Env) (k : α → Env → Out β) : (Out.err x e).bind k = .err x e := rfl
@[simp] theorem bind_no {α β : Type} (k : α → Env → Out β) : (Out.no : Out α).bind k = .no := rfl
@[simp] theorem of_some {α : Type} (a : α) (e : Env) : Out.of (some a) e = .ok a e := rfl
@[simp] theorem of_none {α : Type} (e : Env) : Out.of (none : Option α) e = .no := rfl
end Out

/-- what must hold behind an outcome -/
def Post {α : Type} (X : Cx) (B : Hp) (σ : St) (F : Hp) (W : WX) (ok : α → Env → Hp → Hp → Prop) : Out α → Prop
  | .ok a e => ∀ F' H', Rel X.K B e σ F' H' → Up B F F' → ok a e F' H'
  | .err x e => ∀ F' H' cls dd, Rel X.K B e σ F' H' → Up B F F' → IsX X.K X.mg F' H' x cls dd → W cls dd σ H'
  | .no => False
section
variable {X : Cx} {B F F' H H' : Hp} {σ : St} {W : WX} {α β : Type}
theorem Post.up {ok : α → Env → Hp → Hp → Prop} {o : Out α} (u : Up B F F') (h : Post X B σ F W ok o) : Post X B σ F' W ok o := by
  cases o with
  | ok a e => exact fun F2 H2 R U => h F2 H2 R (u.trans U)
  | err x e => exact fun F2 H2 cls dd R U => h F2 H2 cls dd R (u.trans U)
  | no => exact h
theorem Post.bind {ok : β → Env → Hp → Hp → Prop} {o : Out α} {k : α → Env → Out β} (h : Post X B σ F W ok (o.bind k)) : Post X B σ F W (fun a e F' H' => Post X B σ F' W ok (k a e)) o := by
  cases o with
  | ok a e => exact fun F2 H2 R U => Post.up U h
  | err x e => exact h
  | no => exact h
theorem Post.imp {ok ok' : α → Env → Hp → Hp → Prop} {o : Out α} (h : Post X B σ F W ok o) (k : ∀ a e F' H', o = .ok a e → Rel X.K B e σ F' H' → Up B F F' → ok a e F' H' → ok' a e F' H') : Post X B σ F W ok' o := by
  cases o with
  | ok a e => exact fun F2 H2 R U => k a e F2 H2 rfl R U (h F2 H2 R U)
  | err x e => exact h
  | no => exact h
end

/-! ### the readings as they are -/
def zE (X : Cx) (e : Expr) : TE := fun σ H Q => ∀ (pins : List (Addr × Obj)) (s : Shared), Inv X pins σ H s → wpAny (model X.prog X.w) X.A (eval e X.env) (EP X pins σ Q) X.xe s
def zT (X : Cx) (e : Expr) : TT := fun σ H Q => ∀ (pins : List (Addr × Obj)) (s : Shared), Inv X pins σ H s → wpAny (model X.prog X.w) X.A (isTrue e X.env (eval e X.env)) (TP X pins σ Q) X.xe s
def zW (X : Cx) (e : Expr) : TT := fun σ H Q => ∀ (whole : Sem Value) (pins : List (Addr × Obj)) (s : Shared), Inv X pins σ H s → wpAny (model X.prog X.w) X.A (isTrue e X.env whole) (TP X pins σ Q) X.xe s
def zA (X : Cx) (es : List Expr) : TA := fun σ H Q => ∀ (pos : Pos) (pins : List (Addr × Obj)) (s : Shared), Inv X pins σ H s → wpAny (model X.prog X.w) X.A (spliced (backTo pos (starEach es X.env))) (AP X pins σ Q) X.xe s
def zK (X : Cx) (kws : List Keyword) : TA := fun σ H Q => ∀ (pos : Pos) (pins : List (Addr × Obj)) (s : Shared), Inv X pins σ H s → wpAny (model X.prog X.w) X.A (evalAll ((backToKw pos (keywordEach kws X.env)).map (·.2))) (AP X pins σ Q) X.xe s
def zS (X : Cx) (st : Stmt) : TS := fun D σ H => ∀ (pins : List (Addr × Obj)) (s : Shared), Inv X pins σ H s → wpAny (model X.prog X.w) X.A (exec st X.env) (SP X pins D) X.xe s
def zSs (X : Cx) (st : List Stmt) : TS := fun D σ H => ∀ (pins : List (Addr × Obj)) (s : Shared), Inv X pins σ H s → wpAny (model X.prog X.w) X.A (execs st X.env) (SP X pins D) X.xe s
section
variable {X : Cx} {e : Expr} {es : List Expr} {kws : List Keyword} {st : Stmt} {ss : List Stmt}
theorem pe_w : PE X e (zE X e) := ⟨fun pins s σ H Q I h => h pins s I⟩
theorem pt_w : PT X e (zT X e) := ⟨fun pins s σ H Q I h => h pins s I⟩
theorem pw_w : PW X e (zW X e) := ⟨fun w pins s σ H Q I h => h w pins s I⟩
theorem pa_w : PA X es (zA X es) := ⟨fun pos pins s σ H Q I h => h pos pins s I⟩
theorem pk_w : PK X kws (zK X kws) := ⟨fun pos pins s σ H Q I h => h pos pins s I⟩
theorem ps_w : PS X st (zS X st) := ⟨fun pins s σ H D I h => h pins s I⟩
theorem pss_w : PSs X ss (zSs X ss) := ⟨fun pins s σ H D I h => h pins s I⟩
theorem zE.by {t : TE} (p : PE X e t) {σ : St} {H : Hp} {Q : VK} (h : t σ H Q) : zE X e σ H Q := fun pins s I => p.run pins s σ H Q I h
theorem zT.by {t : TT} (p : PT X e t) {σ : St} {H : Hp} {Q : Bool → Hp → Prop} (h : t σ H Q) : zT X e σ H Q := fun pins s I => p.run pins s σ H Q I h
theorem zW.by {t : TT} (p : PW X e t) {σ : St} {H : Hp} {Q : Bool → Hp → Prop} (h : t σ H Q) : zW X e σ H Q := fun w pins s I => p.run w pins s σ H Q I h
theorem zA.by {t : TA} (p : PA X es t) {σ : St} {H : Hp} {Q : List V → Hp → Prop} (h : t σ H Q) : zA X es σ H Q := fun pos pins s I => p.run pos pins s σ H Q I h
theorem zK.by {t : TA} (p : PK X kws t) {σ : St} {H : Hp} {Q : List V → Hp → Prop} (h : t σ H Q) : zK X kws σ H Q := fun pos pins s I => p.run pos pins s σ H Q I h
theorem zS.by {t : TS} (p : PS X st t) {σ : St} {H : Hp} {D : Ends} (h : t D σ H) : zS X st D σ H := fun pins s I => p.run pins s σ H D I h
theorem zSs.by {t : TS} (p : PSs X ss t) {σ : St} {H : Hp} {D : Ends} (h : t D σ H) : zSs X ss D σ H := fun pins s I => p.run pins s σ H D I h
end

/-- borrowed for the moment: data, or an owned list -/
inductive DpB (K : PySem.W.Frag) (F H : Hp) : V → D → Prop
  | val {v : V} {d : D} : Dp K F v d → DpB K F H v d
  | ls {p : Addr} {vs : List V} {ds : List D} : H p = some (.lst vs) → DpAll K F vs ds → DpB K F H (.ref p) (.list ds)
section
variable {K : PySem.W.Frag} {F H : Hp}
theorem DpB.list {v : V} {ds : List D} (e : Same F H) : DpB K F H v (.list ds) → ∃ p vs, v = .ref p ∧ H p = some (.lst vs) ∧ DpAll K F vs ds
  | .val (.lst h q) => ⟨_, _, rfl, e _ _ h, q⟩
  | .ls h q => ⟨_, _, rfl, h, q⟩
theorem DpB.tuple {v : V} {ds : List D} (e : Same F H) : DpB K F H v (.tuple ds) → ∃ p vs, v = .ref p ∧ SqT K H p vs ∧ DpAll K F vs ds
  | .val (.tup h q) => ⟨_, _, rfl, t_mono e h, q⟩
theorem DpB.int {v : V} {i : Int} : DpB K F H v (.int i) → v = .int i
  | .val (.int _) => rfl
theorem DpB.bool {v : V} {b : Bool} : DpB K F H v (.bool b) → v = .bl b
  | .val (.bl _) => rfl
theorem DpB.str {v : V} {s : Str} : DpB K F H v (.str s) → v = .str s
  | .val (.str _) => rfl
theorem DpB.none {v : V} : DpB K F H v .none → v = .non
  | .val .non => rfl
theorem DpB.dp {v : V} {d : D} (e : Same F H) : DpB K F H v d → Dp K H v d
  | .val h => dp_mono e h
  | .ls h q => .lst h (dpAll_mono e q)
end

abbrev M (α : Type) := Env → Out α
/-- an expression that comes to data | to data, or an owned list looked at for the moment | to an owned container -/
structure SE (X : Cx) (e : Expr) (m : M D) : Prop where
  run : ∀ (W : WX), Takes X W → ∀ (B : Hp) (env : Env) (σ : St) (F H : Hp) (Q : VK), Rel X.K B env σ F H → Post X B σ F W (fun d _ F' H' => ∀ v, Dp X.K F' v d → Q v H') (m env) → zE X e σ H Q
structure SB (X : Cx) (e : Expr) (m : M D) : Prop where
  run : ∀ (W : WX), Takes X W → ∀ (B : Hp) (env : Env) (σ : St) (F H : Hp) (Q : VK), Rel X.K B env σ F H → Post X B σ F W (fun d _ F' H' => ∀ v, DpB X.K F' H' v d → Q v H') (m env) → zE X e σ H Q
/-- outcomes whose value lies in front -/
def PostC {α : Type} (X : Cx) (B : Hp) (σ : St) (F : Hp) (W : WX) (cn : α → List Cn) (ok : α → Env → List V → Hp → Hp → Prop) : Out α → Prop
  | .ok a e => ∀ vs F' H', vs.length = (cn a).length → Rel X.K B ((cn a).map some ++ e) (vs.map some ++ σ) F' H' → Up B F F' → ok a e vs F' H'
  | .err x e => ∀ F' H' cls dd, Rel X.K B e σ F' H' → Up B F F' → IsX X.K X.mg F' H' x cls dd → W cls dd σ H'
  | .no => False
structure SN (X : Cx) (e : Expr) (m : M Cn) : Prop where
  run : ∀ (W : WX), Takes X W → ∀ (B : Hp) (env : Env) (σ : St) (F H : Hp) (Q : VK), Rel X.K B env σ F H → PostC X B σ F W (fun c => [c]) (fun _ _ vs _ H' => ∀ v, vs = [v] → Q v H') (m env) → zE X e σ H Q
structure ST (X : Cx) (e : Expr) (m : M Bool) : Prop where
  run : ∀ (W : WX), Takes X W → ∀ (B : Hp) (env : Env) (σ : St) (F H : Hp) (Q : Bool → Hp → Prop), Rel X.K B env σ F H → Post X B σ F W (fun b _ _ H' => Q b H') (m env) → zT X e σ H Q
structure SW (X : Cx) (e : Expr) (m : M Bool) : Prop where
  run : ∀ (W : WX), Takes X W → ∀ (B : Hp) (env : Env) (σ : St) (F H : Hp) (Q : Bool → Hp → Prop), Rel X.K B env σ F H → Post X B σ F W (fun b _ _ H' => Q b H') (m env) → zW X e σ H Q
/-- arguments, all of data -/
structure SA (X : Cx) (es : List Expr) (m : M (List D)) : Prop where
  run : ∀ (W : WX), Takes X W → ∀ (B : Hp) (env : Env) (σ : St) (F H : Hp) (Q : List V → Hp → Prop), Rel X.K B env σ F H → Post X B σ F W (fun ds _ F' H' => ∀ vs, DpAll X.K F' vs ds → Q vs H') (m env) → zA X es σ H Q
section
variable {X : Cx} {e a b : Expr} {es : List Expr} {m ma mb : M D} {pos : Pos}
theorem SE.sb (h : SE X e m) : SB X e m := ⟨fun W tk B env σ F H Q R p => h.run W tk B env σ F H Q R (p.imp fun d e F' H' _ _ _ q v hv => q v (.val hv))⟩

/-! ### names, constants -/
def getD (i : Nat) (env : Env) : Option D := match env[i]? with
  | some (some (.val d)) => some d
  | _ => none
def peek (i : Nat) (env : Env) : Option D := match env[i]? with
  | some (some (.val d)) => some d
  | some (some (.ls ds)) => some (.list ds)
  | _ => none
def xv (i : Nat) : M D := fun env => .of (getD i env) env
def xp (i : Nat) : M D := fun env => .of (peek i env) env
def xk (d : D) : M D := fun env => .ok d env
theorem getD_eq {i : Nat} {env : Env} {d : D} (h : getD i env = some d) : env[i]? = some (some (.val d)) := by
  unfold getD at h
  split at h
  · cases h; assumption
  · cases h
theorem peek_rel {K : PySem.W.Frag} {B F H : Hp} {i : Nat} {env : Env} {σ : St} {d : D} (R : Rel K B env σ F H) (h : peek i env = some d) : ∃ v, σ[i]? = some (some v) ∧ DpB K F H v d := by
  unfold peek at h
  split at h
  · cases h
    obtain ⟨v, h1, h2⟩ := R.val (by assumption)
    exact ⟨v, h1, .val h2⟩
  · cases h
    obtain ⟨p, vs, h1, h2, h3, _⟩ := R.ls (by assumption)
    exact ⟨_, h1, .ls h2 h3⟩
  · cases h
theorem se_var (i : Nat) {x : Str} (hN : X.N[i]? = some x := by rfl) (hv : Vis X.env.scope x := by first | exact Or.inl rfl | exact Or.inr (Or.inl rfl) | exact Or.inr (Or.inr rfl)) (hd : (x == ("__debug__" : Str)) = false := by decide)
    (hcd : (x == ("__classdict__" : Str)) = false := by decide) : SE X (.Name x pos) (xv i) := by
  refine ⟨fun W tk B env σ F H Q R p => zE.by (pe_var hN hv hd hcd) ?_⟩
  cases q : getD i env with
  | none => simp only [xv, q, Out.of_none] at p; exact False.elim p
  | some d =>
    simp only [xv, q, Out.of_some] at p
    obtain ⟨v, h1, h2⟩ := R.val (getD_eq q)
    exact ⟨v, h1, p F H R Up.refl v h2⟩
theorem sb_var (i : Nat) {x : Str} (hN : X.N[i]? = some x := by rfl) (hv : Vis X.env.scope x := by first | exact Or.inl rfl | exact Or.inr (Or.inl rfl) | exact Or.inr (Or.inr rfl)) (hd : (x == ("__debug__" : Str)) = false := by decide)
    (hcd : (x == ("__classdict__" : Str)) = false := by decide) : SB X (.Name x pos) (xp i) := by
  refine ⟨fun W tk B env σ F H Q R p => zE.by (pe_var hN hv hd hcd) ?_⟩
  cases q : peek i env with
  | none => simp only [xp, q, Out.of_none] at p; exact False.elim p
  | some d =>
    simp only [xp, q, Out.of_some] at p
    obtain ⟨v, h1, h2⟩ := peek_rel R q
    exact ⟨v, h1, p F H R Up.refl v h2⟩
theorem se_c {v : V} {d : D} (h : PE X e (tC v)) (hd : ∀ F, Dp X.K F v d) : SE X e (xk d) :=
  ⟨fun W tk B env σ F H Q R p => zE.by h (p F H R Up.refl v (hd F))⟩
theorem se_int {i : Int} {j : Nat} : SE X (.Constant (.int i) j pos) (xk (.int i)) := se_c pe_int fun _ => .int i
theorem se_bl {b : Bool} {j : Nat} : SE X (.Constant (.bool b) j pos) (xk (.bool b)) := se_c pe_bl fun _ => .bl b
theorem se_non {j : Nat} : SE X (.Constant .none j pos) (xk .none) := se_c pe_non fun _ => .non
theorem se_str {x : Str} {j : Nat} : SE X (.Constant (.str x) j pos) (xk (.str x)) := se_c pe_str fun _ => .str x

/-! ### operators -/
abbrev R2 := V → V → Hp → VK → Prop
def xBin (f : D → D → Option D) (ma mb : M D) : M D := fun env => (ma env).bind fun x e1 => (mb e1).bind fun y e2 => .of (f x y) e2
def ROp (K : PySem.W.Frag) (r : R2) (f : D → D → Option D) : Prop := ∀ x y z, f x y = some z → ∀ (F H : Hp) (v1 v2 : V) (Q : VK), Same F H → DpB K F H v1 x → DpB K F H v2 y → (∀ v F' H', Grow F H F' H' → Dp K F' v z → Q v H') → r v1 v2 H Q
theorem rop_run {r : R2} {f : D → D → Option D} (hr : ROp X.K r f) {W : WX} {B F H : Hp} {env : Env} {σ : St} {x y : D} {v1 v2 : V} {Q : VK} (R : Rel X.K B env σ F H) (h1 : DpB X.K F H v1 x) (h2 : DpB X.K F H v2 y)
    (p : Post X B σ F W (fun d _ F' H' => ∀ v, Dp X.K F' v d → Q v H') (.of (f x y) env)) : r v1 v2 H Q := by
  cases q : f x y with
  | none => rw [q] at p; exact False.elim p
  | some z =>
    rw [q] at p
    exact hr x y z q F H v1 v2 Q R.fh h1 h2 fun v F' H' g hv => p F' H' (R.grow g) (g.up R.bh) v hv
theorem DpB.up {K : PySem.W.Frag} {F F' : Hp} {v : V} {d : D} (h : Dp K F v d) (s : Same F F') (H' : Hp) : DpB K F' H' v d := .val (dp_mono s h)

section
variable {op : Operator} {cop cop' : CmpOp} {r r' : R2} {f f' : D → D → Option D} {i : Nat} {x y : Str} {p1 p2 : Pos} {c : Expr} {mc : M D}
/-- two operands, the reading of which is known by what they come to -/
theorem bin_run (hr : ROp X.K r f) (ha : SE X a ma) (hb : SB X b mb) {W : WX} (tk : Takes X W) {B F H : Hp} {env : Env} {σ : St} {Q : VK} (R : Rel X.K B env σ F H)
    (p : Post X B σ F W (fun d _ F' H' => ∀ v, Dp X.K F' v d → Q v H') (xBin f ma mb env)) : zE X a σ H fun v1 H1 => zE X b σ H1 fun v2 H2 => r v1 v2 H2 Q := by
  refine ha.run W tk B env σ F H _ R (p.bind.imp fun x e1 F1 H1 _ R1 U1 p1 v1 d1 => ?_)
  refine hb.run W tk B e1 σ F1 H1 _ R1 (p1.bind.imp fun y e2 F2 H2 _ R2 U2 p2 v2 d2 => ?_)
  exact rop_run hr R2 (.up d1 U2.sm _) d2 p2
/-- the left one is a name: it is read when the right one is there -/
def xBinV (f : D → D → Option D) (i : Nat) (mb : M D) : M D := fun env => if (peek i env).isSome = true then (mb env).bind fun y e2 => .of ((peek i e2).bind fun x => f x y) e2 else .no
theorem binV_run (hr : ROp X.K r f) (hb : SB X b mb) {W : WX} (tk : Takes X W) {B F H : Hp} {env : Env} {σ : St} {Q : VK} (R : Rel X.K B env σ F H)
    (p : Post X B σ F W (fun d _ F' H' => ∀ v, Dp X.K F' v d → Q v H') (xBinV f i mb env)) : tVar i σ H fun v1 H1 => zE X b σ H1 fun v2 H2 => r v1 v2 H2 Q := by
  unfold xBinV at p
  split at p
  · rename_i hs
    obtain ⟨d0, hd0⟩ := Option.isSome_iff_exists.mp hs
    obtain ⟨v, hv, _⟩ := peek_rel R hd0
    refine ⟨v, hv, ?_⟩
    refine hb.run W tk B env σ F H _ R (p.bind.imp fun y e2 F2 H2 _ R2 U2 p2 v2 d2 => ?_)
    cases q : peek i e2 with
    | none => rw [q] at p2; exact False.elim p2
    | some x0 =>
      rw [q] at p2
      obtain ⟨v', hv', dv⟩ := peek_rel R2 q
      rw [hv] at hv'
      cases hv'
      exact rop_run hr R2 dv d2 p2
  · exact False.elim p
theorem se_bin (ho : OpR X (binaryOp op) r) (hr : ROp X.K r f) (ha : SE X a ma) (hb : SB X b mb) : SE X (.BinOp a op b pos) (xBin f ma mb) :=
  ⟨fun W tk B env σ F H Q R p => zE.by (pe_op ho pe_w pe_w) (bin_run hr ha hb tk R p)⟩
theorem se_binV (ho : OpR X (binaryOp op) r) (hr : ROp X.K r f) (hn : PE X (.Name x p1) (tVar i)) (hb : SB X b mb) : SE X (.BinOp (.Name x p1) op b pos) (xBinV f i mb) :=
  ⟨fun W tk B env σ F H Q R p => zE.by (pe_op ho hn pe_w) (binV_run hr hb tk R p)⟩
theorem se_cmp (ho : OpR X (compareOp cop) r) (hr : ROp X.K r f) (ha : SE X a ma) (hb : SB X b mb) (hm : behindInMarks cop b = false) : SE X (.Compare a [cop] [b] pos) (xBin f ma mb) :=
  ⟨fun W tk B env σ F H Q R p => zE.by (pe_cmpR ho pe_w pe_w hm) (bin_run hr ha hb tk R p)⟩
theorem se_cmpV (ho : OpR X (compareOp cop) r) (hr : ROp X.K r f) (hn : PE X (.Name x p1) (tVar i)) (hb : SB X b mb) (hm : behindInMarks cop b = false) : SE X (.Compare (.Name x p1) [cop] [b] pos) (xBinV f i mb) :=
  ⟨fun W tk B env σ F H Q R p => zE.by (pe_cmpR ho hn pe_w hm) (binV_run hr hb tk R p)⟩
theorem se_ix (ho : IxR X r) (hr : ROp X.K r f) (ha : SE X a ma) (hb : SB X b mb) (hs : PlainIx b) : SE X (.Subscript a b pos) (xBin f ma mb) :=
  ⟨fun W tk B env σ F H Q R p => zE.by (pe_ix ho pe_w pe_w hs) (bin_run hr ha hb tk R p)⟩
theorem se_ixV (ho : IxR X r) (hr : ROp X.K r f) (hn : PE X (.Name x p1) (tVar i)) (hb : SB X b mb) (hs : PlainIx b) : SE X (.Subscript (.Name x p1) b pos) (xBinV f i mb) :=
  ⟨fun W tk B env σ F H Q R p => zE.by (pe_ix ho hn pe_w hs) (binV_run hr hb tk R p)⟩
/-- a op b op c -/
def xChain (f f' : D → D → Option D) (ma mb mc : M D) : M D := fun env => (ma env).bind fun x e1 => (mb e1).bind fun y e2 => match f x y with
  | some (.bool true) => (mc e2).bind fun z e3 => .of (f' y z) e3
  | some (.bool false) => .ok (.bool false) e2
  | _ => .no
/-- a comparison that changes nothing -/
def ROpB (K : PySem.W.Frag) (r : R2) (f : D → D → Option D) : Prop := ∀ x y b, f x y = some (.bool b) → ∀ (F H : Hp) (v1 v2 : V) (Q : VK), Same F H → DpB K F H v1 x → DpB K F H v2 y → Q (.bl b) H → r v1 v2 H Q
theorem se_chain (ho : OpR X (compareOp cop) r) (hr : ROpB X.K r f) (ho' : OpR X (compareOp cop') r') (hr' : ROp X.K r' f') (ha : SE X a ma) (hb : SE X b mb) (hc : SB X c mc) (hm : lastMarks [cop, cop'] [b, c] = false := by with_unfolding_all rfl) :
    SE X (.Compare a [cop, cop'] [b, c] pos) (xChain f f' ma mb mc) := by
  refine ⟨fun W tk B env σ F H Q R p => zE.by (pe_chain ho ho' pe_w pe_w pe_w hm) ?_⟩
  refine ha.run W tk B env σ F H _ R (p.bind.imp fun x e1 F1 H1 _ R1 U1 p1 v1 d1 => ?_)
  refine hb.run W tk B e1 σ F1 H1 _ R1 (p1.bind.imp fun y e2 F2 H2 _ R2 U2 p2 v2 d2 => ?_)
  split at p2
  · rename_i q
    refine hr x y true q F2 H2 v1 v2 _ R2.fh (.up d1 U2.sm _) (.val d2) ⟨true, rfl, ?_⟩
    rw [if_pos rfl]
    refine hc.run W tk B e2 σ F2 H2 _ R2 (p2.bind.imp fun z e3 F3 H3 _ R3 U3 p3 v3 d3 => ?_)
    exact rop_run hr' R3 (.up d2 U3.sm _) d3 p3
  · rename_i q
    refine hr x y false q F2 H2 v1 v2 _ R2.fh (.up d1 U2.sm _) (.val d2) ⟨false, rfl, ?_⟩
    rw [if_neg Bool.false_ne_true]
    exact p2 F2 H2 R2 Up.refl _ (.bl false)
  · exact False.elim p2
end

/-! ### one operand -/
section
variable {r : V → Hp → VK → Prop} {f : D → Option D} {op : UnaryOp}
def xUn (f : D → Option D) (ma : M D) : M D := fun env => (ma env).bind fun x e1 => .of (f x) e1
def RUn (K : PySem.W.Frag) (r : V → Hp → VK → Prop) (f : D → Option D) : Prop := ∀ x z, f x = some z → ∀ (F H : Hp) (v : V) (Q : VK), Same F H → DpB K F H v x → (∀ v F' H', Grow F H F' H' → Dp K F' v z → Q v H') → r v H Q
theorem un_run (hr : RUn X.K r f) (ha : SB X a ma) {W : WX} (tk : Takes X W) {B F H : Hp} {env : Env} {σ : St} {Q : VK} (R : Rel X.K B env σ F H)
    (p : Post X B σ F W (fun d _ F' H' => ∀ v, Dp X.K F' v d → Q v H') (xUn f ma env)) : zE X a σ H fun v1 H1 => r v1 H1 Q := by
  refine ha.run W tk B env σ F H _ R (p.bind.imp fun x e1 F1 H1 _ R1 U1 p1 v1 d1 => ?_)
  cases q : f x with
  | none => rw [q] at p1; exact False.elim p1
  | some z =>
    rw [q] at p1
    exact hr x z q F1 H1 v1 Q R1.fh d1 fun v F' H' g hv => p1 F' H' (R1.grow g) (g.up R1.bh) v hv
theorem se_un (ho : UnR X (unaryOp op) r) (hr : RUn X.K r f) (ha : SB X a ma) : SE X (.UnaryOp op a pos) (xUn f ma) :=
  ⟨fun W tk B env σ F H Q R p => zE.by (pe_un ho pe_w) (un_run hr ha tk R p)⟩
end
/-! ### and, or, not, if .. else: tests -/
def toB (m : M D) : M Bool := fun env => (m env).bind fun d e => match d with
  | .bool b => .ok b e
  | _ => .no
def ofB (m : M Bool) : M D := fun env => (m env).bind fun b e => .ok (.bool b) e
def xAnd (ma mb : M Bool) : M Bool := fun env => (ma env).bind fun b e => if b = true then mb e else .ok false e
def xOr (ma mb : M Bool) : M Bool := fun env => (ma env).bind fun b e => if b = true then .ok true e else mb e
def xNot (ma : M Bool) : M Bool := fun env => (ma env).bind fun b e => .ok (!b) e
def xIf {α : Type} (mc : M Bool) (ma mb : M α) : M α := fun env => (mc env).bind fun b e => if b = true then ma e else mb e
theorem toB_run {W : WX} {B F : Hp} {env : Env} {σ : St} {Q : Bool → Hp → Prop} (p : Post X B σ F W (fun b _ _ H' => Q b H') (toB m env)) : Post X B σ F W (fun d _ F' H' => ∀ v, DpB X.K F' H' v d → ∃ k, v = .bl k ∧ Q k H') (m env) := by
  refine p.bind.imp fun d e F1 H1 _ R1 U1 p1 v d1 => ?_
  split at p1
  · exact ⟨_, d1.bool, p1 F1 H1 R1 Up.refl⟩
  · exact False.elim p1
theorem st_val (h : SB X e m) (he : ∀ whole, isTrue e X.env whole = (do let v ← whole; standAt e.pos; holding [v] (truthy v)) := by intro _; rfl) : ST X e (toB m) :=
  ⟨fun W tk B env σ F H Q R p => zT.by (pt_val pe_w he) (h.run W tk B env σ F H _ R (toB_run p))⟩
section
variable {cop : CmpOp} {r : R2} {f : D → D → Option D} {i : Nat} {x : Str} {p1 : Pos}
theorem st_cmp (ho : OpR X (compareOp cop) r) (hr : ROp X.K r f) (ha : SE X a ma) (hb : SB X b mb) (hm : behindInMarks cop b = false) : ST X (.Compare a [cop] [b] pos) (toB (xBin f ma mb)) := by
  refine ⟨fun W tk B env σ F H Q R p => zT.by (pt_cmpR ho pe_w pe_w hm) (bin_run hr ha hb tk R ?_)⟩
  exact (toB_run p).imp fun d e F1 H1 _ R1 U1 p1 v d1 => p1 v (.val d1)
theorem st_cmpV (ho : OpR X (compareOp cop) r) (hr : ROp X.K r f) (hn : PE X (.Name x p1) (tVar i)) (hb : SB X b mb) (hm : behindInMarks cop b = false) : ST X (.Compare (.Name x p1) [cop] [b] pos) (toB (xBinV f i mb)) := by
  refine ⟨fun W tk B env σ F H Q R p => zT.by (pt_cmpR ho hn pe_w hm) (binV_run hr hb tk R ?_)⟩
  exact (toB_run p).imp fun d e F1 H1 _ R1 U1 p1 v d1 => p1 v (.val d1)
theorem st_chain {r' : R2} {f' : D → D → Option D} {c : Expr} {mc : M D} {cop' : CmpOp} (ho : OpR X (compareOp cop) r) (hr : ROpB X.K r f) (ho' : OpR X (compareOp cop') r') (hr' : ROp X.K r' f') (ha : SE X a ma) (hb : SE X b mb) (hc : SB X c mc)
    (hm : lastMarks [cop, cop'] [b, c] = false := by with_unfolding_all rfl) : ST X (.Compare a [cop, cop'] [b, c] pos) (toB (xChain f f' ma mb mc)) := by
  refine ⟨fun W tk B env σ F H Q R p => zT.by (pt_chain ho ho' pe_w pe_w pe_w hm) ?_⟩
  have p' := (toB_run p).imp (ok' := fun d _ F' H' => ∀ v, Dp X.K F' v d → ∃ k, v = .bl k ∧ Q k H') fun d e F1 H1 _ R1 U1 p1 v d1 => p1 v (.val d1)
  show tChain r r' (zE X a) (zE X b) (zE X c) σ H (fun x H' => ∃ k, x = .bl k ∧ Q k H')
  refine ha.run W tk B env σ F H _ R (p'.bind.imp fun x e1 F1 H1 _ R1 U1 p1 v1 d1 => ?_)
  refine hb.run W tk B e1 σ F1 H1 _ R1 (p1.bind.imp fun y e2 F2 H2 _ R2 U2 p2 v2 d2 => ?_)
  split at p2
  · rename_i q
    refine hr x y true q F2 H2 v1 v2 _ R2.fh (.up d1 U2.sm _) (.val d2) ⟨true, rfl, ?_⟩
    rw [if_pos rfl]
    refine hc.run W tk B e2 σ F2 H2 _ R2 (p2.bind.imp fun z e3 F3 H3 _ R3 U3 p3 v3 d3 => ?_)
    exact rop_run hr' R3 (.up d2 U3.sm _) d3 p3
  · rename_i q
    refine hr x y false q F2 H2 v1 v2 _ R2.fh (.up d1 U2.sm _) (.val d2) ⟨false, rfl, ?_⟩
    rw [if_neg Bool.false_ne_true]
    exact p2 F2 H2 R2 Up.refl _ (.bl false)
  · exact False.elim p2
end
section
variable {ta tb : M Bool} {rest : List Expr} {W : WX} {B F H : Hp} {env : Env} {σ : St} {Q : Bool → Hp → Prop}
theorem SW.st (h : SW X e ta) : ST X e ta := ⟨fun W tk B env σ F H Q R p pins s I => h.run W tk B env σ F H Q R p _ pins s I⟩
theorem sw_and1 (ha : ST X a ta) : SW X (.BoolOp .And [a] pos) ta := ⟨fun W tk B env σ F H Q R p => zW.by (pw_and1 pt_w) (ha.run W tk B env σ F H Q R p)⟩
theorem sw_or1 (ha : ST X a ta) : SW X (.BoolOp .Or [a] pos) ta := ⟨fun W tk B env σ F H Q R p => zW.by (pw_or1 pt_w) (ha.run W tk B env σ F H Q R p)⟩
theorem sw_and (ha : ST X a ta) (hb : SW X (.BoolOp .And (b :: rest) pos) tb) : SW X (.BoolOp .And (a :: b :: rest) pos) (xAnd ta tb) := by
  refine ⟨fun W tk B env σ F H Q R p => zW.by (pw_and pt_w pw_w) (ha.run W tk B env σ F H _ R (p.bind.imp fun c e1 F1 H1 _ R1 U1 p1 => ?_))⟩
  cases c with
  | true => exact hb.run W tk B e1 σ F1 H1 _ R1 p1
  | false => exact p1 F1 H1 R1 Up.refl
theorem sw_or (ha : ST X a ta) (hb : SW X (.BoolOp .Or (b :: rest) pos) tb) : SW X (.BoolOp .Or (a :: b :: rest) pos) (xOr ta tb) := by
  refine ⟨fun W tk B env σ F H Q R p => zW.by (pw_or pt_w pw_w) (ha.run W tk B env σ F H _ R (p.bind.imp fun c e1 F1 H1 _ R1 U1 p1 => ?_))⟩
  cases c with
  | true => exact p1 F1 H1 R1 Up.refl
  | false => exact hb.run W tk B e1 σ F1 H1 _ R1 p1
theorem st_not (ha : ST X a ta) : ST X (.UnaryOp .Not a pos) (xNot ta) :=
  ⟨fun W tk B env σ F H Q R p => zT.by (pt_not pt_w) (ha.run W tk B env σ F H _ R (p.bind.imp fun c e1 F1 H1 _ R1 U1 p1 => p1 F1 H1 R1 Up.refl))⟩
/-- values: all but the last True or False -/
def xAndV (ma mb : M D) : M D := fun env => (ma env).bind fun d e => match d with
  | .bool true => mb e
  | .bool false => .ok (.bool false) e
  | _ => .no
def xOrV (ma mb : M D) : M D := fun env => (ma env).bind fun d e => match d with
  | .bool true => .ok (.bool true) e
  | .bool false => mb e
  | _ => .no
theorem se_one {op : BoolOp} (ha : SE X a ma) : SE X (.BoolOp op [a] pos) ma := ⟨fun W tk B env σ F H Q R p => zE.by (pe_one pe_w) (ha.run W tk B env σ F H Q R p)⟩
theorem se_and (ha : SE X a ma) (hb : SE X (.BoolOp .And (b :: rest) pos) mb) : SE X (.BoolOp .And (a :: b :: rest) pos) (xAndV ma mb) := by
  refine ⟨fun W tk B env σ F H Q R p => zE.by (pe_and pe_w pe_w) (ha.run W tk B env σ F H _ R (p.bind.imp fun d e1 F1 H1 _ R1 U1 p1 v d1 => ?_))⟩
  split at p1
  · cases d1; exact ⟨true, rfl, hb.run W tk B e1 σ F1 H1 _ R1 p1⟩
  · cases d1; exact ⟨false, rfl, p1 F1 H1 R1 Up.refl _ (.bl false)⟩
  · exact False.elim p1
theorem se_or (ha : SE X a ma) (hb : SE X (.BoolOp .Or (b :: rest) pos) mb) : SE X (.BoolOp .Or (a :: b :: rest) pos) (xOrV ma mb) := by
  refine ⟨fun W tk B env σ F H Q R p => zE.by (pe_or pe_w pe_w) (ha.run W tk B env σ F H _ R (p.bind.imp fun d e1 F1 H1 _ R1 U1 p1 v d1 => ?_))⟩
  split at p1
  · cases d1; exact ⟨true, rfl, p1 F1 H1 R1 Up.refl _ (.bl true)⟩
  · cases d1; exact ⟨false, rfl, hb.run W tk B e1 σ F1 H1 _ R1 p1⟩
  · exact False.elim p1
theorem se_not (ha : SE X a ma) : SE X (.UnaryOp .Not a pos) (ofB (xNot (toB ma))) := by
  refine ⟨fun W tk B env σ F H Q R p => zE.by (pe_not pe_w) (ha.run W tk B env σ F H _ R (p.bind.bind.bind.imp fun d e1 F1 H1 _ R1 U1 p1 v d1 => ?_))⟩
  split at p1
  · cases d1; exact ⟨_, rfl, p1 F1 H1 R1 Up.refl F1 H1 R1 Up.refl F1 H1 R1 Up.refl _ (.bl _)⟩
  · exact False.elim p1
theorem se_if {c : Expr} {mc : M Bool} (hc : ST X c mc) (ha : SE X a ma) (hb : SE X b mb) : SE X (.IfExp c a b pos) (xIf mc ma mb) := by
  refine ⟨fun W tk B env σ F H Q R p => zE.by (pe_ifExp pt_w pe_w pe_w) (hc.run W tk B env σ F H _ R (p.bind.imp fun k e1 F1 H1 _ R1 U1 p1 => ?_))⟩
  cases k with
  | true => exact ha.run W tk B e1 σ F1 H1 _ R1 p1
  | false => exact hb.run W tk B e1 σ F1 H1 _ R1 p1
end
end
end Dl

/-! Dl2: displays, calls, comprehensions. Own work. -/
namespace Dl
open PySem PySem.Spec PyProof.Rows L2

theorem PostC.up {α : Type} {X : Cx} {B F F' : Hp} {σ : St} {W : WX} {cn : α → List Cn} {ok : α → Env → List V → Hp → Hp → Prop} {o : Out α} (u : Up B F F') (h : PostC X B σ F W cn ok o) : PostC X B σ F' W cn ok o := by
  cases o with
  | ok a e => exact fun vs F2 H2 l R U => h vs F2 H2 l R (u.trans U)
  | err x e => exact fun F2 H2 cls dd R U => h F2 H2 cls dd R (u.trans U)
  | no => exact h
theorem PostC.bind {α β : Type} {X : Cx} {B F : Hp} {σ : St} {W : WX} {cn : β → List Cn} {ok : β → Env → List V → Hp → Hp → Prop} {o : Out α} {k : α → Env → Out β} (h : PostC X B σ F W cn ok (o.bind k)) :
    Post X B σ F W (fun a e F' H' => PostC X B σ F' W cn ok (k a e)) o := by
  cases o with
  | ok a e => exact fun F2 H2 R U => PostC.up U h
  | err x e => exact h
  | no => exact h
theorem PostC.imp {α : Type} {X : Cx} {B F : Hp} {σ : St} {W : WX} {cn : α → List Cn} {ok ok' : α → Env → List V → Hp → Hp → Prop} {o : Out α} (h : PostC X B σ F W cn ok o)
    (k : ∀ a e vs F' H', o = .ok a e → vs.length = (cn a).length → Rel X.K B ((cn a).map some ++ e) (vs.map some ++ σ) F' H' → Up B F F' → ok a e vs F' H' → ok' a e vs F' H') : PostC X B σ F W cn ok' o := by
  cases o with
  | ok a e => exact fun vs F2 H2 l R U => k a e vs F2 H2 rfl l R U (h vs F2 H2 l R U)
  | err x e => exact h
  | no => exact h
/-- a container's outcome, bound -/
theorem PostC.bindC {α β : Type} {X : Cx} {B F : Hp} {σ : St} {W : WX} {cn : β → List Cn} {ca : α → List Cn} {ok : β → Env → List V → Hp → Hp → Prop} {o : Out α} {k : α → Env → Out β} (h : PostC X B σ F W cn ok (o.bind k)) :
    PostC X B σ F W ca (fun a e _ F' H' => PostC X B σ F' W cn ok (k a e)) o := by
  cases o with
  | ok a e => exact fun vs F2 H2 _ R U => PostC.up U h
  | err x e => exact h
  | no => exact h
theorem Post.bindC {α β : Type} {X : Cx} {B F : Hp} {σ : St} {W : WX} {ca : α → List Cn} {ok : β → Env → Hp → Hp → Prop} {o : Out α} {k : α → Env → Out β} (h : Post X B σ F W ok (o.bind k)) :
    PostC X B σ F W ca (fun a e _ F' H' => Post X B σ F' W ok (k a e)) o := by
  cases o with
  | ok a e => exact fun vs F2 H2 _ R U => Post.up U h
  | err x e => exact h
  | no => exact h

theorem szl : sizeLine = 16777216 := by decide
section
variable {X : Cx} {e a b : Expr} {es : List Expr} {m ma mb : M D} {mn : M Cn} {mr : M (List D)} {pos : Pos}

/-! ### arguments, displays -/
def xNil : M (List D) := fun env => .ok [] env
def xCons (ma : M D) (mr : M (List D)) : M (List D) := fun env => (ma env).bind fun d e1 => (mr e1).bind fun ds e2 => .ok (d :: ds) e2
theorem sa_nil : SA X [] xNil := ⟨fun W tk B env σ F H Q R p => zA.by pa_nil (p F H R Up.refl _ .nil)⟩
theorem sa_cons (ha : SE X a ma) (hr : SA X es mr) (hs : starEach (a :: es) X.env = (false, eval a X.env) :: starEach es X.env := by rfl) : SA X (a :: es) (xCons ma mr) := by
  refine ⟨fun W tk B env σ F H Q R p => zA.by (pa_cons pe_w pa_w hs) ?_⟩
  refine ha.run W tk B env σ F H _ R (p.bind.imp fun d e1 F1 H1 _ R1 U1 p1 v1 d1 => ?_)
  refine hr.run W tk B e1 σ F1 H1 _ R1 (p1.bind.imp fun ds e2 F2 H2 _ R2 U2 p2 vs d2 => ?_)
  exact p2 F2 H2 R2 Up.refl _ (.cons (dp_mono U2.sm d1) d2)
def cap : Nat := 16777216
theorem cap_eq : cap = sizeLine := szl.symm
def xTup (mr : M (List D)) : M D := fun env => (mr env).bind fun ds e => if ds.length ≤ cap then .ok (.tuple ds) e else .no
def xLst (mr : M (List D)) : M Cn := fun env => (mr env).bind fun ds e => if ds.length ≤ cap then .ok (.ls ds) e else .no
theorem se_tup {x1} (h : SA X es mr) : SE X (.Tuple es x1 pos) (xTup mr) := by
  refine ⟨fun W tk B env σ F H Q R p => zE.by (pe_tup pa_w) ?_⟩
  refine h.run W tk B env σ F H _ R (p.bind.imp fun ds e1 F1 H1 _ R1 U1 p1 vs d1 => ?_)
  split at p1
  · rename_i hz
    refine ⟨by rw [d1.length, ← cap_eq]; exact hz, fun q hq => ?_⟩
    have g : Grow F1 H1 (upd F1 q (.tup vs)) (upd H1 q (.tup vs)) := Grow.new R1.fh hq
    exact p1 _ _ (R1.grow g) (g.up R1.bh) _ (.tup (.inl (.inl upd_same)) (dpAll_mono g.f d1))
  · exact False.elim p1
theorem sn_lst (h : SA X es mr) : SN X (.List es pos) (xLst mr) := by
  refine ⟨fun W tk B env σ F H Q R p => zE.by (pe_lst pa_w) ?_⟩
  refine h.run W tk B env σ F H _ R (p.bind.imp fun ds e1 F1 H1 _ R1 U1 p1 vs d1 => ?_)
  split at p1
  · rename_i hz
    refine ⟨by rw [d1.length, ← cap_eq]; exact hz, fun q hq => ?_⟩
    exact p1 [.ref q] F1 _ rfl (R1.newl hq d1) Up.refl _ rfl
  · exact False.elim p1
/-- an owned list, frozen -/
def toD : Cn → Option D
  | .val d => some d
  | .ls ds => some (.list ds)
  | _ => none
def xFz (m : M Cn) : M D := fun env => (m env).bind fun c e => .of (toD c) e
theorem se_fz (h : SN X e mn) : SE X e (xFz mn) := by
  refine ⟨fun W tk B env σ F H Q R p => h.run W tk B env σ F H Q R (p.bindC.imp fun c e1 vs F1 H1 _ l R1 U1 p1 v hv => ?_)⟩
  subst hv
  cases c with
  | val d =>
    obtain ⟨h1, R2⟩ := Rel.unval R1
    exact p1 F1 H1 R2 Up.refl _ h1
  | ls ds =>
    obtain ⟨F2, R2, U2, h2⟩ := Rel.freeze R1
    exact p1 F2 H1 R2 U2 _ h2
  | dk _ => exact False.elim p1
  | lc _ => exact False.elim p1
  | ob _ _ => exact False.elim p1
  | raw _ => exact False.elim p1
  | ro _ => exact False.elim p1
def xNw (m : M D) : M Cn := fun env => (m env).bind fun d e => .ok (.val d) e
theorem sn_val (h : SE X e m) : SN X e (xNw m) := by
  refine ⟨fun W tk B env σ F H Q R p => h.run W tk B env σ F H Q R (p.bind.imp fun d e1 F1 H1 _ R1 U1 p1 v hv => ?_)⟩
  exact p1 [v] F1 H1 rfl (R1.front hv) Up.refl v rfl
/-- a name that holds an owned list: frozen from now on -/
def xfr (i : Nat) : M D := fun env => match env[i]? with
  | some (some (.val d)) => .ok d env
  | some (some (.ls ds)) => .ok (.list ds) (env.set i (some (.val (.list ds))))
  | _ => .no
theorem se_frz {i : Nat} {x : Str} {p1 : Pos} (hn : PE X (.Name x p1) (tVar i)) : SE X (.Name x p1) (xfr i) := by
  refine ⟨fun W tk B env σ F H Q R p => zE.by hn ?_⟩
  unfold xfr at p
  split at p
  · rename_i d h
    obtain ⟨v, h1, h2⟩ := R.val h
    exact ⟨v, h1, p F H R Up.refl v h2⟩
  · rename_i ds h
    obtain ⟨v, h1, R1⟩ := R.take h
    obtain ⟨F2, R2, U2, h2⟩ := R1.freeze
    have R3 := (R2.front h2).back h1
    rw [List.set_set] at R3
    exact ⟨v, h1, p F2 H R3 U2 v h2⟩
  · exact False.elim p
/-- a name's container, taken away from it -/
def xmv (i : Nat) : M Cn := fun env => match env[i]? with
  | some (some c) => .ok c (env.set i none)
  | _ => .no
theorem sn_mv {i : Nat} {x : Str} {p1 : Pos} (hn : PE X (.Name x p1) (tVar i)) : SN X (.Name x p1) (xmv i) := by
  refine ⟨fun W tk B env σ F H Q R p => zE.by hn ?_⟩
  unfold xmv at p
  split at p
  · rename_i c h
    obtain ⟨v, h1, R1⟩ := R.take h
    exact ⟨v, h1, p [v] F H rfl R1 Up.refl v rfl⟩
  · exact False.elim p

/-! ### builtins -/
section
variable {r : List V → Hp → VK → Prop} {f : D → Option D} {f2 : D → D → Option D} {fl : D → Option (List D)} {x : Str} {p1 : Pos} {id T : String}
def RC1 (K : PySem.W.Frag) (r : List V → Hp → VK → Prop) (f : D → Option D) : Prop := RUn K (fun v H Q => r [v] H Q) f
def RC2 (K : PySem.W.Frag) (r : List V → Hp → VK → Prop) (f : D → D → Option D) : Prop := ROp K (fun v w H Q => r [v, w] H Q) f
/-- a new list comes of it -/
def RCN (K : PySem.W.Frag) (r : List V → Hp → VK → Prop) (f : D → Option (List D)) : Prop := ∀ x ds, f x = some ds → ∀ (F H : Hp) (v : V) (Q : VK), Same F H → DpB K F H v x →
  (∀ p vs, H p = none → DpAll K F vs ds → Q (.ref p) (upd H p (.lst vs))) → r [v] H Q
def xUnN (f : D → Option (List D)) (ma : M D) : M Cn := fun env => (ma env).bind fun x e1 => match f x with
  | some ds => .ok (.ls ds) e1
  | none => .no
theorem unN_run (hr : RCN X.K r fl) (ha : SB X a ma) {W : WX} (tk : Takes X W) {B F H : Hp} {env : Env} {σ : St} {Q : VK} (R : Rel X.K B env σ F H)
    (p : PostC X B σ F W (fun c => [c]) (fun _ _ vs _ H' => ∀ v, vs = [v] → Q v H') (xUnN fl ma env)) : zE X a σ H fun v1 H1 => r [v1] H1 Q := by
  refine ha.run W tk B env σ F H _ R (p.bind.imp fun x e1 F1 H1 _ R1 U1 p1 v1 d1 => ?_)
  cases q : fl x with
  | none => rw [q] at p1; exact False.elim p1
  | some ds =>
    rw [q] at p1
    exact hr x ds q F1 H1 v1 Q R1.fh d1 fun p vs hp hv => p1 [.ref p] F1 _ rfl (R1.newl hp hv) Up.refl _ rfl
theorem se_call1 (hc : CallR X (.builtin id) r) (hr : RC1 X.K r f) (ha : SB X a ma) (hg : Gl X x) (hm : X.mg x = none) (hv : bootBuiltins x = some (.builtin id)) (hn : x ≠ "__name__" := by decide) (hdb : (x == ("__debug__" : Str)) = false := by decide)
    (he : starEach [a] X.env = (false, eval a X.env) :: starEach [] X.env := by rfl) : SE X (.Call (.Name x p1) [a] [] pos) (xUn f ma) :=
  ⟨fun W tk B env σ F H Q R p => zE.by (pe_callB hc hg hm hv (pa_cons pe_w pa_nil he) hn hdb he rfl) (un_run hr ha tk R p)⟩
theorem se_callT1 (hc : CallR X (.type T) r) (hr : RC1 X.K r f) (ha : SB X a ma) (hg : Gl X x) (hm : X.mg x = none) (hv : bootBuiltins x = some (.type T)) (hn : x ≠ "__name__" := by decide) (hdb : (x == ("__debug__" : Str)) = false := by decide)
    (he : starEach [a] X.env = (false, eval a X.env) :: starEach [] X.env := by rfl) : SE X (.Call (.Name x p1) [a] [] pos) (xUn f ma) :=
  ⟨fun W tk B env σ F H Q R p => zE.by (pe_callTy hc hg hm hv (pa_cons pe_w pa_nil he) hn hdb he rfl) (un_run hr ha tk R p)⟩
theorem sn_call1 (hc : CallR X (.builtin id) r) (hr : RCN X.K r fl) (ha : SB X a ma) (hg : Gl X x) (hm : X.mg x = none) (hv : bootBuiltins x = some (.builtin id)) (hn : x ≠ "__name__" := by decide) (hdb : (x == ("__debug__" : Str)) = false := by decide)
    (he : starEach [a] X.env = (false, eval a X.env) :: starEach [] X.env := by rfl) : SN X (.Call (.Name x p1) [a] [] pos) (xUnN fl ma) :=
  ⟨fun W tk B env σ F H Q R p => zE.by (pe_callB hc hg hm hv (pa_cons pe_w pa_nil he) hn hdb he rfl) (unN_run hr ha tk R p)⟩
theorem sn_callT1 (hc : CallR X (.type T) r) (hr : RCN X.K r fl) (ha : SB X a ma) (hg : Gl X x) (hm : X.mg x = none) (hv : bootBuiltins x = some (.type T)) (hn : x ≠ "__name__" := by decide) (hdb : (x == ("__debug__" : Str)) = false := by decide)
    (he : starEach [a] X.env = (false, eval a X.env) :: starEach [] X.env := by rfl) : SN X (.Call (.Name x p1) [a] [] pos) (xUnN fl ma) :=
  ⟨fun W tk B env σ F H Q R p => zE.by (pe_callTy hc hg hm hv (pa_cons pe_w pa_nil he) hn hdb he rfl) (unN_run hr ha tk R p)⟩
theorem se_call2 (hc : CallR X (.builtin id) r) (hr : RC2 X.K r f2) (ha : SE X a ma) (hb : SB X b mb) (hg : Gl X x) (hm : X.mg x = none) (hv : bootBuiltins x = some (.builtin id)) (hn : x ≠ "__name__" := by decide) (hdb : (x == ("__debug__" : Str)) = false := by decide)
    (he : starEach [a, b] X.env = (false, eval a X.env) :: starEach [b] X.env := by rfl) (he2 : starEach [b] X.env = (false, eval b X.env) :: starEach [] X.env := by rfl) (hpl : (backTo pos (starEach [b] X.env)).any (·.1) = false := by rfl) : SE X (.Call (.Name x p1) [a, b] [] pos) (xBin f2 ma mb) :=
  ⟨fun W tk B env σ F H Q R p => zE.by (pe_callB hc hg hm hv (pa_cons pe_w (pa_cons pe_w pa_nil he2) he) hn hdb he hpl) (bin_run hr ha hb tk R p)⟩
/-- isinstance(e, T), T a built-in class | a tuple of such -/
theorem se_isi1 {f : D → Option D} {c : Expr} {w : V} (hc : CallR X (.builtin id) r) (hr : RUn X.K (fun v H Q => r [v, w] H Q) f) (ha : SB X a ma) (hw : PE X c (tC w)) (hg : Gl X x) (hm : X.mg x = none) (hv : bootBuiltins x = some (.builtin id)) (hn : x ≠ "__name__" := by decide) (hdb : (x == ("__debug__" : Str)) = false := by decide)
    (he : starEach [a, c] X.env = (false, eval a X.env) :: starEach [c] X.env := by rfl) (he2 : starEach [c] X.env = (false, eval c X.env) :: starEach [] X.env := by rfl) (hpl : (backTo pos (starEach [c] X.env)).any (·.1) = false := by rfl) : SE X (.Call (.Name x p1) [a, c] [] pos) (xUn f ma) :=
  ⟨fun W tk B env σ F H Q R p => zE.by (pe_callB hc hg hm hv (pa_cons pe_w (pa_cons hw pa_nil he2) he) hn hdb he hpl) (un_run hr ha tk R p)⟩
end

/-! ### slices -/
section
variable {lo hi : Option Expr} {p2 p1 : Pos} {r : V → Option Int → Option Int → Hp → VK → Prop} {f : D → Option Int → Option Int → Option D} {fl : D → Option Int → Option Int → Option (List D)} {i : Nat} {x : Str} {ml mh : M (Option Int)}
def zO (X : Cx) (e : Option Expr) : TO := fun σ H Q => ∀ (pins : List (Addr × Obj)) (s : Shared), Inv X pins σ H s → wpAny (model X.prog X.w) X.A (evalPart e X.env) (fun u s' => ∃ o H', Inv X pins σ H' s' ∧ IsPart u o ∧ Q o H') X.xe s
theorem po_w {e : Option Expr} : PO X e (zO X e) := ⟨fun pins s σ H Q I h => h pins s I⟩
theorem zO.by {e : Option Expr} {t : TO} (p : PO X e t) {σ : St} {H : Hp} {Q : Option Int → Hp → Prop} (h : t σ H Q) : zO X e σ H Q := fun pins s I => p.run pins s σ H Q I h
structure SO (X : Cx) (e : Option Expr) (m : M (Option Int)) : Prop where
  run : ∀ (W : WX), Takes X W → ∀ (B : Hp) (env : Env) (σ : St) (F H : Hp) (Q : Option Int → Hp → Prop), Rel X.K B env σ F H → Post X B σ F W (fun o _ _ H' => Q o H') (m env) → zO X e σ H Q
def oNo : M (Option Int) := fun env => .ok none env
def oSo (m : M D) : M (Option Int) := fun env => (m env).bind fun d e => match d with
  | .int i => .ok (some i) e
  | _ => .no
theorem so_none : SO X none oNo := ⟨fun W tk B env σ F H Q R p => zO.by po_none (p F H R Up.refl)⟩
theorem so_some (h : SB X e m) : SO X (some e) (oSo m) := by
  refine ⟨fun W tk B env σ F H Q R p => zO.by (po_some pe_w) (h.run W tk B env σ F H _ R (p.bind.imp fun d e1 F1 H1 _ R1 U1 p1 v d1 => ?_))⟩
  split at p1
  · exact ⟨_, d1.int, p1 F1 H1 R1 Up.refl⟩
  · exact False.elim p1
def RSl (K : PySem.W.Frag) (r : V → Option Int → Option Int → Hp → VK → Prop) (f : D → Option Int → Option Int → Option D) : Prop := ∀ x l h z, f x l h = some z → ∀ (F H : Hp) (v : V) (Q : VK), Same F H → DpB K F H v x →
  (∀ v F' H', Grow F H F' H' → Dp K F' v z → Q v H') → r v l h H Q
def xSl (f : D → Option Int → Option Int → Option D) (ma : M D) (ml mh : M (Option Int)) : M D := fun env => (ma env).bind fun x e1 => (ml e1).bind fun l e2 => (mh e2).bind fun h e3 => .of (f x l h) e3
def xSlV (f : D → Option Int → Option Int → Option D) (i : Nat) (ml mh : M (Option Int)) : M D := fun env => if (peek i env).isSome = true then (ml env).bind fun l e2 => (mh e2).bind fun h e3 => .of ((peek i e3).bind fun x => f x l h) e3 else .no
theorem sl_run (hr : RSl X.K r f) {W : WX} {B F H : Hp} {env : Env} {σ : St} {x : D} {l h : Option Int} {v : V} {Q : VK} (R : Rel X.K B env σ F H) (h1 : DpB X.K F H v x)
    (p : Post X B σ F W (fun d _ F' H' => ∀ v, Dp X.K F' v d → Q v H') (.of (f x l h) env)) : r v l h H Q := by
  cases q : f x l h with
  | none => rw [q] at p; exact False.elim p
  | some z =>
    rw [q] at p
    exact hr x l h z q F H v Q R.fh h1 fun v F' H' g hv => p F' H' (R.grow g) (g.up R.bh) v hv
theorem se_sl (ho : SlR X r) (hr : RSl X.K r f) (ha : SE X a ma) (hl : SO X lo ml) (hh : SO X hi mh) : SE X (.Subscript a (.Slice lo hi none p2) pos) (xSl f ma ml mh) := by
  refine ⟨fun W tk B env σ F H Q R p => zE.by (pe_slice ho pe_w po_w po_w) ?_⟩
  refine ha.run W tk B env σ F H _ R (p.bind.imp fun x e1 F1 H1 _ R1 U1 p1 v1 d1 => ?_)
  refine hl.run W tk B e1 σ F1 H1 _ R1 (p1.bind.imp fun l e2 F2 H2 _ R2 U2 p2 => ?_)
  refine hh.run W tk B e2 σ F2 H2 _ R2 (p2.bind.imp fun h e3 F3 H3 _ R3 U3 p3 => ?_)
  exact sl_run hr R3 (.up d1 (U2.trans U3).sm _) p3
theorem se_slV (ho : SlR X r) (hr : RSl X.K r f) (hn : PE X (.Name x p1) (tVar i)) (hl : SO X lo ml) (hh : SO X hi mh) : SE X (.Subscript (.Name x p1) (.Slice lo hi none p2) pos) (xSlV f i ml mh) := by
  refine ⟨fun W tk B env σ F H Q R p => zE.by (pe_slice ho hn po_w po_w) ?_⟩
  unfold xSlV at p
  split at p
  · rename_i hs
    obtain ⟨d0, hd0⟩ := Option.isSome_iff_exists.mp hs
    obtain ⟨v, hv, _⟩ := peek_rel R hd0
    refine ⟨v, hv, ?_⟩
    refine hl.run W tk B env σ F H _ R (p.bind.imp fun l e2 F2 H2 _ R2 U2 p2 => ?_)
    refine hh.run W tk B e2 σ F2 H2 _ R2 (p2.bind.imp fun h e3 F3 H3 _ R3 U3 p3 => ?_)
    cases q : peek i e3 with
    | none => rw [q] at p3; exact False.elim p3
    | some x0 =>
      rw [q] at p3
      obtain ⟨v', hv', dv⟩ := peek_rel R3 q
      rw [hv] at hv'
      cases hv'
      exact sl_run hr R3 dv p3
  · exact False.elim p
end
end

/-! ### a list in front, or in a slot, is changed -/
section
variable {K : PySem.W.Frag} {B F H : Hp} {env : Env} {σ : St} {i : Nat}
theorem Rel.front_ls {p : Addr} {ds ds' : List D} {vs' : List V} (R : Rel K B (some (.ls ds) :: env) (some (.ref p) :: σ) F H) (h : DpAll K F vs' ds') : Rel K B (some (.ls ds') :: env) (some (.ref p) :: σ) F (upd H p (.lst vs')) := by
  obtain ⟨fp, o, nd, z⟩ := R.own
  cases o with
  | @yes _ _ _ _ f1 f2 h1 q =>
    cases h1 with
    | ls a1 a2 =>
      have zp := z p (by simp)
      refine ⟨⟨[p] ++ f2, .yes (.ls upd_same h) (OwnS.mono (Same.refl F) (fun a ha => ?_) q), nd, z⟩, fun a u e => ?_, fun a u e => ?_⟩
      · exact upd_ne fun e => (List.nodup_append.mp nd).2.2 p (by simp) a ha e.symm
      · rw [upd_ne fun z' => by subst z'; rw [zp.1] at e; cases e]
        exact R.fh a u e
      · rw [upd_ne fun z' => by subst z'; rw [zp.2] at e; cases e]
        exact R.bh a u e
theorem Rel.front_dk {p : Addr} {ds ds' : List (Key × D)} {vs' : List (Key × V)} (R : Rel K B (some (.dk ds) :: env) (some (.ref p) :: σ) F H) (h : KvAll K F vs' ds') : Rel K B (some (.dk ds') :: env) (some (.ref p) :: σ) F (upd H p (.dK vs')) := by
  obtain ⟨fp, o, nd, z⟩ := R.own
  cases o with
  | @yes _ _ _ _ f1 f2 h1 q =>
    cases h1 with
    | dk a1 a2 =>
      have zp := z p (by simp)
      refine ⟨⟨[p] ++ f2, .yes (.dk upd_same h) (OwnS.mono (Same.refl F) (fun a ha => ?_) q), nd, z⟩, fun a u e => ?_, fun a u e => ?_⟩
      · exact upd_ne fun e => (List.nodup_append.mp nd).2.2 p (by simp) a ha e.symm
      · rw [upd_ne fun z' => by subst z'; rw [zp.1] at e; cases e]
        exact R.fh a u e
      · rw [upd_ne fun z' => by subst z'; rw [zp.2] at e; cases e]
        exact R.bh a u e
theorem Rel.set_ls {p : Addr} {ds ds' : List D} {vs' : List V} (R : Rel K B env σ F H) (h : env[i]? = some (some (.ls ds))) (hs : σ[i]? = some (some (.ref p))) (hv : DpAll K F vs' ds') :
    Rel K B (env.set i (some (.ls ds'))) σ F (upd H p (.lst vs')) := by
  obtain ⟨v, h1, R1⟩ := R.take h
  rw [hs] at h1
  cases h1
  have R2 := (R1.front_ls hv).back hs
  rw [List.set_set] at R2
  exact R2
theorem Rel.set_dk {p : Addr} {ds ds' : List (Key × D)} {vs' : List (Key × V)} (R : Rel K B env σ F H) (h : env[i]? = some (some (.dk ds))) (hs : σ[i]? = some (some (.ref p))) (hv : KvAll K F vs' ds') :
    Rel K B (env.set i (some (.dk ds'))) σ F (upd H p (.dK vs')) := by
  obtain ⟨v, h1, R1⟩ := R.take h
  rw [hs] at h1
  cases h1
  have R2 := (R1.front_dk hv).back hs
  rw [List.set_set] at R2
  exact R2
end
def lsOf (i : Nat) (env : Env) : Option (List D) := match env[i]? with
  | some (some (.ls ds)) => some ds
  | _ => none
theorem lsOf_eq {i : Nat} {env : Env} {ds : List D} (h : lsOf i env = some ds) : env[i]? = some (some (.ls ds)) := by
  unfold lsOf at h
  split at h
  · cases h; assumption
  · cases h
section
variable {X : Cx} {es : List Expr} {e : Expr} {mr : M (List D)} {x name : Str} {p1 apos pos : Pos} {id : String} {r : V → List V → Hp → VK → Prop} {f : List D → List D → Option (D × List D)} {i : Nat}
/-- a method that changes its list: the content, the arguments; the answer, the content behind -/
def RMu (K : PySem.W.Frag) (r : V → List V → Hp → VK → Prop) (f : List D → List D → Option (D × List D)) : Prop := ∀ ds as z ds', f ds as = some (z, ds') → ∀ (F H : Hp) (p : Addr) (xs vs : List V) (Q : VK), Same F H → H p = some (.lst xs) → F p = none →
  DpAll K F xs ds → DpAll K F vs as → (∀ v xs', Dp K F v z → DpAll K F xs' ds' → Q v (upd H p (.lst xs'))) → r (.ref p) vs H Q
def xMu (f : List D → List D → Option (D × List D)) (i : Nat) (mr : M (List D)) : M D := fun env => if (lsOf i env).isSome = true then (mr env).bind fun as e1 => match (lsOf i e1).bind fun ds => f ds as with
  | some (z, ds') => .ok z (e1.set i (some (.ls ds')))
  | none => .no else .no
theorem mu_run (hr : RMu X.K r f) (ha : SA X es mr) {W : WX} (tk : Takes X W) {B F H : Hp} {env : Env} {σ : St} {Q : VK} (R : Rel X.K B env σ F H)
    (p : Post X B σ F W (fun d _ F' H' => ∀ v, Dp X.K F' v d → Q v H') (xMu f i mr env)) : tBM X.K "list" r (tVar i) (zA X es) σ H Q := by
  unfold xMu at p
  split at p
  · rename_i hs
    obtain ⟨d0, hd0⟩ := Option.isSome_iff_exists.mp hs
    obtain ⟨q, vs0, h1, h2, _⟩ := R.ls (lsOf_eq hd0)
    refine ⟨.ref q, h1, .inl ⟨rfl, _, .inl (.inl h2)⟩, ?_⟩
    refine ha.run W tk B env σ F H _ R (p.bind.imp fun as e1 F1 H1 _ R1 U1 p1 vs d1 => ?_)
    cases c : lsOf i e1 with
    | none => rw [c] at p1; exact False.elim p1
    | some ds =>
      rw [c] at p1
      obtain ⟨q', xs, g1, g2, g3, g4, g5⟩ := R1.ls (lsOf_eq c)
      rw [h1] at g1
      cases g1
      cases k : f ds as with
      | none =>
        rw [show (some ds).bind (fun ds => f ds as) = f ds as from rfl, k] at p1
        exact False.elim p1
      | some zd =>
        obtain ⟨z, ds'⟩ := zd
        rw [show (some ds).bind (fun ds => f ds as) = f ds as from rfl, k] at p1
        exact hr ds as z ds' k F1 H1 q xs vs Q R1.fh g2 g4 g3 d1 fun v xs' hv hx => p1 F1 _ (R1.set_ls (lsOf_eq c) h1 hx) Up.refl v hv
  · exact False.elim p
theorem se_mu (pa : PlainAttrs "list") (slot : Slot "list" name id) (hty : typeOf (.builtin id) = pure (.type "method_descriptor")) (hm : MtR X id r) (hr : RMu X.K r f) (hn : PE X (.Name x p1) (tVar i)) (ha : SA X (e :: es) mr)
    (hbase : attributeBase (.Name x p1) name X.env (eval (.Name x p1) X.env) = eval (.Name x p1) X.env := by rfl)
    (hfew : ((backTo pos (starEach (e :: es) X.env)).all (fun x => !x.1) && (backToKw pos (keywordEach [] X.env)).all (fun x => x.1.isSome)
      && decide ((e :: es).length + ([] : List Keyword).length + (if ([] : List Keyword).isEmpty then 0 else 1) < 30)) = true := by rfl)
    (hline : (apos.endLine == pos.line) = true := by rfl) (hs : starEach (e :: es) X.env = (false, eval e X.env) :: starEach es X.env := by rfl) (hplain : (backTo pos (starEach es X.env)).any (·.1) = false := by rfl) :
    SE X (.Call (.Attribute (.Name x p1) name apos) (e :: es) [] pos) (xMu f i mr) :=
  ⟨fun W tk B env σ F H Q R p => zE.by (pe_bm pa slot hty hm hn pa_w hbase hfew hline hs hplain) (mu_run hr ha tk R p)⟩
theorem se_mu0 (pa : PlainAttrs "list") (slot : Slot "list" name id) (hty : typeOf (.builtin id) = pure (.type "method_descriptor")) (hm : MtR X id r) (hr : RMu X.K r f) (hn : PE X (.Name x p1) (tVar i))
    (hbase : attributeBase (.Name x p1) name X.env (eval (.Name x p1) X.env) = eval (.Name x p1) X.env := by rfl) (hline : (apos.endLine == pos.line) = true := by rfl) :
    SE X (.Call (.Attribute (.Name x p1) name apos) [] [] pos) (xMu f i xNil) := by
  refine ⟨fun W tk B env σ F H Q R p => zE.by (pe_bm0 pa slot hty hm hn hbase hline) ?_⟩
  unfold xMu at p
  split at p
  · rename_i hs
    obtain ⟨d0, hd0⟩ := Option.isSome_iff_exists.mp hs
    obtain ⟨q, xs, h1, h2, h3, h4, _⟩ := R.ls (lsOf_eq hd0)
    refine ⟨.ref q, h1, .inl ⟨rfl, _, .inl (.inl h2)⟩, ?_⟩
    have p1 : Post X B σ F W (fun d _ F' H' => ∀ v, Dp X.K F' v d → Q v H') (match (lsOf i env).bind fun ds => f ds [] with
      | some (z, ds') => .ok z (env.set i (some (.ls ds')))
      | none => .no) := p
    rw [hd0] at p1
    cases k : f d0 [] with
    | none =>
      rw [show (some d0).bind (fun ds => f ds []) = f d0 [] from rfl, k] at p1
      exact False.elim p1
    | some zd =>
      obtain ⟨z, ds'⟩ := zd
      rw [show (some d0).bind (fun ds => f ds []) = f d0 [] from rfl, k] at p1
      exact hr d0 [] z ds' k F H q xs [] Q R.fh h2 h4 h3 .nil fun v xs' hv hx => p1 F _ (R.set_ls (lsOf_eq hd0) h1 hx) Up.refl v hv
  · exact False.elim p
/-- a method of a text (or a frozen thing): nothing changes but new objects -/
def RMt (K : PySem.W.Frag) (T : String) (r : V → List V → Hp → VK → Prop) (f : D → D → Option D) : Prop := ∀ x y z, f x y = some z → ∀ (F H : Hp) (v w : V) (Q : VK), Same F H → DpB K F H v x → DpB K F H w y →
  (∀ v F' H', Grow F H F' H' → Dp K F' v z → Q v H') → tyV K T v H ∧ r v [w] H Q
end
end Dl

/-! Dl3: what is walked; comprehensions. Own work. -/
namespace L2
open PySem PySem.Spec PyProof.Rows
/-- enumerate over a thing that stands while G holds: n turns, Y tells the items -/
def Iten (n : Nat) (G : Hp → Prop) (Y : Nat → V → Prop) : It :=
  ⟨fun i H => i < n ∧ G H, fun i H v H' => ∃ T x, v = .ref T ∧ H T = none ∧ H' = upd H T (.tup [.int (i : Nat), x]) ∧ Y i x, fun i H => i = n ∧ G H⟩
theorem turn_enumG {P : Program} {w : World} {K : PySem.W.Frag} {elts : List Expr} {kk : Nat} {tpos : Pos} {n : Nat} {G : Hp → Prop} {Y : Nat → V → Prop} (e it : Addr) (S : Nat → Heap → Prop)
    (hS : ∀ i h, S i h → ∃ o, h.get? it = some o ∧ ∀ v, o.data ≠ .cell v) (hk : ∀ i h h', S i h → (∀ o, h.get? it = some o → h'.get? it = some o) → S i h')
    (hD : ∀ (X : Cx), X.prog = P → X.w = w → X.K = K → X.A.handled = none → ∀ (pins : List (Addr × Obj)) (s : Shared) (σ : St) (H : Hp), Inv X pins σ H s → G H → (∃ o, s.heap.get? e = some o ∧ o.cls = .type "enumerate") → e ≠ it →
      ∃ (fp : List Addr) (Pv : Nat → Value → Prop) (St : Nat → Heap → Prop), Draws P w X.A.in1 it fp n Pv St ∧ (∀ i, S i s.heap → St i s.heap) ∧ (∀ i h', St i h' → S i h') ∧ e ∉ fp ∧ (∀ i u, Pv i u → ∃ x, RelV x u ∧ Y i x)) :
    Turn P w K (.Tuple elts kk tpos) (Iten n G Y) [e, it] e (fun i h => (∃ old, IsEnum h e it ((i : Nat) : Int) old) ∧ S i h ∧ e ≠ it) where
  mem := by simp
  obj := fun i h st b hb => by
    obtain ⟨⟨old, he⟩, hs, _⟩ := st
    have e' : b = e ∨ b = it := by simpa using hb
    rcases e' with z | z
    · rw [z]; exact ⟨_, he, fun v q => nomatch q⟩
    · rw [z]; exact hS i h hs
  keep := fun i h h' st k => let ⟨⟨old, he⟩, hi, hne⟩ := st; ⟨⟨old, k e (by simp) _ he⟩, hk i h h' hi fun o q => k it (by simp) o q, hne⟩
  item := by
    intro X hP hw hK hc i pins s σ H E I hf st hg
    subst hP hw hK
    obtain ⟨⟨old, he⟩, hit, hne⟩ := st
    obtain ⟨hlt, hG⟩ := hg
    have hel : e < s.heap.objs.size := Heap.lt_size he
    have hil : it < s.heap.objs.size := by obtain ⟨o, q, _⟩ := hS i _ hit; exact Heap.lt_size q
    obtain ⟨fp, Pv, St, D, d1, d2, d3, d4⟩ := hD X rfl rfl rfl (I.ok.hd hc) pins s σ H I hG ⟨_, he, rfl⟩ hne
    refine wpAny_pyNext_enum_itemC D he (d1 i hit) hlt hne d3 fun x h' tk hP ho hs' hT hsz hk' => ?_
    obtain ⟨y, ry, hy⟩ := d4 i x hP
    refine ⟨_, rfl, wpAny_letOwnedTupleGo_enum (s := { s with heap := h', toks := tk + 1 }) ho fun h'' he' sb => ?_⟩
    have hT2 : h''.get? s.heap.objs.size = some { cls := .type "tuple", data := .seq #[.int i tk, x] } := (sb.2 _ (Nat.ne_of_gt hel)).trans hT
    have new : ObjOk X.prog X.w (upd H s.heap.objs.size (.tup [.int (i : Nat), y])) h'' s.heap.objs.size (.tup [.int (i : Nat), y]) :=
      ⟨by show 2 ≤ sizeLine; decide, [.int i tk, x], .cons ⟨_, rfl⟩ (.cons ry .nil), ⟨_, hT2, rfl, _, rfl⟩⟩
    have I1 : Inv X pins σ (upd H s.heap.objs.size (.tup [.int (i : Nat), y])) { s with heap := h'', toks := tk + 1 } :=
      I.turnedNew (ch := [e, it]) (fun b ob hb q => (sb.2 b (fun z => hb (by simp [z]))).trans (hk' b ob (fun z => hb (by simp [z])) (fun z => hb (by simp [z])) q)) hf (Nat.le_refl _) new
    refine ⟨.ref s.heap.objs.size, _, I1, rfl, ⟨_, y, rfl, I.hok.fresh (Nat.le_refl _), rfl, hy⟩, ⟨⟨x, ?_⟩, hk _ _ _ (d2 _ _ hs') fun o q => (sb.2 it (Ne.symm hne)).trans q, hne⟩, fun b hb => ?_⟩
    · have e1 : ((i + 1 : Nat) : Int) = (i : Int) + 1 := by omega
      rw [e1]; exact he'
    · have hb' : b < s.heap.objs.size := by
        have e' : b = e ∨ b = it := by simpa using hb
        rcases e' with z | z
        · rw [z]; exact hel
        · rw [z]; exact hil
      rw [upd_ne (Nat.ne_of_lt hb')]
      exact (hf b hb).1
  done := by
    intro X hP hw hK hc i pins s σ H E I hf st hg
    subst hP hw hK
    obtain ⟨⟨old, he⟩, hit, hne⟩ := st
    obtain ⟨hlt, hG⟩ := hg
    subst hlt
    have hil : it < s.heap.objs.size := by obtain ⟨o, q, _⟩ := hS _ _ hit; exact Heap.lt_size q
    obtain ⟨fp, Pv, St, D, d1, d2, d3, d4⟩ := hD X rfl rfl rfl (I.ok.hd hc) pins s σ H I hG ⟨_, he, rfl⟩ hne
    obtain ⟨f0, f1, f2, f3, f4, f5⟩ := hf it (by simp)
    exact wpAny_pyNext_enum_endD D he (d1 _ hit) fun h' eb => ⟨rfl, I.turned (t' := s.toks) (fun b o hb q => eb b o hb q) f0 f1 f3 f4 f5⟩
  self := fun A i s Q E st h => let ⟨⟨_, he⟩, _⟩ := st; wpAny_pyIter_enum he h
/-- enumerate(v) begins, v a thing whose iterator is a new object -/
theorem enumG_begins {X : Cx} {pins : List (Addr × Obj)} {σ : St} {H : Hp} {s : Shared} {v : Value} {o : Obj} {elts : List Expr} {kk : Nat} {tpos : Pos} {R : It → Hp → Prop} {J : It} {S : Nat → Heap → Prop} {E : Value → Shared → Prop}
    (I : Inv X pins σ H s) (hcall : ∀ (Q : Value → Shared → Prop), (∀ h', IsEnum h' (s.heap.objs.size + 1) s.heap.objs.size 0 .none → h'.get? s.heap.objs.size = some o → h'.objs.size = s.heap.objs.size + 2 → (∀ b o, s.heap.get? b = some o → h'.get? b = some o) →
      Q (.ref (s.heap.objs.size + 1)) { s with heap := h' }) → wpAny (model X.prog X.w) X.A (call (.type "enumerate") [v]) Q E s)
    (T : Turn X.prog X.w X.K (.Tuple elts kk tpos) J [s.heap.objs.size + 1, s.heap.objs.size] (s.heap.objs.size + 1) (fun i h => (∃ old, IsEnum h (s.heap.objs.size + 1) s.heap.objs.size ((i : Nat) : Int) old) ∧ S i h ∧ s.heap.objs.size + 1 ≠ s.heap.objs.size))
    (hS : ∀ h' : Heap, h'.get? s.heap.objs.size = some o → S 0 h') (q : R J H) :
    wpAny (model X.prog X.w) X.A (call (.type "enumerate") [v]) (fun v s1 => wpAny (model X.prog X.w) X.A (pyIter v) (PIE X pins σ (.Tuple elts kk tpos) R) E s1) E s := by
  refine hcall _ fun h' he ho hsz hk => wpAny_pyIter_enum he ?_
  have I2 : Inv X pins σ H { s with heap := h' } := I.kept (t' := s.toks) hk
  refine ⟨s.heap.objs.size + 1, [s.heap.objs.size + 1, s.heap.objs.size], _, J, H, rfl, I2, T, ⟨⟨.none, he⟩, hS h' ho, Nat.succ_ne_self _⟩, fun b hb => ?_, q⟩
  have e' : b = s.heap.objs.size + 1 ∨ b = s.heap.objs.size := by simpa using hb
  have hle : s.heap.objs.size ≤ b := by
    rcases e' with z | z
    · rw [z]; exact Nat.le_add_right _ _
    · rw [z]; exact Nat.le_refl _
  exact I.fpOk hle (I.hok.fresh hle)
end L2
namespace PySem
theorem dl_meets_enum1 {v : Value} {o : Obj} {H : Heap → Prop} (B : Begins v o H) :
    Meets (Builtin.«enumerate.__new__» ⟨[.type "enumerate", v], []⟩) (fun _ R s => H s.heap ∧
      R (.ok (.ret (.ref (s.heap.push o).objs.size))) { s with heap := (s.heap.push o).push { cls := .type "enumerate", data := .fields #[.none, .bool false, .ref s.heap.objs.size, rawInt 0, .none, .none] } }) :=
  .of_wp fun prog w A R s h => by
    obtain ⟨hp, g, d, tk, os⟩ := s; obtain ⟨h1, h⟩ := h
    have hsub := sub_enumerate
    have q1 : ∀ {A' : Around} {E : Value → Shared → Prop} {Q : Value → Shared → Prop}, Q (.ref hp.objs.size) ⟨hp.push o, g, d, tk, os⟩ → wpAny (model prog w) A' (pyIter v) Q E ⟨hp, g, d, tk, os⟩ :=
      fun q => B.iter prog w _ _ ⟨hp, g, d, tk, os⟩ _ h1 q
    wp_walk using q1
    refine wpAny_stack_any fun st => wpAny_pure ?_
    split
    · rename_i c _ _ _ _ _
      cases (c == Value.type "enumerate")
      · wp_walk using q1
        exact ⟨_, rfl, h⟩
      · wp_walk using q1
        exact ⟨_, rfl, h⟩
    · wp_walk using q1
      exact ⟨_, rfl, h⟩
section
variable {prog : Program} {w : World} {A : Around} {E : Value → Shared → Prop} {s : Shared}
theorem dl_enum1 {v : Value} {o : Obj} {H : Heap → Prop} {Q : Value → Shared → Prop} (B : Begins v o H) (h1 : H s.heap)
    (h : ∀ h', IsEnum h' (s.heap.objs.size + 1) s.heap.objs.size 0 .none → h'.get? s.heap.objs.size = some o → h'.objs.size = s.heap.objs.size + 2 →
      (∀ b o, s.heap.get? b = some o → h'.get? b = some o) → Q (.ref (s.heap.objs.size + 1)) { s with heap := h' }) :
    wpAny (model prog w) A (call (.type "enumerate") [v]) Q E s := by
  refine callType_new F.called_enumerate (by decide) (F.typeCall_enumerate_1 _) (F.newCall_enumerate_1 _) (fun obj => F.args_object_init_2 obj _) F.entry_enumerate_new
    (dl_meets_enum1 B) ⟨h1, ?_⟩
  have hz : (s.heap.push o).objs.size = s.heap.objs.size + 1 := Heap.size_push ..
  show _ ∧ _
  rw [hz]
  have he : IsEnum ((s.heap.push o).push { cls := .type "enumerate", data := .fields #[.none, .bool false, .ref s.heap.objs.size, rawInt 0, .none, .none] }) (s.heap.objs.size + 1) s.heap.objs.size 0 .none := by
    have := Heap.get?_push_size (s.heap.push o) (o := { cls := .type "enumerate", data := .fields #[.none, .bool false, .ref s.heap.objs.size, rawInt 0, .none, .none] }) rfl
    rw [hz] at this; exact this
  refine ⟨⟨_, he, rfl⟩, h _ he (Heap.get?_push_of_some _ (Heap.get?_push_size _ B.free)) (by rw [Heap.size_push, hz]) fun b o x => Heap.get?_push_of_some _ (Heap.get?_push_of_some _ x)⟩
end
end PySem

namespace L2
open PySem PySem.Spec PyProof.Rows
/-- enumerate over a tuple, over a text -/
def YtT (xs : List V) : Nat → V → Prop := fun i x => xs[i]? = some x
def YtS (z : Str) : Nat → V → Prop := fun i x => ∃ c, z.cps[i]? = some c ∧ x = .str ⟨#[c]⟩
theorem turn_enumT {P : Program} {w : World} {K : PySem.W.Frag} {elts : List Expr} {kk : Nat} {tpos : Pos} (a : Addr) (xs : List V) (e it : Addr) :
    Turn P w K (.Tuple elts kk tpos) (Iten xs.length (fun H => SqT K H a xs) (YtT xs)) [e, it] e (fun i h => (∃ old, IsEnum h e it ((i : Nat) : Int) old) ∧ h.IsTupleIter it a i ∧ e ≠ it) := by
  refine turn_enumG e it (fun i h => h.IsTupleIter it a i) (fun i h ⟨o, ho, hc, hd⟩ => ⟨o, ho, fun v q => by rw [hd] at q; cases q⟩) (fun i h h' st k => st.at fun o q => k o q) ?_
  intro X hP hw hK hh pins s σ H I hq he hei
  subst hP hw hK
  obtain ⟨its, rv, ⟨o, ho, hc, n, hd⟩, hz⟩ := I.tuple hq
  have nea : e ≠ a := fun z => by
    obtain ⟨o', ho', hc'⟩ := he
    rw [z, ho] at ho'
    cases ho'
    rw [hc] at hc'
    exact absurd hc' (by decide)
  by_cases hne : a = it
  · -- then it is no iterator; nothing can be asked of it
    refine ⟨[a], fun i u => False, fun i h => False, ⟨fun _ _ z => z.elim, fun _ _ _ z => z.elim, fun _ _ _ _ _ z => z.elim, fun _ _ _ z => z.elim⟩, fun i st => ?_, fun _ _ z => z.elim, fun hm => ?_, fun _ _ z => z.elim⟩
    · obtain ⟨o', ho', hc', hd'⟩ := st
      rw [← hne, ho] at ho'
      cases ho'
      rw [hd] at hd'
      cases hd'
    · exact nea (by simpa using hm)
  · have hlen : xs.length = its.toArray.size := by rw [List.size_toArray]; exact rv.length
    rw [hlen]
    refine ⟨[it, a], _, _, Draws.tuple (A := X.A.in1) hh it a hne its.toArray, fun i st => ⟨st, ⟨o, ho, hc, n, hd⟩⟩, fun i h' st => st.1, fun hm => ?_, fun i u hu => ?_⟩
    · have e' : e = it ∨ e = a := by simpa using hm
      rcases e' with z | z
      · exact hei z
      · exact nea z
    · have hu' : its[i]? = some u := by simpa using hu
      have hi : i < xs.length := by
        rw [hlen]
        have := (List.getElem?_eq_some_iff.mp hu').1
        simpa using this
      obtain ⟨u', h1, h2⟩ := rv.get (List.getElem?_eq_getElem hi)
      rw [hu'] at h1
      cases h1
      exact ⟨xs[i], h2, List.getElem?_eq_getElem hi⟩
theorem turn_enumS {P : Program} {w : World} {K : PySem.W.Frag} {elts : List Expr} {kk : Nat} {tpos : Pos} (z : Str) (t : Tok) (e it : Addr) :
    Turn P w K (.Tuple elts kk tpos) (Iten z.cps.size (fun _ => True) (YtS z)) [e, it] e (fun i h => (∃ old, IsEnum h e it ((i : Nat) : Int) old) ∧ h.IsStrIter it (strIterType z) z t i ∧ e ≠ it) := by
  refine turn_enumG e it (fun i h => h.IsStrIter it (strIterType z) z t i) (fun i h ⟨o, ho, hc, hd⟩ => ⟨o, ho, fun v q => by rw [hd] at q; cases q⟩) (fun i h h' ⟨o, ho, r⟩ k => ⟨o, k o ho, r⟩) ?_
  intro X hP hw hK hh pins s σ H I hq he hei
  subst hP hw hK
  refine ⟨[it], _, _, Draws.text (A := X.A.in1) hh it z t, fun i st => st, fun i h' st => st, fun hm => hei (by simpa using hm), fun i u hu => ?_⟩
  obtain ⟨c, v, h1, rfl⟩ := hu
  exact ⟨.str ⟨#[c]⟩, ⟨v, rfl⟩, c, h1, rfl⟩
section
variable {X : Cx} {e : Expr} {ta : TA} {p pos tpos : Pos} {elts : List Expr} {kk : Nat}
def iEnT (K : PySem.W.Frag) (ta : TA) : TI := fun σ H R => ta σ H fun vs H1 => ∃ a xs, vs = [.ref a] ∧ SqT K H1 a xs ∧ R (Iten xs.length (fun H => SqT K H a xs) (YtT xs)) H1
def iEnS (ta : TA) : TI := fun σ H R => ta σ H fun vs H1 => ∃ z, vs = [.str z] ∧ R (Iten z.cps.size (fun _ => True) (YtS z)) H1
theorem pi_enumT (hg : Gl X "enumerate") (hm : X.mg "enumerate" = none) (ha : PA X [e] ta) (hs : starEach [e] X.env = [(false, eval e X.env)] := by rfl) :
    PI X (.Tuple elts kk tpos) (.Call (.Name "enumerate" p) [e] [] pos) (iEnT X.K ta) := by
  refine ⟨fun pins s σ H R I h => ?_⟩
  refine Call_ (ld_blt I hg hm boot_enumerate (PyProof.Rows.callWith_type1 (thn (ha.run pos pins s σ H _ I h) fun us s1 ⟨vs, H1, I1, r1, q1⟩ => ?_) hs rfl))
  obtain ⟨a, xs, ex, hq, q⟩ := q1
  subst ex
  cases r1 with
  | cons r rr =>
    cases rr
    cases r
    obtain ⟨its, rv, ⟨o, ho, hc, n, hd⟩, hz⟩ := I1.tuple hq
    exact enumG_begins I1 (fun Q k => dl_enum1 (begins_tuple a its.toArray) ⟨o, ho, hc, n, hd⟩ k) (turn_enumT a xs _ _) (fun h' hh => ⟨_, hh, rfl, rfl⟩) q
theorem pi_enumS (hg : Gl X "enumerate") (hm : X.mg "enumerate" = none) (ha : PA X [e] ta) (hs : starEach [e] X.env = [(false, eval e X.env)] := by rfl) :
    PI X (.Tuple elts kk tpos) (.Call (.Name "enumerate" p) [e] [] pos) (iEnS ta) := by
  refine ⟨fun pins s σ H R I h => ?_⟩
  refine Call_ (ld_blt I hg hm boot_enumerate (PyProof.Rows.callWith_type1 (thn (ha.run pos pins s σ H _ I h) fun us s1 ⟨vs, H1, I1, r1, q1⟩ => ?_) hs rfl))
  obtain ⟨z, ex, q⟩ := q1
  subst ex
  cases r1 with
  | cons r rr =>
    cases rr
    obtain ⟨t, rfl⟩ := r
    exact enumG_begins I1 (fun Q k => dl_enum1 (begins_text z t) trivial k) (turn_enumS z t _ _) (fun h' hh => ⟨_, hh, rfl, rfl⟩) q
end
end L2

namespace Dl
open PySem PySem.Spec PyProof.Rows L2 RZ
/-! ### what is walked, by its data -/
/-- an iterator that gives the data ds, whatever else happens -/
def ItOk (K : PySem.W.Frag) (J : It) (ds : List D) (F0 : Hp) : Prop := ∀ (i : Nat) (F H : Hp), Same F0 F → Same F H →
  (i < ds.length → J.go i H ∧ ∀ x H', J.yld i H x H' → ∃ F' d, Grow F H F' H' ∧ ds[i]? = some d ∧ Dp K F' x d) ∧ (i = ds.length → J.stop i H)
def zI (X : Cx) (tg iter : Expr) : TI := fun σ H R => ∀ (pins : List (Addr × Obj)) (s : Shared), Inv X pins σ H s → wpAny (model X.prog X.w) X.A (eval iter X.env) (fun v s1 => wpAny (model X.prog X.w) X.A (pyIter v) (PIE X pins σ tg R) X.xe s1) X.xe s
theorem pi_w {X : Cx} {tg iter : Expr} : PI X tg iter (zI X tg iter) := ⟨fun pins s σ H R I h => h pins s I⟩
theorem zI.by {X : Cx} {tg iter : Expr} {t : TI} (p : PI X tg iter t) {σ : St} {H : Hp} {R : It → Hp → Prop} (h : t σ H R) : zI X tg iter σ H R := fun pins s I => p.run pins s σ H R I h
structure SI (X : Cx) (tg iter : Expr) (m : M (List D)) : Prop where
  run : ∀ (W : WX), Takes X W → ∀ (B : Hp) (env : Env) (σ : St) (F H : Hp) (R : It → Hp → Prop), Rel X.K B env σ F H → Post X B σ F W (fun ds _ F' H' => ∀ J, ItOk X.K J ds F' → R J H') (m env) → zI X tg iter σ H R
section
variable {X : Cx} {tg a b : Expr} {ma mb : M D} {elts : List Expr} {kk : Nat} {p pos tpos : Pos} {K : PySem.W.Frag} {F : Hp}
def asList : D → Option (List D)
  | .list ds => some ds
  | _ => none
def asTup : D → Option (List D)
  | .tuple ds => some ds
  | _ => none
def signs (z : Str) : List D := z.cps.toList.map fun c => .str ⟨#[c]⟩
def asStr : D → Option (List D)
  | .str z => some (signs z)
  | _ => none
def xIt (f : D → Option (List D)) (ma : M D) : M (List D) := fun env => (ma env).bind fun d e => .of (f d) e
theorem it_list {v : Addr} {vs : List V} {ds : List D} (h : F v = some (.lst vs)) (q : DpAll K F vs ds) : ItOk K (Itl K v) ds F := fun i F' H s1 s2 => by
  have e : SqL K H v vs := .inl (.inl (s2 _ _ (s1 _ _ h)))
  refine ⟨fun hi => ⟨⟨vs, vs[i]'(by rw [q.length]; exact hi), e, List.getElem?_eq_getElem _⟩, fun x H' y => ?_⟩, fun hi => ⟨vs, e, by rw [q.length, hi]; exact Nat.le_refl _⟩⟩
  obtain ⟨rfl, y⟩ := y
  obtain ⟨w, h1, h2⟩ := q.get (List.getElem?_eq_getElem hi)
  have h3 := y vs e
  rw [h1] at h3
  cases h3
  exact ⟨F', _, Grow.refl s2, List.getElem?_eq_getElem hi, dp_mono s1 h2⟩
theorem it_tup {v : Addr} {vs : List V} {ds : List D} (h : SqT K F v vs) (q : DpAll K F vs ds) : ItOk K (Itt K v) ds F := fun i F' H s1 s2 => by
  have e : SqT K H v vs := t_mono s2 (t_mono s1 h)
  refine ⟨fun hi => ⟨⟨vs, vs[i]'(by rw [q.length]; exact hi), e, List.getElem?_eq_getElem _⟩, fun x H' y => ?_⟩, fun hi => ⟨vs, e, by rw [q.length, hi]; exact Nat.le_refl _⟩⟩
  obtain ⟨rfl, y⟩ := y
  obtain ⟨w, h1, h2⟩ := q.get (List.getElem?_eq_getElem hi)
  have h3 := y vs e
  rw [h1] at h3
  cases h3
  exact ⟨F', _, Grow.refl s2, List.getElem?_eq_getElem hi, dp_mono s1 h2⟩
theorem signs_length (z : Str) : (signs z).length = z.cps.size := by unfold signs; rw [List.length_map, Array.length_toList]
theorem signs_get {z : Str} {i : Nat} {c : Nat} (h : z.cps[i]? = some c) : (signs z)[i]? = some (.str ⟨#[c]⟩) := by
  unfold signs
  rw [List.getElem?_map, Array.getElem?_toList, h] <;> rfl
theorem it_str {z : Str} : ItOk K (Its z) (signs z) F := fun i F' H s1 s2 => by
  rw [signs_length]
  refine ⟨fun hi => ⟨hi, fun x H' y => ?_⟩, fun hi => Nat.le_of_eq hi.symm⟩
  obtain ⟨rfl, c, h1, rfl⟩ := y
  exact ⟨F', _, Grow.refl s2, signs_get h1, .str _⟩
def rangeD (lo : Int) (n : Nat) : List D := (List.range n).map fun i => .int (lo + (i : Nat))
theorem it_range {lo : Int} {n : Nat} : ItOk K (Itr lo n) (rangeD lo n) F := fun i F' H s1 s2 => by
  have hl : (rangeD lo n).length = n := by unfold rangeD; rw [List.length_map, List.length_range]
  rw [hl]
  refine ⟨fun hi => ⟨hi, fun x H' y => ?_⟩, fun hi => Nat.le_of_eq hi.symm⟩
  obtain ⟨rfl, rfl⟩ := y
  refine ⟨F', .int (lo + i), Grow.refl s2, ?_, .int _⟩
  unfold rangeD
  rw [List.getElem?_map, List.getElem?_range hi] <;> rfl
theorem grow_pair {F H : Hp} {T : Addr} {x y : V} {d e : D} (s : Same F H) (hT : H T = none) (h1 : Dp K F x d) (h2 : Dp K F y e) : ∃ F', Grow F H F' (upd H T (.tup [x, y])) ∧ Dp K F' (.ref T) (.tuple [d, e]) :=
  have g := Grow.new (o := .tup [x, y]) s hT
  ⟨_, g, .tup (.inl (.inl upd_same)) (.cons (dp_mono g.f h1) (.cons (dp_mono g.f h2) .nil))⟩
def numbered (ds : List D) : List D := (List.range ds.length).zipWith (fun i d => .tuple [.int (i : Nat), d]) ds
theorem numbered_length (ds : List D) : (numbered ds).length = ds.length := by unfold numbered; rw [List.length_zipWith, List.length_range, Nat.min_self]
theorem numbered_get {ds : List D} {i : Nat} {d : D} (h : ds[i]? = some d) : (numbered ds)[i]? = some (.tuple [.int (i : Nat), d]) := by
  have hi : i < ds.length := (List.getElem?_eq_some_iff.mp h).1
  unfold numbered
  rw [List.getElem?_zipWith, h, List.getElem?_range hi] <;> rfl
theorem it_enum {v : Addr} {vs : List V} {ds : List D} (h : F v = some (.lst vs)) (q : DpAll K F vs ds) : ItOk K (Ite K v) (numbered ds) F := fun i F' H s1 s2 => by
  have e : SqL K H v vs := .inl (.inl (s2 _ _ (s1 _ _ h)))
  rw [numbered_length]
  refine ⟨fun hi => ⟨⟨vs, vs[i]'(by rw [q.length]; exact hi), e, List.getElem?_eq_getElem _⟩, fun x H' y => ?_⟩, fun hi => ⟨vs, e, by rw [q.length, hi]; exact Nat.le_refl _⟩⟩
  obtain ⟨T, w, rfl, hT, rfl, y⟩ := y
  obtain ⟨w', h1, h2⟩ := q.get (List.getElem?_eq_getElem hi)
  have h3 := y vs e
  rw [h1] at h3
  cases h3
  obtain ⟨F2, g, g2⟩ := grow_pair s2 hT (.int (i : Nat)) (dp_mono s1 h2)
  exact ⟨F2, _, g, numbered_get (List.getElem?_eq_getElem hi), g2⟩
theorem it_enumL {v : Addr} {vs : List V} {ds : List D} (h : SqL K F v vs) (q : DpAll K F vs ds) : ItOk K (Ite K v) (numbered ds) F := fun i F' H s1 s2 => by
  have e : SqL K H v vs := l_mono s2 (l_mono s1 h)
  rw [numbered_length]
  refine ⟨fun hi => ⟨⟨vs, vs[i]'(by rw [q.length]; exact hi), e, List.getElem?_eq_getElem _⟩, fun x H' y => ?_⟩, fun hi => ⟨vs, e, by rw [q.length, hi]; exact Nat.le_refl _⟩⟩
  obtain ⟨T, w, rfl, hT, rfl, y⟩ := y
  obtain ⟨w', h1, h2⟩ := q.get (List.getElem?_eq_getElem hi)
  have h3 := y vs e
  rw [h1] at h3
  cases h3
  obtain ⟨F2, g, g2⟩ := grow_pair s2 hT (.int (i : Nat)) (dp_mono s1 h2)
  exact ⟨F2, _, g, numbered_get (List.getElem?_eq_getElem hi), g2⟩
theorem it_enumT {v : Addr} {vs : List V} {ds : List D} (h : SqT K F v vs) (q : DpAll K F vs ds) : ItOk K (Iten vs.length (fun H => SqT K H v vs) (YtT vs)) (numbered ds) F := fun i F' H s1 s2 => by
  have e : SqT K H v vs := t_mono s2 (t_mono s1 h)
  rw [numbered_length]
  refine ⟨fun hi => ⟨⟨by rw [q.length]; exact hi, e⟩, fun x H' y => ?_⟩, fun hi => ⟨hi.trans q.length.symm, e⟩⟩
  obtain ⟨T, w, rfl, hT, rfl, y⟩ := y
  obtain ⟨w', h1, h2⟩ := q.get (List.getElem?_eq_getElem hi)
  have h3 : vs[i]? = some w := y
  rw [h1] at h3
  cases h3
  obtain ⟨F2, g, g2⟩ := grow_pair s2 hT (.int (i : Nat)) (dp_mono s1 h2)
  exact ⟨F2, _, g, numbered_get (List.getElem?_eq_getElem hi), g2⟩
theorem it_enumS {z : Str} : ItOk K (Iten z.cps.size (fun _ => True) (YtS z)) (numbered (signs z)) F := fun i F' H s1 s2 => by
  rw [numbered_length, signs_length]
  refine ⟨fun hi => ⟨⟨hi, trivial⟩, fun x H' y => ?_⟩, fun hi => ⟨hi, trivial⟩⟩
  obtain ⟨T, w, rfl, hT, rfl, c, h1, rfl⟩ := y
  obtain ⟨F2, g, g2⟩ := grow_pair (K := K) s2 hT (.int (i : Nat)) (.str ⟨#[c]⟩)
  exact ⟨F2, _, g, numbered_get (signs_get h1), g2⟩
def zipped (ds es : List D) : List D := ds.zipWith (fun d e => .tuple [d, e]) es
theorem zipped_length (ds es : List D) : (zipped ds es).length = min ds.length es.length := List.length_zipWith ..
theorem zipped_get {ds es : List D} {i : Nat} {d e : D} (h : ds[i]? = some d) (h2 : es[i]? = some e) : (zipped ds es)[i]? = some (.tuple [d, e]) := by
  unfold zipped
  rw [List.getElem?_zipWith, h, h2] <;> rfl
theorem it_zip {v w : Addr} {vs ws : List V} {ds es : List D} (h : F v = some (.lst vs)) (q : DpAll K F vs ds) (h' : F w = some (.lst ws)) (q' : DpAll K F ws es) : ItOk K (Itz K v w) (zipped ds es) F := fun i F' H s1 s2 => by
  have e : SqL K H v vs := .inl (.inl (s2 _ _ (s1 _ _ h)))
  have e' : SqL K H w ws := .inl (.inl (s2 _ _ (s1 _ _ h')))
  rw [zipped_length]
  refine ⟨fun hi => ?_, fun hi => ⟨vs, ws, e, e', by rw [q.length, q'.length]; omega⟩⟩
  have i1 : i < ds.length := by omega
  have i2 : i < es.length := by omega
  obtain ⟨x1, a1, b1⟩ := q.get (List.getElem?_eq_getElem i1)
  obtain ⟨x2, a2, b2⟩ := q'.get (List.getElem?_eq_getElem i2)
  refine ⟨⟨vs, ws, x1, x2, e, e', a1, a2⟩, fun x H' y => ?_⟩
  obtain ⟨T, y1, y2, rfl, hT, rfl, c1, c2⟩ := y
  have c1' := c1 vs e
  have c2' := c2 ws e'
  rw [a1] at c1'
  rw [a2] at c2'
  cases c1'
  cases c2'
  obtain ⟨F2, g, g2⟩ := grow_pair s2 hT (dp_mono s1 b1) (dp_mono s1 b2)
  exact ⟨F2, _, g, zipped_get (List.getElem?_eq_getElem i1) (List.getElem?_eq_getElem i2), g2⟩
theorem it_zipT {v w : Addr} {vs ws : List V} {ds es : List D} (h : SqT K F v vs) (q : DpAll K F vs ds) (h' : SqT K F w ws) (q' : DpAll K F ws es) : ItOk K (ItzT K v w) (zipped ds es) F := fun i F' H s1 s2 => by
  have e : SqT K H v vs := t_mono s2 (t_mono s1 h)
  have e' : SqT K H w ws := t_mono s2 (t_mono s1 h')
  rw [zipped_length]
  refine ⟨fun hi => ?_, fun hi => ⟨vs, ws, e, e', by rw [q.length, q'.length]; omega⟩⟩
  have i1 : i < ds.length := by omega
  have i2 : i < es.length := by omega
  obtain ⟨x1, a1, b1⟩ := q.get (List.getElem?_eq_getElem i1)
  obtain ⟨x2, a2, b2⟩ := q'.get (List.getElem?_eq_getElem i2)
  refine ⟨⟨vs, ws, x1, x2, e, e', a1, a2⟩, fun x H' y => ?_⟩
  obtain ⟨T, y1, y2, rfl, hT, rfl, c1, c2⟩ := y
  have c1' := c1 vs e
  have c2' := c2 ws e'
  rw [a1] at c1'
  rw [a2] at c2'
  cases c1'
  cases c2'
  obtain ⟨F2, g, g2⟩ := grow_pair s2 hT (dp_mono s1 b1) (dp_mono s1 b2)
  exact ⟨F2, _, g, zipped_get (List.getElem?_eq_getElem i1) (List.getElem?_eq_getElem i2), g2⟩

/-! ### iterables -/
theorem si_list (h : SE X a ma) : SI X tg a (xIt asList ma) := by
  refine ⟨fun W tk B env σ F H R r p => zI.by (pi_list pe_w) (h.run W tk B env σ F H _ r (p.bind.imp fun d e1 F1 H1 _ R1 U1 p1 v d1 => ?_))⟩
  cases d <;> first | exact False.elim p1 | skip
  cases d1 with
  | lst h1 h2 => exact ⟨_, rfl, ⟨_, .inl (.inl (R1.fh _ _ h1))⟩, p1 F1 H1 R1 Up.refl _ (it_list h1 h2)⟩
theorem si_tup (h : SE X a ma) : SI X tg a (xIt asTup ma) := by
  refine ⟨fun W tk B env σ F H R r p => zI.by (pi_tup pe_w) (h.run W tk B env σ F H _ r (p.bind.imp fun d e1 F1 H1 _ R1 U1 p1 v d1 => ?_))⟩
  cases d <;> first | exact False.elim p1 | skip
  cases d1 with
  | tup h1 h2 => exact ⟨_, rfl, ⟨_, t_mono R1.fh h1⟩, p1 F1 H1 R1 Up.refl _ (it_tup h1 h2)⟩
theorem si_str (h : SE X a ma) : SI X tg a (xIt asStr ma) := by
  refine ⟨fun W tk B env σ F H R r p => zI.by (pi_str pe_w) (h.run W tk B env σ F H _ r (p.bind.imp fun d e1 F1 H1 _ R1 U1 p1 v d1 => ?_))⟩
  cases d with
  | str z =>
    cases d1
    exact ⟨z, rfl, p1 F1 H1 R1 Up.refl _ it_str⟩
  | _ => exact False.elim p1
/-- small enough for a range; by a choice that nothing unfolds -/
def RngOk (j : Int) : Prop := -(2 ^ 62) ≤ j ∧ j < 2 ^ 62
open Classical in
noncomputable def rngB (j : Int) : Bool := decide (RngOk j)
theorem rngB_of {j : Int} (h : rngB j = true) : -(2 ^ 62) ≤ j ∧ j < 2 ^ 62 := @of_decide_eq_true _ (Classical.propDecidable _) h
theorem rngB_t {j : Int} (h : -4611686018427387904 ≤ j ∧ j < 4611686018427387904) : rngB j = true := @decide_eq_true _ (Classical.propDecidable _) h
noncomputable def xRng1 (ma : M D) : M (List D) := fun env => (ma env).bind fun d e => match d with
  | .int j => if rngB j = true then .ok (rangeD 0 j.toNat) e else .no
  | _ => .no
noncomputable def xRng2 (ma mb : M D) : M (List D) := fun env => (ma env).bind fun d e => (mb e).bind fun d2 e2 => match d, d2 with
  | .int i, .int j => if rngB i = true ∧ rngB j = true then .ok (rangeD i (j - i).toNat) e2 else .no
  | _, _ => .no
theorem si_range1 (hg : Gl X "range") (hm : X.mg "range" = none) (h : SE X a ma) (hs : starEach [a] X.env = [(false, eval a X.env)] := by rfl) : SI X tg (.Call (.Name "range" p) [a] [] pos) (xRng1 ma) := by
  refine ⟨fun W tk B env σ F H R r p => zI.by (pi_range1 hg hm (pa_cons pe_w pa_nil hs) hs) (h.run W tk B env σ F H _ r (p.bind.imp fun d e1 F1 H1 _ R1 U1 p1 v d1 => ?_))⟩
  split at p1
  · cases d1
    split at p1
    · rename_i hj
      have hj := rngB_of hj
      exact ⟨_, rfl, hj.1, hj.2, p1 F1 H1 R1 Up.refl _ it_range⟩
    · exact False.elim p1
  · exact False.elim p1
theorem si_range2 (hg : Gl X "range") (hm : X.mg "range" = none) (h : SE X a ma) (h2 : SE X b mb) (hs : starEach [a, b] X.env = [(false, eval a X.env), (false, eval b X.env)] := by rfl) (hs2 : starEach [b] X.env = [(false, eval b X.env)] := by rfl) :
    SI X tg (.Call (.Name "range" p) [a, b] [] pos) (xRng2 ma mb) := by
  have hs' : starEach (a :: [b]) X.env = (false, eval a X.env) :: starEach [b] X.env := by rw [hs, hs2]
  refine ⟨fun W tk B env σ F H R r p => zI.by (pi_range2 hg hm (pa_cons pe_w (pa_cons pe_w pa_nil hs2) hs') hs hs2) (h.run W tk B env σ F H _ r (p.bind.imp fun d e1 F1 H1 _ R1 U1 p1 v d1 => ?_))⟩
  refine h2.run W tk B e1 σ F1 H1 _ R1 (p1.bind.imp fun d' e2 F2 H2 _ R2 U2 p2 v2 d2 => ?_)
  split at p2
  · cases d1
    cases d2
    split at p2
    · rename_i hj
      exact ⟨_, _, rfl, ⟨(rngB_of hj.1).1, (rngB_of hj.1).2, (rngB_of hj.2).1, (rngB_of hj.2).2⟩, p2 F2 H2 R2 Up.refl _ it_range⟩
    · exact False.elim p2
  · exact False.elim p2
theorem si_enum (hg : Gl X "enumerate") (hm : X.mg "enumerate" = none) (h : SE X a ma) (hs : starEach [a] X.env = [(false, eval a X.env)] := by rfl) : SI X (.Tuple elts kk tpos) (.Call (.Name "enumerate" p) [a] [] pos) (xIt (fun d => (asList d).map numbered) ma) := by
  refine ⟨fun W tk B env σ F H R r p => zI.by (pi_enum hg hm (pa_cons pe_w pa_nil hs) hs) (h.run W tk B env σ F H _ r (p.bind.imp fun d e1 F1 H1 _ R1 U1 p1 v d1 => ?_))⟩
  cases d <;> first | exact False.elim p1 | skip
  cases d1 with
  | lst h1 h2 => exact ⟨_, _, rfl, .inl (.inl (R1.fh _ _ h1)), p1 F1 H1 R1 Up.refl _ (it_enum h1 h2)⟩
theorem si_enumT (hg : Gl X "enumerate") (hm : X.mg "enumerate" = none) (h : SE X a ma) (hs : starEach [a] X.env = [(false, eval a X.env)] := by rfl) : SI X (.Tuple elts kk tpos) (.Call (.Name "enumerate" p) [a] [] pos) (xIt (fun d => (asTup d).map numbered) ma) := by
  refine ⟨fun W tk B env σ F H R r p => zI.by (pi_enumT hg hm (pa_cons pe_w pa_nil hs) hs) (h.run W tk B env σ F H _ r (p.bind.imp fun d e1 F1 H1 _ R1 U1 p1 v d1 => ?_))⟩
  cases d <;> first | exact False.elim p1 | skip
  cases d1 with
  | tup h1 h2 => exact ⟨_, _, rfl, t_mono R1.fh h1, p1 F1 H1 R1 Up.refl _ (it_enumT h1 h2)⟩
theorem si_enumS (hg : Gl X "enumerate") (hm : X.mg "enumerate" = none) (h : SE X a ma) (hs : starEach [a] X.env = [(false, eval a X.env)] := by rfl) : SI X (.Tuple elts kk tpos) (.Call (.Name "enumerate" p) [a] [] pos) (xIt (fun d => (asStr d).map numbered) ma) := by
  refine ⟨fun W tk B env σ F H R r p => zI.by (pi_enumS hg hm (pa_cons pe_w pa_nil hs) hs) (h.run W tk B env σ F H _ r (p.bind.imp fun d e1 F1 H1 _ R1 U1 p1 v d1 => ?_))⟩
  cases d with
  | str z =>
    cases d1
    exact ⟨z, rfl, p1 F1 H1 R1 Up.refl _ it_enumS⟩
  | _ => exact False.elim p1
/-- zip of two lists, or of two tuples -/
def xZip (ma mb : M D) : M (List D) := fun env => (ma env).bind fun d e => (mb e).bind fun d2 e2 => match d, d2 with
  | .list ds, .list es => .ok (zipped ds es) e2
  | .tuple ds, .tuple es => .ok (zipped ds es) e2
  | _, _ => .no
theorem si_zip (hg : Gl X "zip") (hm : X.mg "zip" = none) (h : SE X a ma) (h2 : SE X b mb) (hs : starEach [a, b] X.env = [(false, eval a X.env), (false, eval b X.env)] := by rfl) (hs2 : starEach [b] X.env = [(false, eval b X.env)] := by rfl) 
    (hpi : ∀ ta, PA X [a, b] ta → PI X (.Tuple elts kk tpos) (.Call (.Name "zip" p) [a, b] [] pos) (iZipA X.K ta) := by intro ta h; exact RZ.pi_zipA (by assumption) (by assumption) h) :
    SI X (.Tuple elts kk tpos) (.Call (.Name "zip" p) [a, b] [] pos) (xZip ma mb) := by
  have hs' : starEach (a :: [b]) X.env = (false, eval a X.env) :: starEach [b] X.env := by rw [hs, hs2]
  refine ⟨fun W tk B env σ F H R r p => zI.by (hpi _ (pa_cons pe_w (pa_cons pe_w pa_nil hs2) hs')) (h.run W tk B env σ F H _ r (p.bind.imp fun d e1 F1 H1 _ R1 U1 p1 v d1 => ?_))⟩
  refine h2.run W tk B e1 σ F1 H1 _ R1 (p1.bind.imp fun d' e2 F2 H2 _ R2 U2 p2 v2 d2 => ?_)
  have d1' := dp_mono U2.sm d1
  split at p2
  · cases d1' with
    | lst a1 a2 =>
      cases d2 with
      | lst b1 b2 => exact ⟨_, _, _, _, rfl, .inl ⟨.inl (.inl (R2.fh _ _ a1)), .inl (.inl (R2.fh _ _ b1)), p2 F2 H2 R2 Up.refl _ (it_zip a1 a2 b1 b2)⟩⟩
  · cases d1' with
    | tup a1 a2 =>
      cases d2 with
      | tup b1 b2 => exact ⟨_, _, _, _, rfl, .inr ⟨t_mono R2.fh a1, t_mono R2.fh b1, p2 F2 H2 R2 Up.refl _ (it_zipT a1 a2 b1 b2)⟩⟩
  · exact False.elim p2
end
end Dl

/-! Dl4: targets, comprehensions, calls of defs. Own work. -/
namespace Dl
open PySem PySem.Spec PyProof.Rows L2

/-! ### slots wiped, kept -/
def wipeE (env : Env) : List Nat → Env
  | [] => env
  | v :: vs => (wipeE env vs).set v none
def keepE (e0 env : Env) : List Nat → Env
  | [] => env
  | v :: vs => match e0[v]? with
    | some (some (.val d)) => (keepE e0 env vs).set v (some (.val d))
    | _ => keepE e0 env vs
theorem set_none_comm {α : Type} (e : List (Option α)) (a b : Nat) : (e.set a none).set b none = (e.set b none).set a none := by
  by_cases h : a = b
  · subst h; rfl
  · exact List.set_comm _ _ h
theorem wipeE_set (v : Nat) : ∀ (vs : List Nat) (e : Env), wipeE (e.set v none) vs = (wipeE e vs).set v none
  | [], _ => rfl
  | w :: vs, e => by
    show (wipeE (e.set v none) vs).set w none = ((wipeE e vs).set w none).set v none
    rw [wipeE_set v vs e, set_none_comm]
theorem wipe_get : ∀ (vs : List Nat) (σ : St) (k : Nat), (wipe σ vs)[k]? = if k ∈ vs ∧ k < σ.length then some none else σ[k]?
  | [], σ, k => by simp [wipe]
  | v :: vs, σ, k => by
    show ((wipe σ vs).set v none)[k]? = _
    by_cases h : v = k
    · subst h
      by_cases hl : v < σ.length
      · rw [List.getElem?_set_self (by rw [wipe_length]; exact hl), if_pos ⟨by simp, hl⟩]
      · rw [List.getElem?_eq_none (by rw [List.length_set, wipe_length]; omega), if_neg (fun z => hl z.2), List.getElem?_eq_none (by omega)]
    · rw [List.getElem?_set_ne h, wipe_get vs σ k]
      have e : (k ∈ v :: vs ∧ k < σ.length) ↔ (k ∈ vs ∧ k < σ.length) := by
        constructor
        · rintro ⟨a, b⟩
          rcases List.mem_cons.mp a with z | z
          · exact absurd z.symm h
          · exact ⟨z, b⟩
        · rintro ⟨a, b⟩
          exact ⟨List.mem_cons_of_mem _ a, b⟩
      by_cases c : k ∈ vs ∧ k < σ.length
      · rw [if_pos c, if_pos (e.mpr c)]
      · rw [if_neg c, if_neg (fun z => c (e.mp z))]
theorem wipe_eq {a b : St} {vs : List Nat} (hl : a.length = b.length) (h : ∀ k, k ∉ vs → a[k]? = b[k]?) : wipe a vs = wipe b vs := by
  refine List.ext_getElem? fun k => ?_
  rw [wipe_get, wipe_get, hl]
  by_cases c : k ∈ vs ∧ k < b.length
  · rw [if_pos c, if_pos c]
  · rw [if_neg c, if_neg c]
    by_cases hk : k ∈ vs
    · have : b.length ≤ k := Nat.le_of_not_lt fun z => c ⟨hk, z⟩
      rw [List.getElem?_eq_none (by omega), List.getElem?_eq_none this]
    · exact h k hk
theorem wipe_wipe (σ : St) (vs : List Nat) : wipe (wipe σ vs) vs = wipe σ vs := wipe_eq (wipe_length σ vs) fun k hk => by
  rw [wipe_get, if_neg (fun z => hk z.1)]
section
variable {K : PySem.W.Frag} {B F F0 H H0 : Hp} {env e0 : Env} {σ : St}
theorem Rel.wipe (R : Rel K B env σ F H) : ∀ vs : List Nat, Rel K B (wipeE env vs) (L2.wipe σ vs) F H
  | [] => R
  | v :: vs => (R.wipe vs).forgetv v none
theorem Rel.unwipe : ∀ (vs : List Nat) {env : Env} {σ : St}, Rel K B env (L2.wipe σ vs) F H → Rel K B (wipeE env vs) σ F H
  | [], _, _, R => R
  | v :: vs, env, σ, R => by
    have R' : Rel K B env ((L2.wipe σ vs).set v none) F H := R
    have R2 : Rel K B (env.set v none) (L2.wipe σ vs) F H := by
      by_cases hv : v < (L2.wipe σ vs).length
      · have q := R'.forgetv v (L2.wipe σ vs)[v]
        rw [List.set_set] at q
        have e : (L2.wipe σ vs).set v (L2.wipe σ vs)[v] = L2.wipe σ vs := List.set_getElem_self hv
        rw [e] at q
        exact q
      · have e : (L2.wipe σ vs).set v none = L2.wipe σ vs := List.set_eq_of_length_le (by omega)
        rw [e] at R'
        exact R'.forget v
    have R3 := Rel.unwipe vs R2
    rw [wipeE_set] at R3
    exact R3
theorem Rel.keep {B0 : Hp} (R0 : Rel K B0 e0 σ F0 H0) (s : Same F0 F) (R : Rel K B env σ F H) : ∀ vs : List Nat, Rel K B (keepE e0 env vs) σ F H
  | [] => R
  | v :: vs => by
    unfold keepE
    have R' := Rel.keep R0 s R vs
    split
    · rename_i d h
      obtain ⟨w, h1, h2⟩ := R0.val h
      exact (R'.front (dp_mono s h2)).back h1
    · exact R'
/-- a new object that shall stand still -/
theorem Rel.newB {p : Addr} {o : HO} (R : Rel K B env σ F H) (h : H p = none) : Rel K (upd B p o) env σ F (upd H p o) := by
  obtain ⟨fp, ow, nd, z⟩ := R.own
  refine ⟨⟨fp, OwnS.mono (Same.refl F) (fun a ha => ?_) ow, nd, fun a ha => ⟨(z a ha).1, ?_⟩⟩, R.fh.trans (same_new h), fun a u e => ?_⟩
  · obtain ⟨u, e⟩ := ow.there a ha
    exact upd_ne (ne_of_none e h)
  · obtain ⟨u, e⟩ := ow.there a ha
    rw [upd_ne (ne_of_none e h)]
    exact (z a ha).2
  · by_cases ha : a = p
    · subst ha; rw [upd_same] at e ⊢; exact e
    · rw [upd_ne ha] at e ⊢; exact R.bh a u e
theorem Rel.chgB {p : Addr} {o o' : HO} (R : Rel K (upd B p o) env σ F H) (hF : F p = none) : Rel K (upd B p o') env σ F (upd H p o') := by
  obtain ⟨fp, ow, nd, z⟩ := R.own
  have np : ∀ a ∈ fp, a ≠ p := fun a ha e => by
    have := (z a ha).2
    rw [e, upd_same] at this; cases this
  refine ⟨⟨fp, OwnS.mono (Same.refl F) (fun a ha => upd_ne (np a ha)) ow, nd, fun a ha => ⟨(z a ha).1, ?_⟩⟩, fun a u e => ?_, fun a u e => ?_⟩
  · rw [upd_ne (np a ha)]
    have := (z a ha).2
    rw [upd_ne (np a ha)] at this
    exact this
  · rw [upd_ne fun q => by rw [q, hF] at e; cases e]
    exact R.fh a u e
  · by_cases ha : a = p
    · subst ha; rw [upd_same] at e ⊢; exact e
    · rw [upd_ne ha] at e ⊢
      exact R.bh a u (by rw [upd_ne ha]; exact e)
theorem Rel.outB {p : Addr} {vs : List V} {ds : List D} (R : Rel K (upd B p (.lst vs)) env σ F H) (hB : B p = none) (hF : F p = none) (hd : DpAll K F vs ds) : Rel K B (some (.ls ds) :: env) (some (.ref p) :: σ) F H := by
  obtain ⟨fp, ow, nd, z⟩ := R.own
  have np : ∀ a ∈ fp, a ≠ p := fun a ha e => by
    have := (z a ha).2
    rw [e, upd_same] at this; cases this
  have hp : H p = some (.lst vs) := R.bh p _ upd_same
  refine ⟨⟨[p] ++ fp, .yes (.ls hp hd) ow, List.nodup_append.mpr ⟨by simp, nd, fun a ha b hb => ?_⟩, fun a ha => ?_⟩, R.fh, fun a u e => ?_⟩
  · rcases List.mem_singleton.mp ha with rfl
    exact fun e => np b hb e.symm
  · rcases List.mem_append.mp ha with ha | ha
    · rcases List.mem_singleton.mp ha with rfl
      exact ⟨hF, hB⟩
    · have := z a ha
      rw [upd_ne (np a ha)] at this
      exact this
  · refine R.bh a u ?_
    rw [upd_ne fun q => by rw [q, hB] at e; cases e]
    exact e
end

/-! ### targets -/
def zG (X : Cx) (tg : Expr) : TG := fun v σ H Q => ∀ (pins : List (Addr × Obj)) (s : Shared) (u : Value), Inv X pins σ H s → RelV v u → wpAny (model X.prog X.w) X.A (assign tg X.env u) (fun _ s' => ∃ σ' H', Inv X pins σ' H' s' ∧ Q σ' H') X.xe s
def zGs (X : Cx) (ts : List Expr) : TGs := fun vs σ H Q => ∀ (pins : List (Addr × Obj)) (s : Shared) (us : List Value), Inv X pins σ H s → Vals vs us → PGs X ts gNil → True
abbrev Tg := D → Env → Option Env
/-- a target: the slots it stores, what they hold then -/
structure SG (X : Cx) (tg : Expr) (J : List Nat) (g : Tg) : Prop where
  run : ∃ t : TG, PG X tg t ∧ ∀ (B : Hp) (env env' : Env) (σ : St) (F H : Hp) (v : V) (d : D) (Q : St → Hp → Prop), Rel X.K B env σ F H → Dp X.K F v d → g d env = some env' →
    (∀ σ', Rel X.K B env' σ' F H → σ'.length = σ.length → (∀ k, k ∉ J → σ'[k]? = σ[k]?) → Q σ' H) → t v σ H Q
structure SGs (X : Cx) (ts : List Expr) (J : List Nat) (g : List D → Env → Option Env) : Prop where
  run : ∃ t : TGs, PGs X ts t ∧ ∀ (B : Hp) (env env' : Env) (σ : St) (F H : Hp) (vs : List V) (ds : List D) (Q : St → Hp → Prop), Rel X.K B env σ F H → DpAll X.K F vs ds → g ds env = some env' →
    (∀ σ', Rel X.K B env' σ' F H → σ'.length = σ.length → (∀ k, k ∉ J → σ'[k]? = σ[k]?) → Q σ' H) → t vs σ H Q
def gNm (i : Nat) : Tg := fun d env => some (env.set i (some (.val d)))
def gsNil : List D → Env → Option Env := fun ds env => match ds with
  | [] => some env
  | _ => none
def gsCons (g : Tg) (h : List D → Env → Option Env) : List D → Env → Option Env := fun ds env => match ds with
  | d :: r => (g d env).bind (h r)
  | [] => none
def gTp (h : List D → Env → Option Env) : Tg := fun d env => match d with
  | .tuple ds => h ds env
  | _ => none
section
variable {X : Cx} {e tg : Expr} {es : List Expr} {J J' : List Nat} {g : Tg} {h : List D → Env → Option Env} {pos : Pos} {kk : Nat}
theorem sg_name {i : Nat} {x : Str} (hN : X.N.Nodup) (hi : X.N[i]? = some x := by rfl) (hx : Loc X.env.scope x := by first | exact Or.inl rfl | exact Or.inr rfl) (hf : X.fn x = true ∨ X.env.scope.names.lookup x = some .local := by first | exact .inl rfl | exact .inr rfl | assumption) : SG X (.Name x pos) [i] (gNm i) := by
  refine ⟨gName i, pg_name hN hi hx hf, fun B env env' σ F H v d Q R hv hg q => ?_⟩
  cases hg
  exact q _ (R.asgv hv i) (List.length_set ..) fun k hk => List.getElem?_set_ne (fun z => hk (by simp [z]))
theorem sgs_nil : SGs X [] [] gsNil := by
  refine ⟨gNil, pgs_nil, fun B env env' σ F H vs ds Q R hv hg q => ?_⟩
  cases hv with
  | nil =>
    cases hg
    exact ⟨rfl, q σ R rfl fun _ _ => rfl⟩
  | cons _ _ => cases hg
theorem sgs_cons (h1 : SG X e J g) (h2 : SGs X es J' h) (hs : (assignEach (e :: es) X.env).map (·.2) = assign e X.env :: (assignEach es X.env).map (·.2) := by rfl) : SGs X (e :: es) (J ++ J') (gsCons g h) := by
  obtain ⟨t, pt, ht⟩ := h1.run
  obtain ⟨u, pu, hu⟩ := h2.run
  refine ⟨gCons t u, pgs_cons pt pu hs, fun B env env' σ F H vs ds Q R hv hg q => ?_⟩
  cases hv with
  | nil => cases hg
  | @cons v vr d dr hv hr =>
    have hg' : (g d env).bind (h dr) = some env' := hg
    cases c : g d env with
    | none => rw [c] at hg'; cases hg'
    | some e1 =>
      rw [c] at hg'
      refine ⟨v, vr, rfl, ht B env e1 σ F H v d _ R hv c fun σ1 R1 l1 k1 => ?_⟩
      exact hu B e1 env' σ1 F H vr dr _ R1 hr hg' fun σ2 R2 l2 k2 => q σ2 R2 (l2.trans l1) fun k hk => (k2 k fun z => hk (List.mem_append_right _ z)).trans (k1 k fun z => hk (List.mem_append_left _ z))
theorem sg_tup {n : Nat} (hc : X.calm = true) (h1 : SGs X es J h) (hn : (assignEach es X.env).length = n := by rfl) (hst : (assignEach es X.env).findIdx? (·.1) = none := by rfl) (hlen : ∀ ds env env', h ds env = some env' → ds.length = n := by
      intro ds env env' q; match ds, q with | [_, _], _ => rfl | [_, _, _], _ => rfl | [_, _, _, _], _ => rfl) : SG X (.Tuple es kk pos) J (gTp h) := by
  obtain ⟨t, pt, ht⟩ := h1.run
  refine ⟨gTup X.K n t, pg_tup hc pt hn hst, fun B env env' σ F H v d Q R hv hg q => ?_⟩
  cases hv with
  | tup a1 a2 => exact ⟨_, _, rfl, t_mono R.fh a1, a2.length.trans (hlen _ _ _ hg), ht B env env' σ F H _ _ Q R a2 hg q⟩
  | _ => cases hg
end

/-! ### comprehensions -/
def lcGo (own : List Nat) (tg : Tg) (mc : M Bool) (me : M D) : List D → List D → Env → Out (List D)
  | [], acc, env => .ok acc env
  | d :: ds, acc, env => match tg d env with
    | none => .no
    | some e1 => match mc e1 with
      | .ok true e2 => match me e2 with
        | .ok y e3 => lcGo own tg mc me ds (acc ++ [y]) (wipeE e3 own)
        | _ => .no
      | .ok false e2 => lcGo own tg mc me ds acc (wipeE e2 own)
      | _ => .no
def xLc (own : List Nat) (mi : M (List D)) (tg : Tg) (mc : M Bool) (me : M D) : M Cn := fun env => (mi env).bind fun ds e1 => if ds.length ≤ cap then
  (lcGo own tg mc me ds [] (wipeE e1 own)).bind fun acc e2 => .ok (.ls acc) (keepE e1 (wipeE e2 own) own) else .no
theorem lcGo_err (own : List Nat) (tg : Tg) (mc : M Bool) (me : M D) : ∀ (ds acc : List D) (env : Env) (x : Xc) (e : Env), lcGo own tg mc me ds acc env ≠ .err x e
  | [], acc, env, x, e, h => by cases h
  | d :: ds, acc, env, x, e, h => by
    unfold lcGo at h
    split at h
    · cases h
    · split at h
      · split at h
        · exact lcGo_err own tg mc me ds _ _ x e h
        · cases h
      · exact lcGo_err own tg mc me ds _ _ x e h
      · cases h
def zTs (X : Cx) (ifs : List Expr) : TT := fun σ H Q => ∀ (pins : List (Addr × Obj)) (s : Shared), Inv X pins σ H s →
  wpAny (model X.prog X.w) X.A (forIn ifs true fun c r => if r = true then do let ok ← isTrue c X.env (eval c X.env); pure (ForInStep.yield ok) else pure (ForInStep.yield r)) (TP X pins σ Q) X.xe s
structure SCs (X : Cx) (ifs : List Expr) (m : M Bool) : Prop where
  run : ∀ (W : WX), Takes X W → ∀ (B : Hp) (env : Env) (σ : St) (F H : Hp) (Q : Bool → Hp → Prop), Rel X.K B env σ F H → Post X B σ F W (fun b _ _ H' => Q b H') (m env) → zTs X ifs σ H Q
def xYes : M Bool := fun env => .ok true env
theorem sc_nil {X : Cx} : SCs X [] xYes := ⟨fun W tk B env σ F H Q R p pins s I => (pts_nil (X := X)).run pins s σ H Q I (p F H R Up.refl)⟩
theorem sc_one {X : Cx} {c : Expr} {m : M Bool} (h : ST X c m) : SCs X [c] m := ⟨fun W tk B env σ F H Q R p pins s I => (pts_one pt_w).run pins s σ H Q I (h.run W tk B env σ F H Q R p)⟩
section
variable {X : Cx} {elt tg iter : Expr} {ifs : List Expr} {scope : Scope} {own : List (Str × Nat)} {pos : Pos} {J : List Nat} {g : Tg} {mi : M (List D)} {mc : M Bool} {me : M D}
/-- a block's context -/
abbrev Blk (X : Cx) (scope : Scope) (s : Shared) (H : Hp) (C : Addr) (cl : List (Str × Addr)) (fp : List Addr) : Cx := X.blk s H scope (compEnvC scope cl C X.env) fp
def zGb (X : Cx) (scope : Scope) (tg : Expr) : TG := fun v σ H' Q => ∀ (s : Shared) (H : Hp) (C : Addr) (cl : List (Str × Addr)) (fp : List Addr), zG (Blk X scope s H C cl fp) tg v σ H' Q
def zTb (X : Cx) (scope : Scope) (ifs : List Expr) : TT := fun σ H' Q => ∀ (s : Shared) (H : Hp) (C : Addr) (cl : List (Str × Addr)) (fp : List Addr), zTs (Blk X scope s H C cl fp) ifs σ H' Q
def zEb (X : Cx) (scope : Scope) (elt : Expr) : TE := fun σ H' Q => ∀ (s : Shared) (H : Hp) (C : Addr) (cl : List (Str × Addr)) (fp : List Addr), zE (Blk X scope s H C cl fp) elt σ H' Q
theorem pgb (s : Shared) (H : Hp) (C : Addr) (cl : List (Str × Addr)) (fp : List Addr) : PG (Blk X scope s H C cl fp) tg (zGb X scope tg) := ⟨fun pins s' σ H' v u Q I r h => h s H C cl fp pins s' u I r⟩
theorem ptb (s : Shared) (H : Hp) (C : Addr) (cl : List (Str × Addr)) (fp : List Addr) : PTs (Blk X scope s H C cl fp) ifs (zTb X scope ifs) := ⟨fun pins s' σ H' Q I h => h s H C cl fp pins s' I⟩
theorem peb (s : Shared) (H : Hp) (C : Addr) (cl : List (Str × Addr)) (fp : List Addr) : PE (Blk X scope s H C cl fp) elt (zEb X scope elt) := ⟨fun pins s' σ H' Q I h => h s H C cl fp pins s' I⟩
/-- the walk of a block -/
theorem lc_run (hi : SI X tg iter mi) (hJ : ∀ j ∈ J, j ∈ own.map (·.2))
    (hg : ∀ (s : Shared) (H : Hp) (C : Addr) (cl : List (Str × Addr)) (fp : List Addr), SG (Blk X scope s H C cl fp) tg J g)
    (ht : ∀ (s : Shared) (H : Hp) (C : Addr) (cl : List (Str × Addr)) (fp : List Addr), SCs (Blk X scope s H C cl fp) ifs mc)
    (he : ∀ (s : Shared) (H : Hp) (C : Addr) (cl : List (Str × Addr)) (fp : List Addr), SE (Blk X scope s H C cl fp) elt me) {W : WX} (tk : Takes X W) {B : Hp} {env : Env} {σ : St} {F H : Hp} {Q : VK} (R : Rel X.K B env σ F H)
    (p : PostC X B σ F W (fun c => [c]) (fun _ _ vs _ H' => ∀ v, vs = [v] → Q v H') (xLc (own.map (·.2)) mi g mc me env)) : tLc (zI X tg iter) (zGb X scope tg) (zTb X scope ifs) (zEb X scope elt) (own.map (·.2)) σ H Q := by
  refine hi.run W tk B env σ F H _ R (p.bind.imp fun ds e1 F1 H1 _ R1 U1 p1 Jt hJt Pd hD => ?_)
  split at p1
  · rename_i hcap
    generalize hout : lcGo (own.map (·.2)) g mc me ds [] (wipeE e1 (own.map (·.2))) = out at p1
    cases out with
    | no => exact False.elim p1
    | err x e => exact absurd hout (lcGo_err _ _ _ _ _ _ _ _ _)
    | ok accF eF =>
      have BD : B Pd = none := by
        cases q : B Pd with
        | none => rfl
        | some u => rw [R1.bh Pd u q] at hD; cases hD
      have FD : F1 Pd = none := by
        cases q : F1 Pd with
        | none => rfl
        | some u => rw [R1.fh Pd u q] at hD; cases hD
      -- the word of the turns
      refine ⟨fun i m H' => m = ds.length - i ∧ i ≤ ds.length ∧ ∃ (acc : List D) (env' : Env) (vs : List V) (F' : Hp), Rel X.K (upd B Pd (.lst vs)) env' (L2.wipe σ (own.map (·.2))) F' H' ∧ Same F1 F' ∧ Up B F1 F' ∧ F' Pd = none ∧ DpAll X.K F' vs acc ∧ vs.length ≤ i ∧
        lcGo (own.map (·.2)) g mc me (ds.drop i) acc env' = .ok accF eF, ⟨ds.length, by simp, Nat.zero_le _, [], wipeE e1 (own.map (·.2)), [], F1, (R1.newB hD).wipe _, Same.refl _, Up.refl, FD, .nil, Nat.le_refl _, by rw [List.drop_zero]; exact hout⟩, ?_⟩
      rintro i m H' ⟨rfl, hi', acc, env', vs, F', R', s1, U', FD', ha, hv, hgo⟩
      have it := hJt i F' H' s1 R'.fh
      by_cases hlt : i < ds.length
      · obtain ⟨go, yld⟩ := it.1 hlt
        refine .inr ⟨go, fun H'' => i + 1 ≤ ds.length ∧ ∃ (acc : List D) (env' : Env) (vs : List V) (F' : Hp), Rel X.K (upd B Pd (.lst vs)) env' (L2.wipe σ (own.map (·.2))) F' H'' ∧ Same F1 F' ∧ Up B F1 F' ∧ F' Pd = none ∧ DpAll X.K F' vs acc ∧ vs.length ≤ i + 1 ∧
          lcGo (own.map (·.2)) g mc me (ds.drop (i + 1)) acc env' = .ok accF eF, fun H'' h => ⟨ds.length - (i + 1), by omega, rfl, h.1, h.2⟩, fun x H2 y => ?_⟩
        obtain ⟨F2, d, gr, hd, hx⟩ := yld x H2 y
        have edrop : ds.drop i = d :: ds.drop (i + 1) := by
          rw [List.drop_eq_getElem_cons hlt]
          have : ds[i] = d := by
            rw [List.getElem?_eq_getElem hlt] at hd
            exact Option.some.inj hd
          rw [this]
        rw [edrop] at hgo
        unfold lcGo at hgo
        have R2 := R'.grow gr
        have U2 : Up B F1 F2 := U'.trans ⟨gr.f, fun a o h => gr.fix a o (R'.bh a o (by rw [upd_ne fun z => by rw [z, BD] at h; cases h]; exact h))⟩
        have hHD : H' Pd = some (.lst vs) := R'.bh Pd _ upd_same
        have FD2 : F2 Pd = none := (gr.fix Pd _ hHD).trans FD'
        cases c1 : g d env' with
        | none => rw [c1] at hgo; cases hgo
        | some e2 =>
          rw [c1] at hgo
          intro s0 H0 C cl fp pins0 st0 u0 I0 r0
          obtain ⟨t, ptg, htg⟩ := (hg s0 H0 C cl fp).run
          refine ptg.run pins0 st0 _ H2 x u0 _ I0 r0 (htg (upd B Pd (.lst vs)) env' e2 (L2.wipe σ (own.map (·.2))) F2 H2 x d _ R2 hx c1 fun σ2 R3 l3 k3 => ?_)
          have ew : L2.wipe σ2 (own.map (·.2)) = L2.wipe σ (own.map (·.2)) := by
            rw [← wipe_wipe σ]
            exact wipe_eq l3 fun k hk => k3 k fun z => hk (hJ k z)
          refine ⟨ew, fun s0 H0 C cl fp => ?_⟩
          have tkB : Takes (Blk X scope s0 H0 C cl fp) (fun _ _ _ _ => False) := takes0
          refine (ht s0 H0 C cl fp).run _ tkB (upd B Pd (.lst vs)) e2 σ2 F2 H2 _ R3 ?_
          dsimp only at hgo
          cases c2 : mc e2 with
          | no => rw [c2] at hgo; cases hgo
          | err _ _ => rw [c2] at hgo; cases hgo
          | ok b e3 =>
            rw [c2] at hgo
            intro F3 H3 R4 U4
            have U4' : Up B F1 F3 := U2.trans ⟨U4.sm, fun a o h => U4.fix a o (by rw [upd_ne fun z => by rw [z, BD] at h; cases h]; exact h)⟩
            have FD3 : F3 Pd = none := (U4.fix Pd _ upd_same).trans FD2
            cases b with
            | false =>
              dsimp only at hgo
              rw [if_neg Bool.false_ne_true]
              have R5 := R4.wipe (own.map (·.2))
              rw [ew] at R5
              exact ⟨hlt, acc, _, vs, F3, R5, s1.trans (gr.f.trans U4.sm), U4', FD3, dpAll_mono (gr.f.trans U4.sm) ha, Nat.le_succ_of_le hv, hgo⟩
            | true =>
              dsimp only at hgo
              rw [if_pos rfl]
              intro s0 H0 C cl fp
              have tkB : Takes (Blk X scope s0 H0 C cl fp) (fun _ _ _ _ => False) := takes0
              refine (he s0 H0 C cl fp).run _ tkB (upd B Pd (.lst vs)) e3 σ2 F3 H3 _ R4 ?_
              cases c3 : me e3 with
              | no => rw [c3] at hgo; cases hgo
              | err _ _ => rw [c3] at hgo; cases hgo
              | ok y e4 =>
                rw [c3] at hgo
                intro F4 H4 R5 U5 v hv4
                have FD4 : F4 Pd = none := (U5.fix Pd _ upd_same).trans FD3
                have U5' : Up B F1 F4 := U4'.trans ⟨U5.sm, fun a o h => U5.fix a o (by rw [upd_ne fun z => by rw [z, BD] at h; cases h]; exact h)⟩
                refine ⟨vs, R5.bh Pd _ upd_same, by rw [← cap_eq]; omega, hlt, acc ++ [y], wipeE e4 (own.map (·.2)), vs ++ [v], F4, ?_, s1.trans (gr.f.trans (U4.sm.trans U5.sm)), U5', FD4, (dpAll_mono (gr.f.trans (U4.sm.trans U5.sm)) ha).append (.one hv4), by rw [List.length_append, List.length_singleton]; omega, hgo⟩
                have R6 := (R5.chgB (o' := .lst (vs ++ [v])) FD4).wipe (own.map (·.2))
                rw [ew] at R6
                exact R6
      · have ei : i = ds.length := by omega
        rw [ei, List.drop_length] at hgo
        unfold lcGo at hgo
        cases hgo
        refine .inl ⟨it.2 ei, ?_⟩
        have R6 := R1.keep s1 (R'.unwipe (own.map (·.2))) (own.map (·.2))
        exact p1 [.ref Pd] F' H' rfl (R6.outB BD FD' ha) U' _ rfl
  · exact False.elim p1
theorem sn_lc (hc : X.calm = true) (hN : X.N.Nodup) (hi : SI X tg iter mi) (ok : BlkOk X.N X.env.scope scope own) (hJ : ∀ j ∈ J, j ∈ own.map (·.2))
    (hg : ∀ (s : Shared) (H : Hp) (C : Addr) (cl : List (Str × Addr)) (fp : List Addr), SG (Blk X scope s H C cl fp) tg J g)
    (ht : ∀ (s : Shared) (H : Hp) (C : Addr) (cl : List (Str × Addr)) (fp : List Addr), SCs (Blk X scope s H C cl fp) ifs mc)
    (he : ∀ (s : Shared) (H : Hp) (C : Addr) (cl : List (Str × Addr)) (fp : List Addr), SE (Blk X scope s H C cl fp) elt me) (hs : ∀ x, foldedSetIterable iter X.env x = pure x := by intro _; rfl) :
    SN X (.ListComp elt [⟨tg, iter, ifs, 0⟩] scope pos) (xLc (own.map (·.2)) mi g mc me) :=
  ⟨fun W tk B env σ F H Q R p => zE.by (pe_lc hc hN pi_w ok pgb ptb peb hs) (lc_run hi hJ hg ht he tk R p)⟩
end
end Dl

/-! Dl5: calls of defs. Own work. -/
namespace Dl
open PySem PySem.Spec PyProof.Rows L2

/-- a def's promise by a function of its slots -/
def spD (K : PySem.W.Frag) (mg : Str → Option Value) (n : Nat) (g : Env → Out Cn) : Sp := fun vs H Q E => vs.length = n ∧ ∃ (B F : Hp) (env : Env), Rel K B env (vs.map some) F H ∧ (match g env with
  | .ok c e => ∀ v F' H', Rel K B (some c :: e) (some v :: vs.map some) F' H' → Up B F F' → Q v H'
  | .err x e => ∀ F' H' cls dd, Rel K B e (vs.map some) F' H' → Up B F F' → IsX K mg F' H' x cls dd → E cls dd H'
  | .no => False)
def IoOk (ios : List (Option Nat)) (vs : List V) (σ : St) : Prop := ∀ (k i : Nat), ios[k]? = some (some i) → ∃ v, vs[k]? = some v ∧ σ[i]? = some (some v)
/-- arguments, some of them containers handed over for the call -/
structure SX (X : Cx) (es : List Expr) (ios : List (Option Nat)) (m : M (List Cn)) : Prop where
  run : ∀ (W : WX), Takes X W → ∀ (B : Hp) (env : Env) (σ : St) (F H : Hp) (Q : List V → Hp → Prop), Rel X.K B env σ F H → PostC X B σ F W (fun cs => cs) (fun _ _ vs _ H' => IoOk ios vs σ → Q vs H') (m env) → zA X es σ H Q
def aNil : M (List Cn) := fun env => .ok [] env
def aVal (ma : M D) (mr : M (List Cn)) : M (List Cn) := fun env => (ma env).bind fun d e1 => (mr e1).bind fun cs e2 => .ok (.val d :: cs) e2
def aNew (ma : M Cn) (mr : M (List Cn)) : M (List Cn) := fun env => (ma env).bind fun c e1 => (mr e1).bind fun cs e2 => .ok (c :: cs) e2
def aIo (i : Nat) (mr : M (List Cn)) : M (List Cn) := aNew (xmv i) mr
section
variable {X : Cx} {e a : Expr} {es : List Expr} {ma : M D} {mn : M Cn} {mr : M (List Cn)} {ios : List (Option Nat)}
theorem sx_nil : SX X [] [] aNil := ⟨fun W tk B env σ F H Q R p => zA.by pa_nil (p [] F H rfl R Up.refl fun k i h => by simp at h)⟩
theorem sx_val (ha : SE X a ma) (hr : SX X es ios mr) (hs : starEach (a :: es) X.env = (false, eval a X.env) :: starEach es X.env := by rfl) : SX X (a :: es) (none :: ios) (aVal ma mr) := by
  refine ⟨fun W tk B env σ F H Q R p => zA.by (pa_cons pe_w pa_w hs) ?_⟩
  refine ha.run W tk B env σ F H _ R (p.bind.imp fun d e1 F1 H1 _ R1 U1 p1 v1 d1 => ?_)
  refine hr.run W tk B e1 σ F1 H1 _ R1 (PostC.imp (PostC.bindC p1) fun cs e2 vs F2 H2 _ l R2 U2 p2 io => ?_)
  refine p2 (v1 :: vs) F2 H2 (congrArg (· + 1) l) (Rel.front R2 (dp_mono U2.sm d1)) Up.refl fun k i h => ?_
  cases k with
  | zero => simp at h
  | succ k => exact io k i (by simpa using h)
/-- while a container is held, the rest -/
theorem sx_held (hr : SX X es ios mr) {W : WX} (tk : Takes X W) {B : Hp} {e1 : Env} {σ : St} {F1 H1 : Hp} {c : Cn} {v : V} {Q : List V → Hp → Prop} (R1 : Rel X.K B (some c :: e1) (some v :: σ) F1 H1)
    (p : PostC X B σ F1 W (fun cs => cs) (fun _ _ vs _ H' => ∀ vr, vs = v :: vr → IoOk ios vr σ → Q vr H') ((mr e1).bind fun cs e2 => .ok (c :: cs) e2)) : zA X es σ H1 Q := by
  obtain ⟨B', R', sb, hh⟩ := Rel.hold (env := [some c]) (τ := [some v]) R1 rfl
  refine hr.run W tk B' e1 σ F1 H1 _ R' ?_
  cases q : mr e1 with
  | no => rw [q] at p; exact False.elim p
  | err x e =>
    rw [q] at p
    intro F' H' cls dd R2 U2 hx
    obtain ⟨R3, U3⟩ := hh e σ F' H' R2 U2
    exact p F' H' cls dd (Rel.drop R3) U3 hx
  | ok cs e2 =>
    rw [q] at p
    intro vs F2 H2 l R2 U2 io
    obtain ⟨R3, U3⟩ := hh _ _ F2 H2 R2 U2
    exact p (v :: vs) F2 H2 (congrArg (· + 1) l) R3 U3 vs rfl io
theorem sx_new (ha : SN X a mn) (hr : SX X es ios mr) (hs : starEach (a :: es) X.env = (false, eval a X.env) :: starEach es X.env := by rfl) : SX X (a :: es) (none :: ios) (aNew mn mr) := by
  refine ⟨fun W tk B env σ F H Q R p => zA.by (pa_cons pe_w pa_w hs) ?_⟩
  refine ha.run W tk B env σ F H _ R (PostC.imp (PostC.bindC p) fun c e1 vs0 F1 H1 _ l R1 U1 p1 v hv => ?_)
  subst hv
  refine sx_held hr tk R1 (PostC.imp p1 fun cs e2 vs F2 H2 _ l R2 U2 p2 vr hvr io => ?_)
  subst hvr
  refine p2 fun k i h => ?_
  cases k with
  | zero => simp at h
  | succ k => exact io k i (by simpa using h)
theorem sx_io {i : Nat} {x : Str} {p1 : Pos} (hn : PE X (.Name x p1) (tVar i)) (hr : SX X es ios mr) (hs : starEach (.Name x p1 :: es) X.env = (false, eval (.Name x p1) X.env) :: starEach es X.env := by rfl) : SX X (.Name x p1 :: es) (some i :: ios) (aIo i mr) := by
  refine ⟨fun W tk B env σ F H Q R p => zA.by (pa_cons hn pa_w hs) ?_⟩
  unfold aIo aNew xmv at p
  split at p
  · rename_i c h
    obtain ⟨v, h1, R1⟩ := R.take h
    refine ⟨v, h1, sx_held hr tk R1 (PostC.imp p fun cs e2 vs F2 H2 _ l R2 U2 p2 vr hvr io => ?_)⟩
    subst hvr
    refine p2 fun k j hk => ?_
    cases k with
    | zero =>
      have : i = j := by simpa using hk
      subst this
      exact ⟨v, rfl, h1⟩
    | succ k => exact io k j (by simpa using hk)
  · exact False.elim p
end

/-! ### containers put back -/
def putBack : List (Option Nat) → Env → Env → Env
  | none :: ios, _ :: ps, e => putBack ios ps e
  | some i :: ios, p :: ps, e => putBack ios ps (e.set i p)
  | _, _, e => e
section
variable {K : PySem.W.Frag} {B F H : Hp}
theorem Rel.popno {x : Option V} {env : Env} {σ : St} (R : Rel K B (none :: env) (x :: σ) F H) : Rel K B env σ F H := by
  obtain ⟨fp, o, nd, z⟩ := R.own
  cases o with
  | no q => exact ⟨⟨fp, q, nd, z⟩, R.fh, R.bh⟩
theorem set_append_right {α : Type} (a b : List α) (i : Nat) (x : α) : (a ++ b).set (a.length + i) x = a ++ b.set i x := by
  rw [List.set_append]
  rw [if_neg (by omega), Nat.add_sub_cancel_left]
theorem Rel.dropN : ∀ {ps : Env} {vs : List V} {env : Env} {σ : St}, vs.length = ps.length → Rel K B (ps ++ env) (vs.map some ++ σ) F H → Rel K B env σ F H
  | [], [], _, _, _, R => R
  | none :: ps, v :: vs, _, _, l, R => Rel.dropN (ps := ps) (vs := vs) (by simpa using l) R.popno
  | some _ :: ps, v :: vs, _, _, l, R => Rel.dropN (ps := ps) (vs := vs) (by simpa using l) (Rel.drop R)
theorem Rel.putBack : ∀ {ios : List (Option Nat)} {ps : Env} {vs : List V} {env : Env} {σ : St}, vs.length = ps.length → IoOk ios vs σ → Rel K B (ps ++ env) (vs.map some ++ σ) F H → Rel K B (Dl.putBack ios ps env) σ F H
  | [], ps, vs, _, _, l, _, R => by
    have q := Rel.dropN l R
    cases ps <;> exact q
  | none :: ios, [], [], _, _, _, _, R => R
  | some i :: ios, [], [], _, _, _, _, R => R
  | none :: ios, p :: ps, v :: vs, env, σ, l, io, R => by
    have R' : Rel K B (ps ++ env) (vs.map some ++ σ) F H := by
      cases p with
      | none => exact Rel.popno R
      | some c => exact Rel.drop R
    exact Rel.putBack (ios := ios) (ps := ps) (vs := vs) (by simpa using l) (fun k i h => by simpa using io (k + 1) i (by simpa using h)) R'
  | some i :: ios, p :: ps, v :: vs, env, σ, l, io, R => by
    obtain ⟨w, hw1, hw2⟩ := io 0 i rfl
    have hw : v = w := by simpa using hw1
    subst hw
    have l' : vs.length = ps.length := by simpa using l
    have es : σ.set i (some v) = σ := by
      refine List.ext_getElem? fun j => ?_
      by_cases hj : i = j
      · subst hj
        rw [List.getElem?_set_self (List.getElem?_eq_some_iff.mp hw2).1, hw2]
      · rw [List.getElem?_set_ne hj]
    have R' : Rel K B (ps ++ env.set i p) (vs.map some ++ σ) F H := by
      cases p with
      | none =>
        have q : Rel K B ((ps ++ env).set (ps.length + i) none) (vs.map some ++ σ) F H := (Rel.popno R).forget (ps.length + i)
        rw [set_append_right] at q
        exact q
      | some c =>
        have q : Rel K B ((ps ++ env).set (ps.length + i) (some c)) ((vs.map some ++ σ).set (ps.length + i) (some v)) F H := Rel.asg R (ps.length + i)
        rw [set_append_right, show ps.length + i = (vs.map some).length + i by rw [List.length_map, l'], set_append_right, es] at q
        exact q
    exact Rel.putBack (ios := ios) (ps := ps) (vs := vs) l' (fun k i h => by simpa using io (k + 1) i (by simpa using h)) R'
end

/-! ### a container handed over, looked at when the other arguments are there -/
def hasC : Option (Option Cn) → Bool
  | some (some _) => true
  | _ => false
def kIoL (i : Nat) (cs : List Cn) : M (List Cn) := fun e => (xmv i e).bind fun c e' => .ok (c :: cs) e'
def aIoL (i : Nat) (mr : M (List Cn)) : M (List Cn) := fun env => if hasC env[i]? = true then (mr env).bind (kIoL i) else .no
theorem sx_ioL {X : Cx} {es : List Expr} {mr : M (List Cn)} {ios : List (Option Nat)} {i : Nat} {x : Str} {p1 : Pos} (hn : PE X (.Name x p1) (tVar i)) (hr : SX X es ios mr) (hs : starEach (.Name x p1 :: es) X.env = (false, eval (.Name x p1) X.env) :: starEach es X.env := by rfl) : SX X (.Name x p1 :: es) (some i :: ios) (aIoL i mr) := by
  refine ⟨fun W tk B env σ F H Q R p => zA.by (pa_cons hn pa_w hs) ?_⟩
  unfold aIoL at p
  split at p
  · rename_i hc
    obtain ⟨c0, hc0⟩ : ∃ c0, env[i]? = some (some c0) := by
      match h : env[i]?, hc with
      | some (some c), _ => exact ⟨c, rfl⟩
      | some none, hc => cases hc
      | none, hc => cases hc
    obtain ⟨v, h1, _⟩ := R.take hc0
    refine ⟨v, h1, hr.run W tk B env σ F H _ R (PostC.imp (PostC.bindC p) fun cs e1 vs F1 H1 _ l R1 U1 p1 io => ?_)⟩
    unfold kIoL xmv at p1
    split at p1
    · rename_i c hci
      have hcs : (cs.map some ++ e1)[cs.length + i]? = some (some c) := by
        rw [List.getElem?_append_right (by rw [List.length_map]; omega), List.length_map, Nat.add_sub_cancel_left]
        exact hci
      obtain ⟨v', h2, R2⟩ := R1.take hcs
      have hv : v' = v := by
        rw [List.getElem?_append_right (by rw [List.length_map]; omega), List.length_map, l, Nat.add_sub_cancel_left, h1] at h2
        exact (Option.some.inj (Option.some.inj h2)).symm
      subst hv
      have es : (cs.map some ++ e1).set (cs.length + i) none = cs.map some ++ e1.set i none := by
        have := set_append_right (cs.map some) e1 i (none : Option Cn)
        rw [List.length_map] at this
        exact this
      rw [es] at R2
      refine p1 (v' :: vs) F1 H1 (congrArg (· + 1) l) R2 Up.refl fun k j hk => ?_
      cases k with
      | zero =>
        have : i = j := by simpa using hk
        subst this
        exact ⟨v', rfl, h1⟩
      | succ k => exact io k j (by simpa using hk)
    · exact False.elim p1
  · exact False.elim p

/-! ### the call -/
def callG (n : Nat) (g : Env → Out Cn) (ios : List (Option Nat)) (cs : List Cn) (e1 : Env) : Out Cn := if cs.length = n then (match g (cs.map some) with
  | .ok c e2 => .ok c (putBack ios e2 e1)
  | .err x e2 => .err x (putBack ios e2 e1)
  | .no => .no) else .no
def xCall (n : Nat) (g : Env → Out Cn) (ios : List (Option Nat)) (mr : M (List Cn)) : M Cn := fun env => (mr env).bind fun cs e1 => callG n g ios cs e1
section
variable {X : Cx} {e : Expr} {es : List Expr} {mr : M (List Cn)} {ios : List (Option Nat)} {n k : Nat} {g : Env → Out Cn} {f : Addr} {fd : FuncData} {ps : List Str} {x : Str} {p1 pos : Pos}
/-- the promise of the callee, from what has come of the arguments -/
theorem call_run {W : WX} {B : Hp} {e1 : Env} {σ : St} {F H : Hp} {cs : List Cn} {vs : List V} {Q : VK} (l : vs.length = cs.length) (R : Rel X.K B (cs.map some ++ e1) (vs.map some ++ σ) F H) (io : IoOk ios vs σ)
    (p : PostC X B σ F W (fun c => [c]) (fun _ _ vs _ H' => ∀ v, vs = [v] → Q v H') (callG n g ios cs e1)) : spD X.K X.mg n g vs H Q (WE W σ) := by
  unfold callG at p
  split at p
  · rename_i hn
    obtain ⟨B', R', sb, hh⟩ := Rel.frame (env := cs.map some) (τ := vs.map some) R (by rw [List.length_map, List.length_map]; exact l)
    refine ⟨l.trans hn, B', F, cs.map some, R', ?_⟩
    split at p
    · rename_i c e2 hg
      intro v F' H' R2 U2
      obtain ⟨R3, U3⟩ := hh e2 F' H' [some c] [some v] rfl R2 U2
      have R3' : Rel X.K B ([some c] ++ (e2 ++ e1)) ([some v] ++ (vs.map some ++ σ)) F' H' := R3
      obtain ⟨B2, R4, sb2, hh2⟩ := Rel.hold (env := [some c]) (τ := [some v]) R3' rfl
      have l2 : vs.length = e2.length := by
        have := R2.length
        simp at this
        exact this
      have R5 := Rel.putBack (ios := ios) l2 io R4
      obtain ⟨R6, U6⟩ := hh2 _ _ F' H' R5 Up.refl
      exact p [v] F' H' rfl R6 U3 v rfl
    · rename_i xx e2 hg
      intro F' H' cls dd R2 U2 hx
      obtain ⟨R3, U3⟩ := hh e2 F' H' [] [] rfl R2 U2
      have l2 : vs.length = e2.length := by
        have := R2.length
        simp at this
        exact this
      exact p F' H' cls dd (Rel.putBack (ios := ios) l2 io R3) U3 hx
    · exact False.elim p
  · exact False.elim p
theorem sn_call (G : FnOk X.prog X.w X.K X.mg X.base (L2.CX X.prog X.w) k f fd ps (spD X.K X.mg n g)) (hr : Room k X.A) (hg : Gl X x) (hm : X.mg x = some (.ref f)) (hk : PySem.W.keepIn X.K (.ref f) = true) (hb : Binds X.K fd ps [])
    (ha : SX X (e :: es) ios mr) (hdb : (x == ("__debug__" : Str)) = false := by decide) (he : starEach (e :: es) X.env = (false, eval e X.env) :: starEach es X.env := by rfl) (hpl : (backTo pos (starEach es X.env)).any (·.1) = false := by rfl) :
    SN X (.Call (.Name x p1) (e :: es) [] pos) (xCall n g ios mr) := by
  refine ⟨fun W tk B env σ F H Q R p => zE.by (pe_callS G hr hg hm hk hb (fun σ => passAt tk σ) pa_w hdb he hpl) ?_⟩
  refine ha.run W tk B env σ F H _ R (PostC.imp (PostC.bindC p) fun cs e1 vs F1 H1 _ l R1 U1 p1 io => ?_)
  exact call_run l R1 io p1

/-! ### keywords -/
theorem run_fnKS {pins : List (Addr × Obj)} {σ : St} {H : Hp} {s : Shared} {Q : VK} {us ws : List Value} {vs zs : List V} {CX : CXT} {sp : Sp} {E : XK} {ks : List Str} {gg : List Value → List Value → List Value} {gV : List V → List V → List V} {j : Nat}
    (F : FnOk X.prog X.w X.K X.mg X.base CX k f fd ps sp) (hr : Room k X.A) (hb : KBn X.K fd ps j ks gg gV) (hx : PassesAt CX X σ E)
    (I : Inv X pins σ H s) (r : Vals vs us) (rz : Vals zs ws) (l1 : vs.length = j) (l2 : zs.length = ks.length) (h : sp (gV vs zs) H Q E) : wpAny (model X.prog X.w) X.A (call (.ref f) us (ks.zip ws)) (EP X pins σ Q) X.xe s := by
  have r2 := hb.rel r rz
  refine wpAny_call (codeAny_mono (F.run X.A X.stack s H ⟨us, ks.zip ws⟩ (gg us ws) (gV vs zs) Q E hr I.env0 (hb.to s us ws I.kIn (r.length.symm.trans l1) (rz.length.symm.trans l2)) r2 h) fun r s' hq => ?_)
  cases r with
  | error e => exact hx pins H s e s' I hq
  | ok fl =>
    cases fl with
    | ret u => exact I.after hq
    | next => exact False.elim hq
    | brk => exact False.elim hq
    | cont => exact False.elim hq
def tCallKS (j m : Nat) (sp : Sp) (gV : List V → List V → List V) (E : St → XK) (t tk : TA) : TE := fun σ H Q => t σ H fun vs H1 => tk σ H1 fun zs H2 => vs.length = j ∧ zs.length = m ∧ sp (gV vs zs) H2 Q (E σ)
section
variable {CX : CXT} {sp : Sp} {E : St → XK} {kws : List Keyword} {t tk : TA} {ks : List Str} {gg : List Value → List Value → List Value} {gV : List V → List V → List V} {j : Nat}
theorem pe_callKS (F : FnOk X.prog X.w X.K X.mg X.base CX k f fd ps sp) (hr : Room k X.A) (hg : Gl X x) (hm : X.mg x = some (.ref f)) (hk : PySem.W.keepIn X.K (.ref f) = true) (hb : KBn X.K fd ps j ks gg gV) (hx : ∀ σ, PassesAt CX X σ (E σ))
    (ha : PA X (e :: es) t) (hkw : PK X kws tk) (hall : (backToKw pos (keywordEach kws X.env)).all (·.1.isSome) = true := by rfl) (hks : (backToKw pos (keywordEach kws X.env)).filterMap (·.1) = ks := by rfl)
    (hdb : (x == ("__debug__" : Str)) = false := by decide) (he : starEach (e :: es) X.env = (false, eval e X.env) :: starEach es X.env := by rfl)
    (hpl : ((backTo pos (starEach (e :: es) X.env)).any (·.1) || (backToKw pos (keywordEach kws X.env)).any (·.1.isNone)) = false := by rfl) :
    PE X (.Call (.Name x p1) (e :: es) kws pos) (tCallKS j ks.length sp gV E t tk) := by
  refine ⟨fun pins s σ H Q I h => ?_⟩
  refine wpAny_Call_Name_kw (ld_glob I hg hm ?_ hdb)
  refine PySem.W.callWith_KW (h₀ := X.base) I.ok.mod.kin hk hall (thn (ha.run pos pins s σ H _ I h) fun us s1 ⟨vs, H1, I1, r, q⟩ => ?_) hpl he
  refine thn (hkw.run pos pins s1 σ H1 _ I1 q) fun ws s2 ⟨zs, H2, I2, rz, l1, l2, q2⟩ => ⟨I2.kIn, ?_⟩
  rw [hks]
  exact run_fnKS F hr hb (hx σ) I2 r rz l1 l2 q2
theorem pe_callKS0 (F : FnOk X.prog X.w X.K X.mg X.base CX k f fd ps sp) (hr : Room k X.A) (hg : Gl X x) (hm : X.mg x = some (.ref f)) (hk : PySem.W.keepIn X.K (.ref f) = true) (hb : KBn X.K fd ps 0 ks gg gV) (hx : ∀ σ, PassesAt CX X σ (E σ))
    (hkw : PK X kws tk) (hall : (backToKw pos (keywordEach kws X.env)).all (·.1.isSome) = true := by rfl) (hks : (backToKw pos (keywordEach kws X.env)).filterMap (·.1) = ks := by rfl)
    (hdb : (x == ("__debug__" : Str)) = false := by decide)
    (hpl : ((backTo pos (starEach [] X.env)).any (·.1) || (backToKw pos (keywordEach kws X.env)).any (·.1.isNone)) = false := by rfl) :
    PE X (.Call (.Name x p1) [] kws pos) (tCallKS 0 ks.length sp gV E tNil tk) := by
  refine ⟨fun pins s σ H Q I h => ?_⟩
  refine wpAny_Call_Name_kw (ld_glob I hg hm ?_ hdb)
  refine PySem.W.callWith_KW0 (h₀ := X.base) I.ok.mod.kin hk hall ?_ hpl
  refine thn (hkw.run pos pins s σ H _ I h) fun ws s2 ⟨zs, H2, I2, rz, l1, l2, q2⟩ => ⟨I2.kIn, ?_⟩
  rw [hks]
  exact run_fnKS (us := []) (vs := []) F hr hb (hx σ) I2 .nil rz rfl l2 q2
end
/-- keywords' values, all of data -/
structure SK (X : Cx) (kws : List Keyword) (m : M (List D)) : Prop where
  run : ∀ (W : WX), Takes X W → ∀ (B : Hp) (env : Env) (σ : St) (F H : Hp) (Q : List V → Hp → Prop), Rel X.K B env σ F H → Post X B σ F W (fun ds _ F' H' => ∀ vs, DpAll X.K F' vs ds → Q vs H') (m env) → zK X kws σ H Q
theorem sk_nil : SK X [] xNil := ⟨fun W tk B env σ F H Q R p => zK.by pk_nil (p F H R Up.refl _ .nil)⟩
theorem sk_cons {a : Expr} {ma : M D} {mr : M (List D)} {kws : List Keyword} {nm : Option Str} {kpos : Pos} (ha : SE X a ma) (hr : SK X kws mr) : SK X (⟨nm, a, kpos⟩ :: kws) (xCons ma mr) := by
  refine ⟨fun W tk B env σ F H Q R p => zK.by (pk_cons pe_w pk_w) ?_⟩
  refine ha.run W tk B env σ F H _ R (p.bind.imp fun d e1 F1 H1 _ R1 U1 p1 v1 d1 => ?_)
  refine hr.run W tk B e1 σ F1 H1 _ R1 (p1.bind.imp fun ds e2 F2 H2 _ R2 U2 p2 vs d2 => ?_)
  exact p2 F2 H2 R2 Up.refl _ (.cons (dp_mono U2.sm d1) d2)
/-- f(e, .., k = v, ..), all of data: perm puts positional and keywords' values in the parameters' order -/
def xCallK (n j m : Nat) (g : Env → Out Cn) (perm : {α : Type} → List α → List α → List α) (ma mk : M (List D)) : M Cn := fun env => (ma env).bind fun ds e1 => (mk e1).bind fun es e2 => if ds.length = j ∧ es.length = m then
  callG n g [] ((perm ds es).map Cn.val) e2 else .no
def PermOk (perm : {α : Type} → List α → List α → List α) : Prop := ∀ {α β : Type} (R : α → β → Prop) (as : List α) (bs : List α) (cs ds : List β), Paired R as cs → Paired R bs ds → Paired R (perm as bs) (perm cs ds)
theorem dpAll_paired {K : PySem.W.Frag} {H : Hp} : ∀ {vs : List V} {ds : List D}, DpAll K H vs ds ↔ Paired (Dp K H) vs ds
  | [], [] => ⟨fun _ => .nil, fun _ => .nil⟩
  | [], _ :: _ => ⟨fun h => (by cases h), fun h => (by cases h)⟩
  | _ :: _, [] => ⟨fun h => (by cases h), fun h => (by cases h)⟩
  | _ :: _, _ :: _ => ⟨fun h => (by cases h with | cons a b => exact .cons a (dpAll_paired.mp b)), fun h => (by cases h with | cons a b => exact .cons a (dpAll_paired.mpr b))⟩
theorem Rel.frontAll {K : PySem.W.Frag} {B F H : Hp} {env : Env} {σ : St} (R : Rel K B env σ F H) : ∀ {vs : List V} {ds : List D}, DpAll K F vs ds → Rel K B ((ds.map Cn.val).map some ++ env) (vs.map some ++ σ) F H
  | _, _, .nil => R
  | _, _, .cons h q => Rel.front (Rel.frontAll R q) h
theorem sn_callK {ks : List Str} {gg : List Value → List Value → List Value} {j : Nat} {perm : {α : Type} → List α → List α → List α} {ma mk : M (List D)} {kws : List Keyword}
    (G : FnOk X.prog X.w X.K X.mg X.base (L2.CX X.prog X.w) k f fd ps (spD X.K X.mg n g)) (hr : Room k X.A) (hg : Gl X x) (hm : X.mg x = some (.ref f)) (hk : PySem.W.keepIn X.K (.ref f) = true) (hb : KBn X.K fd ps j ks gg (perm (α := V))) (hp : PermOk perm)
    (ha : SA X (e :: es) ma) (hkw : SK X kws mk) (hall : (backToKw pos (keywordEach kws X.env)).all (·.1.isSome) = true := by rfl) (hks : (backToKw pos (keywordEach kws X.env)).filterMap (·.1) = ks := by rfl)
    (hdb : (x == ("__debug__" : Str)) = false := by decide) (he : starEach (e :: es) X.env = (false, eval e X.env) :: starEach es X.env := by rfl)
    (hpl : ((backTo pos (starEach (e :: es) X.env)).any (·.1) || (backToKw pos (keywordEach kws X.env)).any (·.1.isNone)) = false := by rfl) :
    SN X (.Call (.Name x p1) (e :: es) kws pos) (xCallK n j ks.length g perm ma mk) := by
  refine ⟨fun W tk B env σ F H Q R p => zE.by (pe_callKS G hr hg hm hk hb (fun σ => passAt tk σ) pa_w pk_w hall hks hdb he hpl) ?_⟩
  refine ha.run W tk B env σ F H _ R (PostC.bind p |>.imp fun ds e1 F1 H1 _ R1 U1 p1 vs d1 => ?_)
  refine hkw.run W tk B e1 σ F1 H1 _ R1 (PostC.bind p1 |>.imp fun es e2 F2 H2 _ R2 U2 p2 zs d2 => ?_)
  split at p2
  · rename_i hl
    refine ⟨d1.length.trans hl.1, d2.length.trans hl.2, ?_⟩
    have d3 : DpAll X.K F2 (perm vs zs) (perm ds es) := dpAll_paired.mpr (hp _ _ _ _ _ (dpAll_paired.mp (dpAll_mono U2.sm d1)) (dpAll_paired.mp d2))
    exact call_run (by rw [List.length_map]; exact d3.length) (Rel.frontAll R2 d3) (fun k i h => by simp at h) p2
  · exact False.elim p2
theorem sn_callK0 {ks : List Str} {gg : List Value → List Value → List Value} {perm : {α : Type} → List α → List α → List α} {mk : M (List D)} {kws : List Keyword}
    (G : FnOk X.prog X.w X.K X.mg X.base (L2.CX X.prog X.w) k f fd ps (spD X.K X.mg n g)) (hr : Room k X.A) (hg : Gl X x) (hm : X.mg x = some (.ref f)) (hk : PySem.W.keepIn X.K (.ref f) = true) (hb : KBn X.K fd ps 0 ks gg (perm (α := V))) (hp : PermOk perm)
    (hkw : SK X kws mk) (hall : (backToKw pos (keywordEach kws X.env)).all (·.1.isSome) = true := by rfl) (hks : (backToKw pos (keywordEach kws X.env)).filterMap (·.1) = ks := by rfl)
    (hdb : (x == ("__debug__" : Str)) = false := by decide)
    (hpl : ((backTo pos (starEach [] X.env)).any (·.1) || (backToKw pos (keywordEach kws X.env)).any (·.1.isNone)) = false := by rfl) :
    SN X (.Call (.Name x p1) [] kws pos) (xCallK n 0 ks.length g perm xNil mk) := by
  refine ⟨fun W tk B env σ F H Q R p => zE.by (pe_callKS0 G hr hg hm hk hb (fun σ => passAt tk σ) pk_w hall hks hdb hpl) ?_⟩
  have p1 : PostC X B σ F W (fun c => [c]) (fun _ _ vs _ H' => ∀ v, vs = [v] → Q v H') ((mk env).bind fun es e2 => if ([] : List D).length = 0 ∧ es.length = ks.length then callG n g [] ((perm [] es).map Cn.val) e2 else .no) := p
  refine hkw.run W tk B env σ F H _ R (PostC.bind p1 |>.imp fun es e2 F2 H2 _ R2 U2 p2 zs d2 => ?_)
  split at p2
  · rename_i hl
    refine ⟨rfl, d2.length.trans hl.2, ?_⟩
    have d3 : DpAll X.K F2 (perm [] zs) (perm [] es) := dpAll_paired.mpr (hp _ _ _ _ _ .nil (dpAll_paired.mp d2))
    exact call_run (by rw [List.length_map]; exact d3.length) (Rel.frontAll R2 d3) (fun k i h => by simp at h) p2
  · exact False.elim p2
end
end Dl

/-! Dl6: statements. Own work. -/
namespace Dl
open PySem PySem.Spec PyProof.Rows L2

inductive Fl where
  | nx | ret (c : Cn) | bk | ct
abbrev MS := Env → Out Fl
/-- parameters that stay what they are -/
structure Keep (pb : List Bool) (σ σ' : St) : Prop where
  len : σ'.length = σ.length
  is : ∀ k : Nat, pb[k]? = some true → σ'[k]? = σ[k]?
section
variable {pb : List Bool} {σ σ' σ'' : St}
theorem Keep.refl : Keep pb σ σ := ⟨rfl, fun _ _ => rfl⟩
theorem Keep.trans (a : Keep pb σ σ') (b : Keep pb σ' σ'') : Keep pb σ σ'' := ⟨b.len.trans a.len, fun k h => (b.is k h).trans (a.is k h)⟩
theorem Keep.set (i : Nat) (x : Option V) (h : pb[i]? ≠ some true) : Keep pb σ (σ.set i x) := ⟨List.length_set .., fun k hk => List.getElem?_set_ne (fun e : i = k => h (by rw [e]; exact hk))⟩
theorem Keep.off {J : List Nat} (hJ : ∀ j ∈ J, pb[j]? ≠ some true) (l : σ'.length = σ.length) (h : ∀ k, k ∉ J → σ'[k]? = σ[k]?) : Keep pb σ σ' := ⟨l, fun k hk => h k fun z => hJ k z hk⟩
end
def PostS (X : Cx) (pb : List Bool) (B : Hp) (σ : St) (F : Hp) (W : WX) (D : Ends) : Out Fl → Prop
  | .ok .nx e => ∀ σ' F' H', Keep pb σ σ' → Rel X.K B e σ' F' H' → Up B F F' → D.nx σ' H'
  | .ok (.ret c) e => ∀ v σ' F' H', Keep pb σ σ' → Rel X.K B (some c :: e) (some v :: σ') F' H' → Up B F F' → D.rt v H'
  | .ok .bk e => ∀ σ' F' H', Keep pb σ σ' → Rel X.K B e σ' F' H' → Up B F F' → D.bk σ' H'
  | .ok .ct e => ∀ σ' F' H', Keep pb σ σ' → Rel X.K B e σ' F' H' → Up B F F' → D.ct σ' H'
  | .err x e => ∀ σ' F' H' cls dd, Keep pb σ σ' → Rel X.K B e σ' F' H' → Up B F F' → IsX X.K X.mg F' H' x cls dd → W cls dd σ' H'
  | .no => False
section
variable {X : Cx} {pb : List Bool} {B F F' : Hp} {σ σ' : St} {W : WX} {D : Ends} {α : Type}
theorem PostS.on {o : Out Fl} (k : Keep pb σ σ') (u : Up B F F') (h : PostS X pb B σ F W D o) : PostS X pb B σ' F' W D o := by
  cases o with
  | ok f e =>
    cases f with
    | nx => exact fun s2 F2 H2 K2 R U => h s2 F2 H2 (k.trans K2) R (u.trans U)
    | bk => exact fun s2 F2 H2 K2 R U => h s2 F2 H2 (k.trans K2) R (u.trans U)
    | ct => exact fun s2 F2 H2 K2 R U => h s2 F2 H2 (k.trans K2) R (u.trans U)
    | ret c => exact fun v s2 F2 H2 K2 R U => h v s2 F2 H2 (k.trans K2) R (u.trans U)
  | err x e => exact fun s2 F2 H2 cls dd K2 R U => h s2 F2 H2 cls dd (k.trans K2) R (u.trans U)
  | no => exact h
/-- an expression, then a statement's rest -/
theorem PostS.bindE {o : Out α} {k : α → Env → Out Fl} (h : PostS X pb B σ F W D (o.bind k)) : Post X B σ F W (fun a e F' H' => PostS X pb B σ F' W D (k a e)) o := by
  cases o with
  | ok a e => exact fun F2 H2 R U => PostS.on Keep.refl U h
  | err x e => exact fun F2 H2 cls dd R U => h σ F2 H2 cls dd Keep.refl R U
  | no => exact h
theorem PostS.bindC {cn : α → List Cn} {o : Out α} {k : α → Env → Out Fl} (h : PostS X pb B σ F W D (o.bind k)) : PostC X B σ F W cn (fun a e _ F' H' => PostS X pb B σ F' W D (k a e)) o := by
  cases o with
  | ok a e => exact fun vs F2 H2 _ R U => PostS.on Keep.refl U h
  | err x e => exact fun F2 H2 cls dd R U => h σ F2 H2 cls dd Keep.refl R U
  | no => exact h
end
structure SS (X : Cx) (pb : List Bool) (st : Stmt) (m : MS) : Prop where
  run : ∀ (W : WX), Takes X W → PassesOwn (model X.prog X.w) X.A X.env X.xe → ∀ (B : Hp) (env : Env) (σ : St) (F H : Hp) (D : Ends), Rel X.K B env σ F H → PostS X pb B σ F W D (m env) → zS X st D σ H
structure SSs (X : Cx) (pb : List Bool) (st : List Stmt) (m : MS) : Prop where
  run : ∀ (W : WX), Takes X W → PassesOwn (model X.prog X.w) X.A X.env X.xe → ∀ (B : Hp) (env : Env) (σ : St) (F H : Hp) (D : Ends), Rel X.K B env σ F H → PostS X pb B σ F W D (m env) → zSs X st D σ H

def xNx : MS := fun env => .ok .nx env
def xBk : MS := fun env => .ok .bk env
def xCt : MS := fun env => .ok .ct env
def xSeq (m1 m2 : MS) : MS := fun env => (m1 env).bind fun f e => match f with
  | .nx => m2 e
  | _ => .ok f e
def xEx {α : Type} (m : M α) : MS := fun env => (m env).bind fun _ e => .ok .nx e
def xSet (i : Nat) (m : M D) : MS := fun env => (m env).bind fun d e => .ok .nx (e.set i (some (.val d)))
def xSetN (i : Nat) (m : M Cn) : MS := fun env => (m env).bind fun c e => .ok .nx (e.set i (some c))
def xRet (m : M Cn) : MS := fun env => (m env).bind fun c e => .ok (.ret c) e
def xRetE (m : M D) : MS := fun env => (m env).bind fun d e => .ok (.ret (.val d)) e
def xIfS (mc : M Bool) (a b : MS) : MS := fun env => (mc env).bind fun k e => if k = true then a e else b e
section
variable {X : Cx} {pb : List Bool} {st : Stmt} {rest a b : List Stmt} {e : Expr} {ms m1 m2 : MS} {m : M D} {mn : M Cn} {mc : M Bool} {pos : Pos}
theorem sss_nil : SSs X pb [] xNx := ⟨fun W tk hp B env σ F H D R p => zSs.by pss_nil (p σ F H Keep.refl R Up.refl)⟩
theorem sss_cons (h1 : SS X pb st m1) (h2 : SSs X pb rest m2) : SSs X pb (st :: rest) (xSeq m1 m2) := by
  refine ⟨fun W tk hp B env σ F H D R p => zSs.by (pss_cons ps_w pss_w) ?_⟩
  refine h1.run W tk hp B env σ F H { D with nx := zSs X rest D } R ?_
  unfold xSeq at p
  cases q : m1 env with
  | no => rw [q] at p; exact p
  | err x e => rw [q] at p; exact p
  | ok f e1 =>
    rw [q] at p
    cases f with
    | nx => exact fun σ' F' H' K' R' U' => h2.run W tk hp B e1 σ' F' H' D R' (PostS.on K' U' p)
    | bk => exact p
    | ct => exact p
    | ret c => exact p
theorem ss_pass : SS X pb (.Pass pos) xNx := ⟨fun W tk hp B env σ F H D R p => zS.by ps_pass (p σ F H Keep.refl R Up.refl)⟩
theorem ss_doc {x j pos'} : SS X pb (.Expr (.Constant (.str x) j pos) pos') xNx := ⟨fun W tk hp B env σ F H D R p => zS.by ps_doc (p σ F H Keep.refl R Up.refl)⟩
theorem ss_break : SS X pb (.Break pos) xBk := ⟨fun W tk hp B env σ F H D R p => zS.by ps_break (p σ F H Keep.refl R Up.refl)⟩
theorem ss_continue : SS X pb (.Continue pos) xCt := ⟨fun W tk hp B env σ F H D R p => zS.by ps_continue (p σ F H Keep.refl R Up.refl)⟩
theorem ss_expr (h : SE X e m) (hs : swapsWith e none pos.line X.env = pure false := by rfl) : SS X pb (.Expr e pos) (xEx m) :=
  ⟨fun W tk hp B env σ F H D R p => zS.by (ps_expr pe_w hs) (h.run W tk B env σ F H _ R (p.bindE.imp fun d e1 F1 H1 _ R1 U1 p1 v _ => p1 σ F1 H1 Keep.refl R1 Up.refl))⟩
theorem ss_exprN (h : SN X e mn) (hs : swapsWith e none pos.line X.env = pure false := by rfl) : SS X pb (.Expr e pos) (xEx mn) := by
  refine ⟨fun W tk hp B env σ F H D R p => zS.by (ps_expr pe_w hs) (h.run W tk B env σ F H _ R (p.bindC.imp fun c e1 vs F1 H1 _ l R1 U1 p1 v hv => ?_))⟩
  subst hv
  exact p1 σ F1 H1 Keep.refl (Rel.drop R1) Up.refl
theorem ss_set (i : Nat) {x : Str} {p1 : Pos} (hN : X.N.Nodup) (h : SE X e m) (hp : pb[i]? ≠ some true := by decide) (hi : X.N[i]? = some x := by rfl) (hx : Loc X.env.scope x := by first | exact Or.inl rfl | exact Or.inr rfl)
    (hs : swapsWith e (some (.Name x p1)) pos.line X.env = pure false := by rfl) (hf : X.fn x = true ∨ X.env.scope.names.lookup x = some .local := by first | exact .inl rfl | exact .inr rfl | assumption) : SS X pb (.Assign [.Name x p1] e pos) (xSet i m) :=
  ⟨fun W tk _ B env σ F H D R p => zS.by (ps_set hN hi hx pe_w hs hf) (h.run W tk B env σ F H _ R (p.bindE.imp fun d e1 F1 H1 _ R1 U1 p1 v hv => p1 _ F1 H1 (Keep.set i _ hp) (R1.asgv hv i) Up.refl))⟩
theorem ss_setN (i : Nat) {x : Str} {p1 : Pos} (hN : X.N.Nodup) (h : SN X e mn) (hp : pb[i]? ≠ some true := by decide) (hi : X.N[i]? = some x := by rfl) (hx : Loc X.env.scope x := by first | exact Or.inl rfl | exact Or.inr rfl)
    (hs : swapsWith e (some (.Name x p1)) pos.line X.env = pure false := by rfl) (hf : X.fn x = true ∨ X.env.scope.names.lookup x = some .local := by first | exact .inl rfl | exact .inr rfl | assumption) : SS X pb (.Assign [.Name x p1] e pos) (xSetN i mn) := by
  refine ⟨fun W tk _ B env σ F H D R p => zS.by (ps_set hN hi hx pe_w hs hf) (h.run W tk B env σ F H _ R (p.bindC.imp fun c e1 vs F1 H1 _ l R1 U1 p1 v hv => ?_))⟩
  subst hv
  exact p1 _ F1 H1 (Keep.set i _ hp) (Rel.asg R1 i) Up.refl
theorem ss_ret (h : SN X e mn) : SS X pb (.Return (some e) pos) (xRet mn) := by
  refine ⟨fun W tk hp B env σ F H D R p => zS.by (ps_ret pe_w) (h.run W tk B env σ F H _ R (p.bindC.imp fun c e1 vs F1 H1 _ l R1 U1 p1 v hv => ?_))⟩
  subst hv
  exact p1 v σ F1 H1 Keep.refl R1 Up.refl
theorem ss_retE (h : SE X e m) : SS X pb (.Return (some e) pos) (xRetE m) := by
  refine ⟨fun W tk hp B env σ F H D R p => zS.by (ps_ret pe_w) (h.run W tk B env σ F H _ R (p.bindE.imp fun d e1 F1 H1 _ R1 U1 p1 v hv => ?_))⟩
  exact p1 v σ F1 H1 Keep.refl (R1.front hv) Up.refl
def xRet0 : MS := fun env => .ok (.ret (.val .none)) env
theorem ss_ret0 : SS X pb (.Return none pos) xRet0 :=
  ⟨fun W tk hp B env σ F H D R p => zS.by ps_retN (p .non σ F H Keep.refl (R.front .non) Up.refl)⟩
theorem ss_if {c : Expr} (hc : ST X c mc) (ha : SSs X pb a m1) (hb : SSs X pb b m2) : SS X pb (.If c a b pos) (xIfS mc m1 m2) := by
  refine ⟨fun W tk hp B env σ F H D R p => zS.by (ps_if pt_w pss_w pss_w) (hc.run W tk B env σ F H _ R (p.bindE.imp fun k e1 F1 H1 _ R1 U1 p1 => ?_))⟩
  cases k with
  | true => exact ha.run W tk hp B e1 σ F1 H1 D R1 p1
  | false => exact hb.run W tk hp B e1 σ F1 H1 D R1 p1

/-! ### name = [.. for ..] on one line -/
theorem ss_setLc (i : Nat) {y : Str} {py : Pos} {elt tg iter : Expr} {ifs : List Expr} {scope : Scope} {own : List (Str × Nat)} {spos : Pos} {J : List Nat} {g : Tg} {mi : M (List D)} {me : M D} (hc : X.calm = true) (hN : X.N.Nodup)
    (hi : SI X tg iter mi) (ok : BlkOk X.N X.env.scope scope own) (hJ : ∀ j ∈ J, j ∈ own.map (·.2))
    (hg : ∀ (s : Shared) (H : Hp) (C : Addr) (cl : List (Str × Addr)) (fp : List Addr), SG (Blk X scope s H C cl fp) tg J g)
    (ht : ∀ (s : Shared) (H : Hp) (C : Addr) (cl : List (Str × Addr)) (fp : List Addr), SCs (Blk X scope s H C cl fp) ifs mc)
    (he : ∀ (s : Shared) (H : Hp) (C : Addr) (cl : List (Str × Addr)) (fp : List Addr), SE (Blk X scope s H C cl fp) elt me)
    (hp : pb[i]? ≠ some true := by decide) (hy : X.N[i]? = some y := by rfl) (hyl : X.env.scope.names.lookup y = some .local := by rfl)
    (hsw : swapsWith (.ListComp elt [⟨tg, iter, ifs, 0⟩] scope pos) (some (.Name y py)) spos.line X.env = pure true := by exact sw_true rfl rfl rfl rfl) (hs : ∀ x, foldedSetIterable iter X.env x = pure x := by intro _; rfl) :
    SS X pb (.Assign [.Name y py] (.ListComp elt [⟨tg, iter, ifs, 0⟩] scope pos) spos) (xSetN i (xLc (own.map (·.2)) mi g mc me)) := by
  refine ⟨fun W tk _ B env σ F H D R p => zS.by (ps_setLc hc hN hy hyl hsw pi_w ok pgb ptb peb hs) ?_⟩
  show tLc _ _ _ _ _ σ H (fun x H1 => D.nx (σ.set i (some x)) H1)
  refine lc_run hi hJ hg ht he tk R (p.bindC.imp fun c e1 vs F1 H1 _ l R1 U1 p1 v hv => ?_)
  subst hv
  exact p1 _ F1 H1 (Keep.set i _ hp) (Rel.asg R1 i) Up.refl

/-! ### tuple targets, pairs, elements -/
def xAsg (m : M D) (g : Tg) : MS := fun env => (m env).bind fun d e => match g d e with
  | some e' => .ok .nx e'
  | none => .no
theorem ss_asg {tg : Expr} {J : List Nat} {g : Tg} (h : SE X e m) (hg : SG X tg J g) (hJ : ∀ j ∈ J, pb[j]? ≠ some true := by decide) (hs : swapsWithSole [tg] e pos.line X.env = pure false := by rfl) (hw : swappedStores [tg] e X.env = pure none := by rfl)
    (h1 : (assignEach [tg] X.env).map (·.2) = [assign tg X.env] := by rfl) : SS X pb (.Assign [tg] e pos) (xAsg m g) := by
  obtain ⟨t, pt, ht⟩ := hg.run
  refine ⟨fun W tk _ B env σ F H D R p => zS.by (ps_asg pe_w pt hs hw h1) (h.run W tk B env σ F H _ R (p.bindE.imp fun d e1 F1 H1 _ R1 U1 p1 v hv => ?_))⟩
  split at p1
  · rename_i e' hge
    exact ht B e1 e' σ F1 H1 v d _ R1 hv hge fun σ' R' l' k' => p1 σ' F1 H1 (Keep.off hJ l' k') R' Up.refl
  · exact False.elim p1
def xPar (i j : Nat) (mr : M (List Cn)) : MS := fun env => (mr env).bind fun cs e => match cs with
  | [c1, c2] => .ok .nx ((e.set i (some c1)).set j (some c2))
  | _ => .no
theorem ss_par (i j : Nat) {x y : Str} {ea eb : Expr} {mr : M (List Cn)} {px py pt : Pos} {kt k2 pt2} {ios : List (Option Nat)} (hc : X.calm = true) (hN : X.N.Nodup) (ha : SX X [ea, eb] ios mr) (hio : ∀ k i : Nat, ios[k]? ≠ some (some i) := by intro k i; match k with | 0 => exact nofun | 1 => exact nofun | _ + 2 => exact nofun) (hpi : pb[i]? ≠ some true := by decide) (hpj : pb[j]? ≠ some true := by decide)
    (hi : X.N[i]? = some x := by rfl) (hj : X.N[j]? = some y := by rfl) (hij : i ≠ j := by decide) (hx : X.env.scope.names.lookup x = some .local := by rfl) (hy : X.env.scope.names.lookup y = some .local := by rfl)
    (hw : swappedStores [.Tuple [.Name x px, .Name y py] kt pt] (.Tuple [ea, eb] k2 pt2) X.env = pure (some [x, y]) := by rfl)
    (hs : swapsWithSole [.Tuple [.Name x px, .Name y py] kt pt] (.Tuple [ea, eb] k2 pt2) pos.line X.env = pure false := by rfl) :
    SS X pb (.Assign [.Tuple [.Name x px, .Name y py] kt pt] (.Tuple [ea, eb] k2 pt2) pos) (xPar i j mr) := by
  refine ⟨fun W tk _ B env σ F H D R p => zS.by (ps_par hc hN hi hj hij hx hy pa_w hw hs) (ha.run W tk B env σ F H _ R (p.bindC.imp fun cs e1 vs F1 H1 _ l R1 U1 p1 io => ?_))⟩
  match cs, vs, l, R1, p1 with
  | [c1, c2], [v, w], _, R1, p1 => exact ⟨v, w, rfl, p1 _ F1 H1 ((Keep.set i _ hpi).trans (Keep.set j _ hpj)) (Rel.asg (Rel.asg R1 (i + 1)) j) Up.refl⟩
/-- xs[k] = e, xs a name's own list -/
def dIx (n : Nat) : D → Option Nat
  | .int k => ixN n k
  | _ => none
def xSub (j : Nat) (me mi : M D) : MS := fun env => (me env).bind fun d e1 => if (lsOf j e1).isSome = true then (mi e1).bind fun k e2 => match lsOf j e2 with
  | some ds => (match dIx ds.length k with
    | some q => .ok .nx (e2.set j (some (.ls (ds.set q d))))
    | none => .no)
  | none => .no else .no
theorem ss_sub (j : Nat) {x : Str} {p1 p2 : Pos} {ie : Expr} {mi : M D} (hn : PE X (.Name x p1) (tVar j)) (h : SE X e m) (hi : SE X ie mi) (hs : swapsWithSole [.Subscript (.Name x p1) ie p2] e pos.line X.env = pure false := by rfl) (hw : swappedStores [.Subscript (.Name x p1) ie p2] e X.env = pure none := by rfl)
    (h1 : (assignEach [.Subscript (.Name x p1) ie p2] X.env).map (·.2) = [assign (.Subscript (.Name x p1) ie p2) X.env] := by rfl)
    (ha : ∀ v, assign (.Subscript (.Name x p1) ie p2) X.env v = (do
      let ov ← holding [v] (eval (.Name x p1) X.env)
      let iv ← holding [v, ov] (eval ie X.env)
      standAt p2
      holding [v, ov, iv] (setItem ov iv v)
      release [v, ov, iv] []) := by intro _; rfl) : SS X pb (.Assign [.Subscript (.Name x p1) ie p2] e pos) (xSub j m mi) := by
  refine ⟨fun W tk _ B env σ F H D R p => zS.by (ps_asg pe_w (pg_sub hn pe_w set_list ha) hs hw h1) (h.run W tk B env σ F H _ R (p.bindE.imp fun d e1 F1 H1 _ R1 U1 p1 v hv => ?_))⟩
  split at p1
  · rename_i hs1
    obtain ⟨d0, hd0⟩ := Option.isSome_iff_exists.mp hs1
    obtain ⟨q, vs0, g1, g2, _⟩ := R1.ls (lsOf_eq hd0)
    refine ⟨_, g1, hi.run W tk B e1 σ F1 H1 _ R1 (p1.bindE.imp fun k e2 F2 H2 _ R2 U2 p2 iv hiv => ?_)⟩
    split at p2
    · rename_i ds hds
      obtain ⟨q', xs, k1, k2, k3, k4, k5⟩ := R2.ls (lsOf_eq hds)
      rw [g1] at k1
      cases k1
      split at p2
      · rename_i ix hix
        cases hiv with
        | int kk =>
          refine ⟨q, xs, kk, ix, rfl, rfl, k2, by rw [k3.length]; exact hix, ?_⟩
          exact p2 σ F2 _ Keep.refl (R2.set_ls (lsOf_eq hds) g1 (k3.set (dp_mono U2.sm hv))) Up.refl
        | _ => cases hix
      · exact False.elim p2
    · exact False.elim p2
  · exact False.elim p1

/-! ### loops -/
def forGo (g : Tg) (mb : MS) : List D → Env → Out Fl
  | [], env => .ok .nx env
  | d :: ds, env => match g d env with
    | none => .no
    | some e1 => (mb e1).bind fun f e2 => match f with
      | .nx => forGo g mb ds e2
      | .ct => forGo g mb ds e2
      | .bk => .ok .nx e2
      | .ret c => .ok (.ret c) e2
def xFor (mi : M (List D)) (g : Tg) (mb : MS) : MS := fun env => (mi env).bind fun ds e1 => forGo g mb ds e1
theorem ss_for {tg iter : Expr} {body : List Stmt} {mi : M (List D)} {g : Tg} {J : List Nat} {mb : MS} (hc : X.calm = true) (hi : SI X tg iter mi) (hg : SG X tg J g) (hb : SSs X pb body mb) (hJ : ∀ j ∈ J, pb[j]? ≠ some true := by decide)
    (hs : ∀ x, foldedSetIterable iter X.env x = pure x := by intro _; rfl) : SS X pb (.For tg iter body [] pos) (xFor mi g mb) := by
  obtain ⟨t, pt, ht⟩ := hg.run
  refine ⟨fun W tk hp B env σ F H D R p => zS.by (ps_for hp hc pi_w pt pss_w hs) ?_⟩
  refine hi.run W tk B env σ F H _ R (p.bindE.imp fun ds e1 F1 H1 _ R1 U1 p1 Jt hJt => ?_)
  refine ⟨fun i m σ' H' => m = ds.length - i ∧ i ≤ ds.length ∧ ∃ env' F', Keep pb σ σ' ∧ Rel X.K B env' σ' F' H' ∧ Up B F1 F' ∧ PostS X pb B σ F1 W D (forGo g mb (ds.drop i) env'), ⟨ds.length, by simp, Nat.zero_le _, e1, F1, Keep.refl, R1, Up.refl, by rw [List.drop_zero]; exact p1⟩, ?_⟩
  rintro i m σ' H' ⟨rfl, hi', env', F', K', R', U', p'⟩
  have it := hJt i F' H' U'.sm R'.fh
  by_cases hlt : i < ds.length
  · obtain ⟨go, yld⟩ := it.1 hlt
    refine .inr ⟨go, fun σ2 H2 => i + 1 ≤ ds.length ∧ ∃ env' F', Keep pb σ σ2 ∧ Rel X.K B env' σ2 F' H2 ∧ Up B F1 F' ∧ PostS X pb B σ F1 W D (forGo g mb (ds.drop (i + 1)) env'), fun σ2 H2 h => ⟨ds.length - (i + 1), by omega, rfl, h.1, h.2⟩, fun x H2 y => ?_⟩
    obtain ⟨F2, d, gr, hd, hx⟩ := yld x H2 y
    have edrop : ds.drop i = d :: ds.drop (i + 1) := by
      rw [List.drop_eq_getElem_cons hlt]
      have : ds[i] = d := by
        rw [List.getElem?_eq_getElem hlt] at hd
        exact Option.some.inj hd
      rw [this]
    rw [edrop] at p'
    unfold forGo at p'
    have R2 := R'.grow gr
    have U2 : Up B F1 F2 := U'.trans (gr.up R'.bh)
    split at p'
    · exact False.elim p'
    · rename_i e2 hge
      refine ht B env' e2 σ' F2 H2 x d _ R2 hx hge fun σ2 R3 l3 k3 => ?_
      have K3 : Keep pb σ σ2 := K'.trans (Keep.off hJ l3 k3)
      refine hb.run W tk hp B e2 σ2 F2 H2 _ R3 ?_
      cases q : mb e2 with
      | no => rw [q] at p'; exact p'
      | err xx e => rw [q] at p'; exact PostS.on K3 U2 (o := .err xx e) p'
      | ok f e =>
        rw [q] at p'
        cases f with
        | nx => exact fun σ4 F4 H4 K4 R4 U4 => ⟨hlt, e, F4, K3.trans K4, R4, U2.trans U4, p'⟩
        | ct => exact fun σ4 F4 H4 K4 R4 U4 => ⟨hlt, e, F4, K3.trans K4, R4, U2.trans U4, p'⟩
        | bk => exact fun σ4 F4 H4 K4 R4 U4 => p' σ4 F4 H4 (K3.trans K4) R4 (U2.trans U4)
        | ret c => exact fun v σ4 F4 H4 K4 R4 U4 => p' v σ4 F4 H4 (K3.trans K4) R4 (U2.trans U4)
  · have ei : i = ds.length := by omega
    rw [ei, List.drop_length] at p'
    exact .inl ⟨it.2 ei, p' σ' F' H' K' R' U'⟩
def whGo (mc : M Bool) (mb : MS) : Nat → Env → Out Fl
  | 0, _ => .no
  | n + 1, env => (mc env).bind fun b e1 => if b = true then (mb e1).bind fun f e2 => (match f with
      | .nx => whGo mc mb n e2
      | .ct => whGo mc mb n e2
      | .bk => .ok .nx e2
      | .ret c => .ok (.ret c) e2) else .ok .nx e1
theorem ss_while (n : Nat) {c : Expr} {body : List Stmt} {mb : MS} (hc : ST X c mc) (hb : SSs X pb body mb) : SS X pb (.While c body [] pos) (whGo mc mb n) := by
  refine ⟨fun W tk hp B env σ F H D R p => zS.by (ps_while hp pt_w pss_w) ?_⟩
  refine ⟨fun m σ' H' => ∃ env' F', Keep pb σ σ' ∧ Rel X.K B env' σ' F' H' ∧ Up B F F' ∧ PostS X pb B σ F W D (whGo mc mb m env'), ⟨n, env, F, Keep.refl, R, Up.refl, p⟩, ?_⟩
  rintro m σ' H' ⟨env', F', K', R', U', p'⟩
  cases m with
  | zero => exact False.elim p'
  | succ m =>
    unfold whGo at p'
    refine hc.run W tk B env' σ' F' H' _ R' ((PostS.on K' U' p').bindE.imp fun k e1 F1 H1 hk R1 U1 p1 => ?_)
    rw [hk] at p'
    cases k with
    | false =>
      rw [if_neg Bool.false_ne_true]
      have p2 : PostS X pb B σ F W D (.ok .nx e1) := p'
      exact p2 σ' F1 H1 K' R1 (U'.trans U1)
    | true =>
      rw [if_pos rfl]
      have p2 : PostS X pb B σ F W D ((mb e1).bind fun f e2 => (match f with
        | .nx => whGo mc mb m e2
        | .ct => whGo mc mb m e2
        | .bk => .ok .nx e2
        | .ret c => .ok (.ret c) e2)) := p'
      refine ⟨fun σ2 H2 => ∃ env' F', Keep pb σ σ2 ∧ Rel X.K B env' σ2 F' H2 ∧ Up B F F' ∧ PostS X pb B σ F W D (whGo mc mb m env'), fun σ2 H2 h => ⟨m, Nat.lt_succ_self m, h⟩, ?_⟩
      refine hb.run W tk hp B e1 σ' F1 H1 _ R1 ?_
      cases q : mb e1 with
      | no => rw [q] at p2; exact p2
      | err xx e => rw [q] at p2; exact PostS.on K' (U'.trans U1) (o := .err xx e) p2
      | ok f e =>
        rw [q] at p2
        cases f with
        | nx => exact fun σ4 F4 H4 K4 R4 U4 => ⟨e, F4, K'.trans K4, R4, (U'.trans U1).trans U4, p2⟩
        | ct => exact fun σ4 F4 H4 K4 R4 U4 => ⟨e, F4, K'.trans K4, R4, (U'.trans U1).trans U4, p2⟩
        | bk => exact fun σ4 F4 H4 K4 R4 U4 => p2 σ4 F4 H4 (K'.trans K4) R4 ((U'.trans U1).trans U4)
        | ret c => exact fun v σ4 F4 H4 K4 R4 U4 => p2 v σ4 F4 H4 (K'.trans K4) R4 ((U'.trans U1).trans U4)

/-! ### raise, try -/
theorem pmk_own0 {C : Addr} {bmB : List Value} {Bn newId initId : String} {x : Str} {p : Pos} (Fb : ExcBaseFacts Bn newId initId bmB) (q : PySem.W.excIn X.K C bmB newId = true) (gC : X.mg x = some (.ref C)) (kC : PySem.W.keepIn X.K (.ref C) = true) (r : Raises X (.ref C)) (hg : Gl X x)
    (hdb : (x == ("__debug__" : Str)) = false := by decide) : PMk X (.Call (.Name x p) [] [] pos) (fun _ H Q => Q (.ref C) none H) := by
  intro pins s σ H Q I h
  refine wpAny_Call_Name_kw (ld_glob I hg gC ?_ hdb)
  refine PySem.W.callWith_K0 I.kIn kC ?_
  obtain ⟨bm, N, nm, qn, bs, hdct, sn, sub, ab, col, dd, k0, k1, k2, k3, k5, mN, hC, hN, hni, T⟩ := exc_obj I.kIn q
  refine wpAny_call_exc_subT Fb T hC hN hni (fun h' e hm => ?_) (Nat.zero_le _)
  exact mk_of I hm r h (I.hok.gone hm.new)
end
end Dl

/-! Dl7: raise, try, lists unpacked; a def by its body. Own work. -/
namespace Dl
open PySem PySem.Spec PyProof.Rows L2

/-! ### a list unpacked -/
def gUl (h : List D → Env → Option Env) : Tg := fun d env => match d with
  | .list ds => h ds env
  | _ => none
theorem sg_unl {X : Cx} {es : List Expr} {J : List Nat} {h : List D → Env → Option Env} {pos : Pos} {kk : Nat} {n : Nat} (hc : X.calm = true) (h1 : SGs X es J h) (hn : (assignEach es X.env).length = n := by rfl) (hst : (assignEach es X.env).findIdx? (·.1) = none := by rfl) (hlen : ∀ ds env env', h ds env = some env' → ds.length = n := by
      intro ds env env' q; match ds, q with | [_, _], _ => rfl | [_, _, _], _ => rfl | [_, _, _, _], _ => rfl) : SG X (.Tuple es kk pos) J (gUl h) := by
  obtain ⟨t, pt, ht⟩ := h1.run
  refine ⟨gUnl X.K n t, pg_unl hc pt hn hst, fun B env env' σ F H v d Q R hv hg q => ?_⟩
  cases hv with
  | lst a1 a2 => exact ⟨_, _, rfl, .inl (.inl (R.fh _ _ a1)), a2.length.trans (hlen _ _ _ hg), ht B env env' σ F H _ _ Q R a2 hg q⟩
  | _ => cases hg

/-! ### raise -/
/-- an own class, made without arguments, under ValueError -/
structure ExcV (K : PySem.W.Frag) (C : Addr) : Prop where
  x : PySem.W.excIn K C [.type "ValueError", .type "Exception", .type "BaseException", .type "object"] "ValueError.__new__" = true
  k : PySem.W.keepIn K (.ref C) = true
  b : PySem.W.subIn K (.ref C) (.type "BaseException") = some true
  t : PySem.W.typeIn K (.ref C) = some (.type "type")
def xRaise (x : Xc) : MS := fun env => .err x env
theorem ss_raise0 {X : Cx} {pb : List Bool} {C : Addr} {x : Str} {p pos pos' : Pos} (hc : X.calm = true) (E : ExcV X.K C) (gC : X.mg x = some (.ref C)) (hg : Gl X x) (hdb : (x == ("__debug__" : Str)) = false := by decide) :
    SS X pb (.Raise (some (.Call (.Name x p) [] [] pos)) none pos') (xRaise (.plain x)) :=
  ⟨fun W tk hp B env σ F H D R p => zS.by (ps_raise hc tk (pmk_own0 PySem.F.excBase_ValueError E.x gC E.k (raises_own E.b E.t) hg hdb)) (p σ F H (.ref C) none Keep.refl R Up.refl ⟨gC, rfl⟩)⟩

/-! ### try: body, except x as n: suite -/
def finE (i : Nat) : Out Fl → Out Fl
  | .ok f e => .ok f (e.set i none)
  | _ => .no
def xTry (ct : Xc → Option Bool) (i : Nat) (mb : MS) (ms : Addr → MS) : MS := fun env => match mb env with
  | .err x e => (match ct x with
    | some true => finE i (ms 0 (e.set i (some (.raw (.ref 0)))))
    | some false => .err x e
    | none => .no)
  | o => o
theorem ss_try {X : Cx} {pb : List Bool} {x n : Str} {c : Value} {body suite : List Stmt} {b₀ : Stmt} {np pos pos' : Pos} {mb : MS} {ms : Addr → MS} (i : Nat) (ct : Xc → Option Bool) (hs : X.stack = X.env :: X.outer) (hf : X.env.frame = some X.env.locals) (hN : X.N.Nodup) (hc : Names X x c)
    (hb : ∀ (pn : List (Addr × Obj)) (xe : Value → Shared → Prop), SSs (X.tr pn xe) pb body mb)
    (hct : ∀ (F H : Hp) (xc : Xc) (cls : Value) (dd : Option Addr) (b : Bool), ct xc = some b → IsX X.K X.mg F H xc cls dd → PySem.W.exmOne X.K cls c = some b)
    (hsu : ∀ (a : Addr) (oe : Obj) (cls : Value) (d : Option Addr) (pn : List (Addr × Obj)) (F H : Hp) (xc : Xc), ct xc = some true → IsX X.K X.mg F H xc cls d → Zc cls d oe → (∃ vs, oe.data = .fields vs) → SSs (X.suite a ((a, oe) :: pn)) pb (b₀ :: suite) (ms a))
    (hinv : ∀ (a : Addr) (e : Env), finE i (ms a (e.set i (some (.raw (.ref a))))) = finE i (ms 0 (e.set i (some (.raw (.ref 0))))))
    (hp : pb[i]? ≠ some true := by decide) (hi : X.N[i]? = some n := by rfl) (hln : X.env.kindOf n = some .local := by rfl) :
    SS X pb (.Try body [.ExceptHandler (some (.Name x np)) (some n) (b₀ :: suite) pos'] [] [] pos) (xTry ct i mb ms) := by
  refine ⟨fun W tk _ B env σ F H D R p => zS.by (ps_try_as (tb := fun W D σ H => ∀ (pn : List (Addr × Obj)) (xe : Value → Shared → Prop), Takes (X.tr pn xe) W → PassesOwn (model X.prog X.w) X.A X.env xe → zSs (X.tr pn xe) body D σ H)
    (ts := fun a cls d D σ H => ∀ (oe : Obj) (pn : List (Addr × Obj)), Zc cls d oe → (∃ vs, oe.data = .fields vs) → zSs (X.suite a ((a, oe) :: pn)) (b₀ :: suite) D σ H) hs hf hN hi hln hc tk
    (fun W pn xe tk' hp' => ⟨fun pins s σ H D I h => h pn xe tk' hp' pins s I⟩) (fun a oe cls d pn hz hv => ⟨fun pins s σ H D I h => h oe pn hz hv pins s I⟩)) ?_⟩
  intro pn xe tk' hp'
  refine (hb pn xe).run _ tk' hp' B env σ F H D R ?_
  unfold xTry at p
  cases q : mb env with
  | no => rw [q] at p; exact p
  | ok f e =>
    rw [q] at p
    cases f <;> exact p
  | err xc e =>
    rw [q] at p
    intro σ' F' H' cls dd K' R' U' hx
    have hx' : IsX X.K X.mg F' H' xc cls dd := hx
    have R'' : Rel X.K B e σ' F' H' := R'
    dsimp only at p
    cases hcx : ct xc with
    | none => rw [hcx] at p; exact False.elim p
    | some b =>
      rw [hcx] at p
      refine ⟨b, hct F' H' xc cls dd b hcx hx', fun hb1 a ha oe pn2 hz hv => ?_, fun hb1 => ?_⟩
      · subst hb1
        refine (hsu a oe cls dd pn2 F' H' xc hcx hx' hz hv).run (fun _ _ _ _ => False) takes0 PassesOwn.never B (e.set i (some (.raw (.ref a)))) _ F' H' _ (Rel.asg (Rel.frontRaw R'') i) ?_
        have p2 : PostS X pb B σ F W D (finE i (ms a (e.set i (some (.raw (.ref a)))))) := by rw [hinv a e]; exact p
        have K2 : Keep pb σ (σ'.set i (some (.ref a))) := K'.trans (Keep.set i _ hp)
        cases q2 : ms a (e.set i (some (.raw (.ref a)))) with
        | no => rw [q2] at p2; exact False.elim p2
        | err xx ee => rw [q2] at p2; exact False.elim p2
        | ok f e2 =>
          rw [q2] at p2
          cases f with
          | nx => exact fun s4 F4 H4 K4 R4 U4 => p2 _ F4 H4 ((K2.trans K4).trans (Keep.set i _ hp)) (Rel.forgetv R4 i none) (U'.trans U4)
          | bk => exact fun s4 F4 H4 K4 R4 U4 => p2 _ F4 H4 ((K2.trans K4).trans (Keep.set i _ hp)) (Rel.forgetv R4 i none) (U'.trans U4)
          | ct => exact fun s4 F4 H4 K4 R4 U4 => p2 _ F4 H4 ((K2.trans K4).trans (Keep.set i _ hp)) (Rel.forgetv R4 i none) (U'.trans U4)
          | ret c => exact fun v s4 F4 H4 K4 R4 U4 => p2 v _ F4 H4 ((K2.trans K4).trans (Keep.set i none hp)) (Rel.forgetv R4 (i + 1) none) (U'.trans U4)
      · subst hb1
        exact p σ' F' H' cls dd K' R'' U' hx'
/-- in the suite: isinstance(n, T) -/
def xIsE (i a : Nat) (b : Bool) : M D := fun env => match env[i]? with
  | some (some (.raw (.ref a'))) => if a' = a then .ok (.bool b) env else .no
  | _ => .no
theorem se_isE {X : Cx} {a DC : Addr} {oe : Obj} {pn : List (Addr × Obj)} {cls : Value} {dd : Option Addr} {ce : Expr} {w : V} {cv : Value} {b : Bool} {n : Str} {p1 p2 pos : Pos} (i : Nat) (C : ExcC X.K DC) (hcls : cls = .ref DC) (hdd : dd = none) (hz : Zc cls dd oe) (hf : ∃ vs, oe.data = .fields vs) (hn : PE (X.suite a ((a, oe) :: pn)) (.Name n p1) (tVar i)) (hw : PE (X.suite a ((a, oe) :: pn)) ce (tC w)) (hcv : ∀ u, RelV w u → u = cv)
    (hkit : PySem.W.kitOne X.K (.ref DC) cv = some b) (hg : Gl (X.suite a ((a, oe) :: pn)) "isinstance") (hm : X.mg "isinstance" = none) (he : starEach [.Name n p1, ce] (X.suite a ((a, oe) :: pn)).env = (false, eval (.Name n p1) (X.suite a ((a, oe) :: pn)).env) :: starEach [ce] (X.suite a ((a, oe) :: pn)).env := by rfl)
    (he2 : starEach [ce] (X.suite a ((a, oe) :: pn)).env = (false, eval ce (X.suite a ((a, oe) :: pn)).env) :: starEach [] (X.suite a ((a, oe) :: pn)).env := by rfl) (hpl : (backTo pos (starEach [ce] (X.suite a ((a, oe) :: pn)).env)).any (·.1) = false := by rfl) :
    SE (X.suite a ((a, oe) :: pn)) (.Call (.Name "isinstance" p2) [.Name n p1, ce] [] pos) (xIsE i a b) := by
  subst hcls hdd
  refine ⟨fun W tk B env σ F H Q R p => zE.by (pe_callB (call_isE C hz hf) hg hm boot_isinstance (pa_cons hn (pa_cons hw pa_nil he2) he) (by decide) (by decide) he hpl) ?_⟩
  unfold xIsE at p
  split at p
  · rename_i a' hraw
    split at p
    · rename_i e
      subst e
      exact ⟨.ref a', R.raw hraw, w, cv, b, rfl, hcv, hkit, p F H R Up.refl _ (.bl b)⟩
    · exact False.elim p
  · exact False.elim p

/-! ### a def -/
def endE : List Bool → Env → Env
  | [], _ => []
  | true :: bs, x :: e => x :: endE bs e
  | false :: bs, _ :: e => none :: endE bs e
  | _ :: bs, [] => none :: endE bs []
theorem OwnS.endE {K : PySem.W.Frag} {F H : Hp} : ∀ (pb : List Bool) {σ : St} {vs : List V} {e : Env} {fp : List Addr}, OwnS K F H σ e fp → vs.length = pb.length → pb.length ≤ σ.length → (∀ k : Nat, pb[k]? = some true → σ[k]? = (vs.map some)[k]?) →
    ∃ fr, List.Sublist fr fp ∧ OwnS K F H (vs.map some) (Dl.endE pb e) fr
  | [], σ, [], e, fp, o, _, _, _ => ⟨[], List.nil_sublist _, by cases e <;> exact .nil⟩
  | b :: bs, [], vs, _, _, _, _, l2, _ => by simp at l2
  | true :: bs, x :: σ, v :: vs, _, _, .no q, l1, l2, h => by
    obtain ⟨fr, h1, h2⟩ := OwnS.endE bs q (by simpa using l1) (by simpa using l2) (fun k hk => by simpa using h (k + 1) (by simpa using hk))
    exact ⟨fr, h1, .no h2⟩
  | true :: bs, some _ :: σ, v :: vs, _, _, .yes g q, l1, l2, h => by
    obtain ⟨fr, h1, h2⟩ := OwnS.endE bs q (by simpa using l1) (by simpa using l2) (fun k hk => by simpa using h (k + 1) (by simpa using hk))
    have e0 := h 0 rfl
    simp at e0
    subst e0
    exact ⟨_, List.Sublist.append_left h1 _, .yes g h2⟩
  | false :: bs, x :: σ, v :: vs, _, _, .no q, l1, l2, h => by
    obtain ⟨fr, h1, h2⟩ := OwnS.endE bs q (by simpa using l1) (by simpa using l2) (fun k hk => by simpa using h (k + 1) (by simpa using hk))
    exact ⟨fr, h1, .no h2⟩
  | false :: bs, some _ :: σ, v :: vs, _, _, .yes g q, l1, l2, h => by
    obtain ⟨fr, h1, h2⟩ := OwnS.endE bs q (by simpa using l1) (by simpa using l2) (fun k hk => by simpa using h (k + 1) (by simpa using hk))
    exact ⟨fr, h1.trans (List.sublist_append_right _ _), .no h2⟩
section
variable {K : PySem.W.Frag} {B F H : Hp} {pb : List Bool} {σ : St} {vs : List V} {e : Env} {c : Cn} {v : V}
theorem Rel.endE (R : Rel K B e σ F H) (l1 : vs.length = pb.length) (l2 : pb.length ≤ σ.length) (h : ∀ k : Nat, pb[k]? = some true → σ[k]? = (vs.map some)[k]?) : Rel K B (Dl.endE pb e) (vs.map some) F H := by
  obtain ⟨fp, o, nd, z⟩ := R.own
  obtain ⟨fr, s, q⟩ := OwnS.endE pb o l1 l2 h
  exact ⟨⟨fr, q, List.Nodup.sublist s nd, fun p hp => z p (s.subset hp)⟩, R.fh, R.bh⟩
theorem Rel.endEc (R : Rel K B (some c :: e) (some v :: σ) F H) (l1 : vs.length = pb.length) (l2 : pb.length ≤ σ.length) (h : ∀ k : Nat, pb[k]? = some true → σ[k]? = (vs.map some)[k]?) : Rel K B (some c :: Dl.endE pb e) (some v :: vs.map some) F H := by
  obtain ⟨fp, o, nd, z⟩ := R.own
  cases o with
  | yes g o =>
    obtain ⟨fr, s, q⟩ := OwnS.endE pb o l1 l2 h
    exact ⟨⟨_, .yes g q, List.Nodup.sublist (List.Sublist.append_left s _) nd, fun p hp => z p ((List.Sublist.append_left s _).subset hp)⟩, R.fh, R.bh⟩
theorem OwnS.nones {σ : St} {env : Env} {fp : List Addr} (q : OwnS K F H σ env fp) : ∀ n : Nat, OwnS K F H (σ ++ List.replicate n none) (env ++ List.replicate n none) fp := by
  intro n
  have o : OwnS K F H (List.replicate n none) (List.replicate n none) [] := by
    induction n with
    | zero => exact .nil
    | succ n ih => exact .no ih
  have := q.append o
  rw [List.append_nil] at this
  exact this
end
def runB (pb : List Bool) (extra : Nat) (m : MS) (env : Env) : Out Cn := match m (env ++ List.replicate extra none) with
  | .ok (.ret c) e => .ok c (endE pb e)
  | .ok .nx e => .ok (.val .none) (endE pb e)
  | .err x e => .err x (endE pb e)
  | _ => .no
/-- a def that keeps the promise g -/
structure Pr (P : Program) (w : World) (K : PySem.W.Frag) (mg : Str → Option Value) (base : Heap) (k : Nat) (x : Str) (st : Stmt) (ps : List Str) (g : Env → Out Cn) : Prop where
  ex : ∃ (f : Addr) (fd : FuncData), FnOk P w K mg base (L2.CX P w) k f fd ps (spD K mg ps.length g) ∧ Fun K x x st f fd ∧ mg x = some (.ref f) ∧ Binds K fd ps []
/-- a def of the text -/
structure Df (K : PySem.W.Frag) (mg : Str → Option Value) (x : Str) (st : Stmt) (ps : List Str) : Prop where
  ex : ∃ (f : Addr) (fd : FuncData), Fun K x x st f fd ∧ mg x = some (.ref f) ∧ Binds K fd ps []
section
variable {P : Program} {w : World} {K : PySem.W.Frag} {mg : Str → Option Value} {base : Heap} {x : Str} {st : Stmt} {N ps : List Str} {k : Nat} {pb : List Bool} {m : MS} {g : Env → Out Cn}
theorem pr_of (T : Df K mg x st ps) (S : FnScope N ps (defScope st)) (hpb : pb.length = ps.length) (hbody : ∀ (f : Addr) (cdv : Value) (A : Around) (outer : List PySem.Env) (s : Shared) (H : Hp) (E : XK), Room k (A.deeper (envOfC x (defScope st) s.heap.objs.size f cdv)) →
      SSs (cxOf (L2.CX P w) P w K mg base N x (defScope st) f cdv A outer s H E) pb (defBody st) m) (hg : ∀ env : Env, env.length = ps.length → g env = .no ∨ runB pb (N.length - ps.length) m env = g env) : Pr P w K mg base (k + 1) x st ps g := by
  obtain ⟨f, fd, Fu, gm, b⟩ := T.ex
  refine ⟨f, fd, Fu.okX S (fun vs H Q E h => h.1) fun cdv A outer s H vs Q E hr hsp => ?_, Fu, gm, b⟩
  obtain ⟨l, B, F, env, R, hq⟩ := hsp
  have lenv : env.length = ps.length := by
    have := R.length
    rw [List.length_map] at this
    omega
  refine ⟨_, pss_w, (hbody f cdv A outer s H E hr).run (fun cls d _ H => E cls d H) (takes_of rfl rfl rfl rfl) (passes_of rfl) B (env ++ List.replicate (N.length - ps.length) none) _ F H _ ?_ ?_⟩
  · obtain ⟨fp, o, nd, z⟩ := R.own
    refine ⟨⟨fp, ?_, nd, z⟩, R.fh, R.bh⟩
    unfold L2.start
    rw [l]
    exact o.nones _
  · have lst : pb.length ≤ (L2.start N vs).length := by
      unfold L2.start
      rw [List.length_append, List.length_map]
      omega
    have keep : ∀ {σ' : St}, Keep pb (L2.start N vs) σ' → pb.length ≤ σ'.length ∧ ∀ k : Nat, pb[k]? = some true → σ'[k]? = (vs.map some)[k]? := fun {σ'} K' => ⟨by rw [K'.len]; exact lst, fun k hk => by
      rw [K'.is k hk]
      unfold L2.start
      have : k < pb.length := (List.getElem?_eq_some_iff.mp hk).1
      exact List.getElem?_append_left (by rw [List.length_map]; omega)⟩
    have l1 : vs.length = pb.length := by omega
    rcases hg env lenv with hno | hrun
    · rw [hno] at hq; exact False.elim hq
    · rw [← hrun] at hq
      unfold runB at hq
      cases q : m (env ++ List.replicate (N.length - ps.length) none) with
      | no => rw [q] at hq; exact False.elim hq
      | err xc e =>
        rw [q] at hq
        exact fun σ' F' H' cls dd K' R' U' hx => hq F' H' cls dd (Rel.endE R' l1 (keep K').1 (keep K').2) U' hx
      | ok fl e =>
        rw [q] at hq
        cases fl with
        | nx => exact fun σ' F' H' K' R' U' => hq .non F' H' (Rel.front (Rel.endE R' l1 (keep K').1 (keep K').2) .non) U'
        | ret c => exact fun v σ' F' H' K' R' U' => hq v F' H' (Rel.endEc R' l1 (keep K').1 (keep K').2) U'
        | bk => exact False.elim hq
        | ct => exact False.elim hq
theorem Pr.mono (G : Pr P w K mg base k x st ps g) {j : Nat} (h : k ≤ j) : Pr P w K mg base j x st ps g := by
  obtain ⟨f, fd, F, Fu, gm, b⟩ := G.ex
  exact ⟨f, fd, F.mono h, Fu, gm, b⟩
/-- a promise for fewer -/
theorem Pr.less (G : Pr P w K mg base k x st ps g) {g' : Env → Out Cn} (h : ∀ env, g' env = .no ∨ g env = g' env) : Pr P w K mg base k x st ps g' := by
  obtain ⟨f, fd, F, Fu, gm, b⟩ := G.ex
  refine ⟨f, fd, F.imp fun vs H Q E hs => ?_, Fu, gm, b⟩
  obtain ⟨l, B, F0, env, R, hq⟩ := hs
  refine ⟨l, B, F0, env, R, ?_⟩
  rcases h env with e | e
  · rw [e] at hq; exact False.elim hq
  · rw [e]; exact hq
end
section
variable {X : Cx} {x : Str} {st : Stmt} {ps : List Str} {k j : Nat} {g : Env → Out Cn} {e : Expr} {es : List Expr} {ios : List (Option Nat)} {mr : M (List Cn)} {p1 pos : Pos}
theorem sn_callP (G : Pr X.prog X.w X.K X.mg X.base k x st ps g) (hr : Room j X.A) (hkj : k ≤ j) (hg : Gl X x) (ha : SX X (e :: es) ios mr) (hdb : (x == ("__debug__" : Str)) = false := by decide)
    (he : starEach (e :: es) X.env = (false, eval e X.env) :: starEach es X.env := by rfl) (hpl : (backTo pos (starEach es X.env)).any (·.1) = false := by rfl) {np : Nat} (hnp : ps.length = np := by rfl) : SN X (.Call (.Name x p1) (e :: es) [] pos) (xCall np g ios mr) := by
  subst hnp
  obtain ⟨f, fd, F, Fu, gm, b⟩ := G.ex
  exact sn_call (F.mono hkj) hr hg gm Fu.kp b ha hdb he hpl
/-- keywords -/
theorem sn_callPK {ks : List Str} {n : Nat} {perm : {α : Type} → List α → List α → List α} {ma mk : M (List D)} {kws : List Keyword} (G : Pr X.prog X.w X.K X.mg X.base k x st ps g) (hr : Room j X.A) (hkj : k ≤ j) (hg : Gl X x)
    (hb : ∀ (kV doc pm : Value) (an : Option Addr) (cdv ct : Value) (us ws : List Value), us.length = n → ws.length = ks.length → bindArgs (PySem.W.fnOf x x (defArgs st) (defBody st) (defScope st) .none kV doc pm an cdv ct) ⟨us, ks.zip ws⟩ = pure (ps.zip (perm us ws))) (hp : PermOk perm)
    (ha : SA X (e :: es) ma) (hkw : SK X kws mk) (hall : (backToKw pos (keywordEach kws X.env)).all (·.1.isSome) = true := by rfl) (hks : (backToKw pos (keywordEach kws X.env)).filterMap (·.1) = ks := by rfl)
    (hdb : (x == ("__debug__" : Str)) = false := by decide) (he : starEach (e :: es) X.env = (false, eval e X.env) :: starEach es X.env := by rfl)
    (hpl : ((backTo pos (starEach (e :: es) X.env)).any (·.1) || (backToKw pos (keywordEach kws X.env)).any (·.1.isNone)) = false := by rfl) {np nk : Nat} (hnp : ps.length = np := by rfl) (hnk : ks.length = nk := by rfl) :
    SN X (.Call (.Name x p1) (e :: es) kws pos) (xCallK np n nk g perm ma mk) := by
  subst hnp hnk
  obtain ⟨f, fd, F, Fu, gm, b⟩ := G.ex
  obtain ⟨oc, od, kV, doc, pm, an, cdv, ct, osl, rfl, lk, hcd⟩ := Fu.ex
  exact sn_callK (F.mono hkj) hr hg gm Fu.kp ⟨fun s us ws _ l1 l2 => .of_eq (hb kV doc pm an cdv ct us ws l1 l2), fun r1 r2 => hp _ _ _ _ _ r1 r2⟩ hp ha hkw hall hks hdb he hpl
theorem sn_callPK0 {ks : List Str} {perm : {α : Type} → List α → List α → List α} {mk : M (List D)} {kws : List Keyword} (G : Pr X.prog X.w X.K X.mg X.base k x st ps g) (hr : Room j X.A) (hkj : k ≤ j) (hg : Gl X x)
    (hb : ∀ (kV doc pm : Value) (an : Option Addr) (cdv ct : Value) (us ws : List Value), us.length = 0 → ws.length = ks.length → bindArgs (PySem.W.fnOf x x (defArgs st) (defBody st) (defScope st) .none kV doc pm an cdv ct) ⟨us, ks.zip ws⟩ = pure (ps.zip (perm us ws))) (hp : PermOk perm)
    (hkw : SK X kws mk) (hall : (backToKw pos (keywordEach kws X.env)).all (·.1.isSome) = true := by rfl) (hks : (backToKw pos (keywordEach kws X.env)).filterMap (·.1) = ks := by rfl)
    (hdb : (x == ("__debug__" : Str)) = false := by decide)
    (hpl : ((backTo pos (starEach [] X.env)).any (·.1) || (backToKw pos (keywordEach kws X.env)).any (·.1.isNone)) = false := by rfl) {np nk : Nat} (hnp : ps.length = np := by rfl) (hnk : ks.length = nk := by rfl) :
    SN X (.Call (.Name x p1) [] kws pos) (xCallK np 0 nk g perm xNil mk) := by
  subst hnp hnk
  obtain ⟨f, fd, F, Fu, gm, b⟩ := G.ex
  obtain ⟨oc, od, kV, doc, pm, an, cdv, ct, osl, rfl, lk, hcd⟩ := Fu.ex
  exact sn_callK0 (F.mono hkj) hr hg gm Fu.kp ⟨fun s us ws _ l1 l2 => .of_eq (hb kV doc pm an cdv ct us ws l1 l2), fun r1 r2 => hp _ _ _ _ _ r1 r2⟩ hp hkw hall hks hdb hpl
end
end Dl

/-! Dl8: operators and builtins over data. Own work. -/
namespace Dl
open PySem PySem.Spec PyProof.Rows L2

section
variable {X : Cx} {K : PySem.W.Frag}
theorem dpb_val {F H : Hp} {v : V} {d : D} (h : Dp K F v d) : DpB K F H v d := .val h
/-! ### ints -/
def dI (f : Int → Int → Option D) : D → D → Option D
  | .int i, .int j => f i j
  | _, _ => none
theorem rop_int0 {g : Int → Int → V} {f : Int → Int → D} (h : ∀ (F : Hp) (i j : Int), Dp K F (g i j) (f i j)) : ROp K (rI0 g) (dI fun i j => some (f i j)) := by
  intro x y z e F H v1 v2 Q s h1 h2 q
  match x, y, e with
  | .int i, .int j, e =>
    cases e
    exact ⟨i, j, h1.int, h2.int, q _ F H (Grow.refl s) (h F i j)⟩
theorem rop_int {C : Int → Int → Prop} {g : Int → Int → V} {f : Int → Int → Option D} (h : ∀ (F : Hp) (i j : Int) (z : D), f i j = some z → C i j ∧ Dp K F (g i j) z) : ROp K (rI C g) (dI f) := by
  intro x y z e F H v1 v2 Q s h1 h2 q
  match x, y, e with
  | .int i, .int j, e => exact ⟨i, j, h1.int, h2.int, (h F i j z e).1, q _ F H (Grow.refl s) (h F i j z e).2⟩
def dSub : D → D → Option D := dI fun i j => some (.int (i - j))
theorem rop_sub : ROp K (rI0 fun i j => .int (i - j)) dSub := rop_int0 fun _ _ _ => .int _
def dMod : D → D → Option D := dI fun i j => if 0 < j then some (.int (i % j)) else none
theorem rop_mod : ROp K (rI (fun _ j => 0 < j) fun i j => .int (i % j)) dMod := rop_int fun F i j z e => by
  split at e
  · cases e; exact ⟨by assumption, .int _⟩
  · cases e
/-- yes or no by a choice that nothing unfolds -/
noncomputable def cB (p : Prop) : Bool := @decide p (Classical.propDecidable p)
theorem cB_of {p : Prop} (h : cB p = true) : p := @of_decide_eq_true p (Classical.propDecidable p) h
theorem cB_t {p : Prop} (h : p) : cB p = true := @decide_eq_true p (Classical.propDecidable p) h
noncomputable def dFdv : D → D → Option D := dI fun i j => if cB (0 < j ∧ j.natAbs.log2 < 9000) = true then some (.int (i / j)) else none
theorem rop_fdv : ROp K (rI CDivW fun i j => .int (i / j)) dFdv := rop_int fun F i j z e => by
  split at e
  · rename_i hc
    cases e; exact ⟨cB_of hc, .int _⟩
  · cases e
noncomputable def dPow : D → D → Option D := dI fun i j => if cB (0 ≤ j ∧ j ≤ 1000000 ∧ i.natAbs < 2 ^ 64) = true then some (.int (i ^ j.toNat)) else none
theorem rop_pow : ROp K (rI CPow fun i j => .int (i ^ j.toNat)) dPow := rop_int fun F i j z e => by
  split at e
  · rename_i hc
    cases e; exact ⟨cB_of hc, .int _⟩
  · cases e
def dLt : D → D → Option D := dI fun i j => some (.bool (decide (i < j)))
def dLe : D → D → Option D := dI fun i j => some (.bool (decide (i ≤ j)))
def dGt : D → D → Option D := dI fun i j => some (.bool (decide (j < i)))
def dGe : D → D → Option D := dI fun i j => some (.bool (decide (j ≤ i)))
theorem rop_lt : ROp K (rI0 fun i j => .bl (decide (i < j))) dLt := rop_int0 fun _ _ _ => .bl _
theorem rop_le : ROp K (rI0 fun i j => .bl (decide (i ≤ j))) dLe := rop_int0 fun _ _ _ => .bl _
theorem rop_gt : ROp K (rI0 fun i j => .bl (decide (j < i))) dGt := rop_int0 fun _ _ _ => .bl _
theorem rop_ge : ROp K (rI0 fun i j => .bl (decide (j ≤ i))) dGe := rop_int0 fun _ _ _ => .bl _
theorem ropb_int0 {g : Int → Int → Bool} : ROpB K (rI0 fun i j => .bl (g i j)) (dI fun i j => some (.bool (g i j))) := by
  intro x y b e F H v1 v2 Q s h1 h2 q
  match x, y, e with
  | .int i, .int j, e =>
    have e' : g i j = b := by
      have := Option.some.inj e
      injection this
    subst e'
    exact ⟨i, j, h1.int, h2.int, q⟩
theorem ropb_lt : ROpB K (rI0 fun i j => .bl (decide (i < j))) dLt := ropb_int0
theorem ropb_le : ROpB K (rI0 fun i j => .bl (decide (i ≤ j))) dLe := ropb_int0
theorem ropb_gt : ROpB K (rI0 fun i j => .bl (decide (j < i))) dGt := ropb_int0
theorem ropb_ge : ROpB K (rI0 fun i j => .bl (decide (j ≤ i))) dGe := ropb_int0
def dNeg : D → Option D
  | .int i => some (.int (-i))
  | _ => none
theorem run_neg : RUn K (rU fun i => .int (-i)) dNeg := by
  intro x z e F H v Q s h q
  match x, e with
  | .int i, e =>
    cases e
    exact ⟨i, h.int, q _ F H (Grow.refl s) (.int _)⟩

/-! ### + -/
def rAddA (K : PySem.W.Frag) : R2 := fun x y H Q => rI0 (fun i j => .int (i + j)) x y H Q ∨ (∃ i j, x = .str i ∧ y = .str j ∧ i.length + j.length ≤ sizeLine ∧ Q (.str (i ++ j)) H) ∨ rCat x y H Q ∨ rCatA K x y H Q
theorem op_addA : OpR X (binaryOp .Add) (rAddA X.K) := op_add.or (op_add_str.or (op_cat.or op_catA))
def dAdd : D → D → Option D
  | .int i, .int j => some (.int (i + j))
  | .str a, .str b => if a.length + b.length ≤ cap then some (.str (a ++ b)) else none
  | .list a, .list b => if a.length + b.length ≤ cap then some (.list (a ++ b)) else none
  | .tuple a, .tuple b => if a.length + b.length ≤ cap then some (.tuple (a ++ b)) else none
  | _, _ => none
theorem DpB.tupI {F H : Hp} {v : V} {ds : List D} : DpB K F H v (.tuple ds) → ∃ p vs, v = .ref p ∧ SqT K F p vs ∧ DpAll K F vs ds
  | .val (.tup h q) => ⟨_, _, rfl, h, q⟩
theorem dp_new_l {F H : Hp} {p : Addr} {vs : List V} {ds : List D} (s : Same F H) (h : H p = none) (q : DpAll K F vs ds) : Grow F H (upd F p (.lst vs)) (upd H p (.lst vs)) ∧ Dp K (upd F p (.lst vs)) (.ref p) (.list ds) :=
  have g : Grow F H (upd F p (.lst vs)) (upd H p (.lst vs)) := Grow.new s h
  ⟨g, .lst upd_same (dpAll_mono g.f q)⟩
theorem dp_new_t {F H : Hp} {p : Addr} {vs : List V} {ds : List D} (s : Same F H) (h : H p = none) (q : DpAll K F vs ds) : Grow F H (upd F p (.tup vs)) (upd H p (.tup vs)) ∧ Dp K (upd F p (.tup vs)) (.ref p) (.tuple ds) :=
  have g : Grow F H (upd F p (.tup vs)) (upd H p (.tup vs)) := Grow.new s h
  ⟨g, .tup (.inl (.inl upd_same)) (dpAll_mono g.f q)⟩
theorem dpAll_nil {F : Hp} {vs : List V} {ds : List D} (q : DpAll K F vs ds) : vs = [] ↔ ds = [] := by
  cases q <;> simp
theorem rop_add : ROp K (rAddA K) dAdd := by
  intro x y z e F H v1 v2 Q s h1 h2 q
  match x, y, e with
  | .int i, .int j, e => cases e; exact .inl ⟨i, j, h1.int, h2.int, q _ F H (Grow.refl s) (.int _)⟩
  | .str a, .str b, e =>
    dsimp only [dAdd] at e
    split at e
    · rename_i hc
      cases e
      exact .inr (.inl ⟨a, b, h1.str, h2.str, by rw [← cap_eq]; exact hc, q _ F H (Grow.refl s) (.str _)⟩)
    · cases e
  | .list a, .list b, e =>
    dsimp only [dAdd] at e
    split at e
    · rename_i hc
      cases e
      obtain ⟨p1, vs1, rfl, e1, q1⟩ := h1.list s
      obtain ⟨p2, vs2, rfl, e2, q2⟩ := h2.list s
      refine .inr (.inr (.inl ⟨p1, p2, vs1, vs2, rfl, rfl, e1, e2, by rw [q1.length, q2.length, ← cap_eq]; exact hc, fun p hp => ?_⟩))
      obtain ⟨g, d⟩ := dp_new_l s hp (q1.append q2)
      exact q _ _ _ g d
    · cases e
  | .tuple a, .tuple b, e =>
    dsimp only [dAdd] at e
    split at e
    · rename_i hc
      cases e
      obtain ⟨p1, vs1, rfl, e1, q1⟩ := h1.tupI
      obtain ⟨p2, vs2, rfl, e2, q2⟩ := h2.tupI
      refine .inr (.inr (.inr ⟨p1, p2, vs1, vs2, rfl, rfl, t_mono s e1, t_mono s e2, by rw [q1.length, q2.length, ← cap_eq]; exact hc, fun hx => ?_, fun _ hy => ?_, fun _ _ p hp => ?_⟩))
      · have : a = [] := (dpAll_nil q1).mp hx
        subst this
        exact q _ F H (Grow.refl s) (.tup e2 q2)
      · have : b = [] := (dpAll_nil q2).mp hy
        subst this
        rw [List.append_nil] at q
        exact q _ F H (Grow.refl s) (.tup e1 q1)
      · obtain ⟨g, d⟩ := dp_new_t s hp (q1.append q2)
        exact q _ _ _ g d
    · cases e

/-! ### two operands, a new list comes of it -/
def RON (K : PySem.W.Frag) (r : R2) (f : D → D → Option (List D)) : Prop := ∀ x y ds, f x y = some ds → ∀ (F H : Hp) (v1 v2 : V) (Q : VK), Same F H → DpB K F H v1 x → DpB K F H v2 y →
  (∀ p vs, H p = none → DpAll K F vs ds → Q (.ref p) (upd H p (.lst vs))) → r v1 v2 H Q
def ofL : Option (List D) → Env → Out Cn
  | some ds, e => .ok (.ls ds) e
  | none, _ => .no
def xBinN (f : D → D → Option (List D)) (ma mb : M D) : M Cn := fun env => (ma env).bind fun x e1 => (mb e1).bind fun y e2 => ofL (f x y) e2
def xBinVN (f : D → D → Option (List D)) (i : Nat) (mb : M D) : M Cn := fun env => if (peek i env).isSome = true then (mb env).bind fun y e2 => ofL ((peek i e2).bind fun x => f x y) e2 else .no
section
variable {op : Operator} {r : R2} {f : D → D → Option (List D)} {i : Nat} {x : Str} {p1 pos : Pos} {a b : Expr} {ma mb : M D}
theorem ron_run (hr : RON X.K r f) {W : WX} {B F H : Hp} {env : Env} {σ : St} {x y : D} {v1 v2 : V} {Q : VK} (R : Rel X.K B env σ F H) (h1 : DpB X.K F H v1 x) (h2 : DpB X.K F H v2 y)
    (p : PostC X B σ F W (fun c => [c]) (fun _ _ vs _ H' => ∀ v, vs = [v] → Q v H') (ofL (f x y) env)) : r v1 v2 H Q := by
  cases q : f x y with
  | none => rw [q] at p; exact False.elim p
  | some ds =>
    rw [q] at p
    exact hr x y ds q F H v1 v2 Q R.fh h1 h2 fun a vs ha hv => p [.ref a] F _ rfl (R.newl ha hv) Up.refl _ rfl
theorem sn_bin (ho : OpR X (binaryOp op) r) (hr : RON X.K r f) (ha : SE X a ma) (hb : SB X b mb) : SN X (.BinOp a op b pos) (xBinN f ma mb) := by
  refine ⟨fun W tk B env σ F H Q R p => zE.by (pe_op ho pe_w pe_w) ?_⟩
  refine ha.run W tk B env σ F H _ R (p.bind.imp fun x e1 F1 H1 _ R1 U1 p1 v1 d1 => ?_)
  refine hb.run W tk B e1 σ F1 H1 _ R1 (p1.bind.imp fun y e2 F2 H2 _ R2 U2 p2 v2 d2 => ?_)
  exact ron_run hr R2 (.up d1 U2.sm _) d2 p2
theorem sn_binV (ho : OpR X (binaryOp op) r) (hr : RON X.K r f) (hn : PE X (.Name x p1) (tVar i)) (hb : SB X b mb) : SN X (.BinOp (.Name x p1) op b pos) (xBinVN f i mb) := by
  refine ⟨fun W tk B env σ F H Q R p => zE.by (pe_op ho hn pe_w) ?_⟩
  unfold xBinVN at p
  split at p
  · rename_i hs
    obtain ⟨d0, hd0⟩ := Option.isSome_iff_exists.mp hs
    obtain ⟨v, hv, _⟩ := peek_rel R hd0
    refine ⟨v, hv, ?_⟩
    refine hb.run W tk B env σ F H _ R (p.bind.imp fun y e2 F2 H2 _ R2 U2 p2 v2 d2 => ?_)
    cases q : peek i e2 with
    | none => rw [q] at p2; exact False.elim p2
    | some x0 =>
      rw [q] at p2
      obtain ⟨v', hv', dv⟩ := peek_rel R2 q
      rw [hv] at hv'
      cases hv'
      exact ron_run hr R2 dv d2 p2
  · exact False.elim p
end
def lAdd : D → D → Option (List D)
  | .list a, .list b => if a.length + b.length ≤ cap then some (a ++ b) else none
  | _, _ => none
theorem ron_add : RON K (rAddA K) lAdd := by
  intro x y ds e F H v1 v2 Q s h1 h2 q
  match x, y, e with
  | .list a, .list b, e =>
    dsimp only [lAdd] at e
    split at e
    · rename_i hc
      cases e
      obtain ⟨p1, vs1, rfl, e1, q1⟩ := h1.list s
      obtain ⟨p2, vs2, rfl, e2, q2⟩ := h2.list s
      exact .inr (.inr (.inl ⟨p1, p2, vs1, vs2, rfl, rfl, e1, e2, by rw [q1.length, q2.length, ← cap_eq]; exact hc, fun p hp => q p _ hp (q1.append q2)⟩))
    · cases e

/-! ### * -/
def bitsOk (i : Int) : Prop := Builtin.Int.intBits i ≤ 60000000
instance (i : Int) : Decidable (bitsOk i) := inferInstanceAs (Decidable (_ ≤ _))
theorem op_mulB : OpR X (binaryOp .Mult) (rI IntMulOk fun i j => .int (i * j)) := opI fun _ _ _ _ _ _ _ hc q => mul_int q hc
def rMulA (K : PySem.W.Frag) : R2 := fun x y H Q => rI IntMulOk (fun i j => .int (i * j)) x y H Q ∨ rRep x y H Q ∨ rRepT K x y H Q
theorem op_mulA : OpR X (binaryOp .Mult) (rMulA X.K) := op_mulB.or (op_rep.or op_repT)
noncomputable def dMul : D → D → Option D
  | .int i, .int j => if cB (bitsOk i ∧ bitsOk j) = true then some (.int (i * j)) else none
  | .list a, .int k => if cB (-1000000 ≤ k ∧ k ≤ 1000000 ∧ a.length * k.toNat ≤ cap) = true then some (.list (List.replicate k.toNat a).flatten) else none
  | .tuple a, .int k => if cB (a ≠ [] ∧ 2 ≤ k ∧ k ≤ 1000 ∧ a.length ≤ 1000) = true then some (.tuple (List.replicate k.toNat a).flatten) else none
  | _, _ => none
theorem dpAll_rep {F : Hp} {vs : List V} {ds : List D} (q : DpAll K F vs ds) : ∀ n : Nat, DpAll K F (List.replicate n vs).flatten (List.replicate n ds).flatten
  | 0 => .nil
  | n + 1 => by
    rw [List.replicate_succ, List.replicate_succ, List.flatten_cons, List.flatten_cons]
    exact q.append (dpAll_rep q n)
theorem rop_mul : ROp K (rMulA K) dMul := by
  intro x y z e F H v1 v2 Q s h1 h2 q
  match x, y, e with
  | .int i, .int j, e =>
    dsimp only [dMul] at e
    split at e
    · rename_i hc
      have hc := cB_of hc
      cases e
      exact .inl ⟨i, j, h1.int, h2.int, IntMulOk.of_le hc.1 hc.2 (by decide), q _ F H (Grow.refl s) (.int _)⟩
    · cases e
  | .list a, .int k, e =>
    dsimp only [dMul] at e
    split at e
    · rename_i hc
      have hc := cB_of hc
      cases e
      obtain ⟨p1, vs1, rfl, e1, q1⟩ := h1.list s
      refine .inr (.inl ⟨p1, k, vs1, rfl, h2.int, e1, by omega, by omega, by rw [q1.length, ← cap_eq]; exact hc.2.2, fun p hp => ?_⟩)
      obtain ⟨g, d⟩ := dp_new_l s hp (dpAll_rep q1 k.toNat)
      exact q _ _ _ g d
    · cases e
  | .tuple a, .int k, e =>
    dsimp only [dMul] at e
    split at e
    · rename_i hc
      have hc := cB_of hc
      cases e
      obtain ⟨p1, vs1, rfl, e1, q1⟩ := h1.tupI
      refine .inr (.inr ⟨p1, k, vs1, rfl, h2.int, t_mono s e1, fun z => hc.1 ((dpAll_nil q1).mp z), hc.2.1, hc.2.2.1, by rw [q1.length]; exact hc.2.2.2, fun p hp => ?_⟩)
      obtain ⟨g, d⟩ := dp_new_t s hp (dpAll_rep q1 k.toNat)
      exact q _ _ _ g d
    · cases e
noncomputable def lMul : D → D → Option (List D)
  | .list a, .int k => if cB (-1000000 ≤ k ∧ k ≤ 1000000 ∧ a.length * k.toNat ≤ cap) = true then some (List.replicate k.toNat a).flatten else none
  | _, _ => none
theorem ron_mul : RON K (rMulA K) lMul := by
  intro x y ds e F H v1 v2 Q s h1 h2 q
  match x, y, e with
  | .list a, .int k, e =>
    dsimp only [lMul] at e
    split at e
    · rename_i hc
      have hc := cB_of hc
      cases e
      obtain ⟨p1, vs1, rfl, e1, q1⟩ := h1.list s
      exact .inr (.inl ⟨p1, k, vs1, rfl, h2.int, e1, by omega, by omega, by rw [q1.length, ← cap_eq]; exact hc.2.2, fun p hp => q p _ hp (dpAll_rep q1 k.toNat)⟩)
    · cases e

/-! ### ==, != of data; is None -/
theorem DpB.l2 {F H : Hp} {v : V} {d : D} (s : Same F H) (h : DpB K F H v d) : L2.Dp K H v d := (h.dp s).out
def dEq : D → D → Option D := fun x y => if SeqAt.shaped x = true ∧ SeqAt.shaped y = true then some (.bool (PyData.eqv x y)) else none
def dNe : D → D → Option D := fun x y => if SeqAt.shaped x = true ∧ SeqAt.shaped y = true then some (.bool (!PyData.eqv x y)) else none
theorem rop_eq : ROp K (rEqD K) dEq := by
  intro x y z e F H v1 v2 Q s h1 h2 q
  unfold dEq at e
  split at e
  · rename_i hc
    cases e
    exact ⟨x, y, h1.l2 s, h2.l2 s, hc.1, hc.2, q _ F H (Grow.refl s) (.bl _)⟩
  · cases e
theorem rop_ne : ROp K (rNeD K) dNe := by
  intro x y z e F H v1 v2 Q s h1 h2 q
  unfold dNe at e
  split at e
  · rename_i hc
    cases e
    exact ⟨x, y, h1.l2 s, h2.l2 s, hc.1, hc.2, q _ F H (Grow.refl s) (.bl _)⟩
  · cases e
def isNone : D → Bool
  | .none => true
  | _ => false
theorem isNone_eq {F H : Hp} {v : V} {d : D} (h : DpB K F H v d) : decide (v = .non) = isNone d := by
  cases h with
  | val h => cases h <;> simp [isNone]
  | ls _ _ => simp [isNone]
def dIs : D → D → Option D
  | x, .none => some (.bool (isNone x))
  | _, _ => none
def dIsn : D → D → Option D
  | x, .none => some (.bool (!isNone x))
  | _, _ => none
theorem rop_is : ROp K (fun x y H Q => y = .non ∧ Q (.bl (decide (x = .non))) H) dIs := by
  intro x y z e F H v1 v2 Q s h1 h2 q
  match y, e with
  | .none, e =>
    cases e
    exact ⟨h2.none, by rw [isNone_eq h1]; exact q _ F H (Grow.refl s) (.bl _)⟩
theorem rop_isn : ROp K (fun x y H Q => y = .non ∧ Q (.bl (!decide (x = .non))) H) dIsn := by
  intro x y z e F H v1 v2 Q s h1 h2 q
  match y, e with
  | .none, e =>
    cases e
    exact ⟨h2.none, by rw [isNone_eq h1]; exact q _ F H (Grow.refl s) (.bl _)⟩

/-! ### x[i], x[i:j] -/
def dIdx : D → D → Option D
  | .list ds, .int i => atI ds i
  | .tuple ds, .int i => atI ds i
  | .str z, .int i => if z.length ≤ cap then (atI z.cps.toList i).map fun c => .str ⟨#[c]⟩ else none
  | _, _ => none
theorem atI_all {F : Hp} {vs : List V} {ds : List D} {i : Int} {d : D} (q : DpAll K F vs ds) (h : atI ds i = some d) : ∃ v, atI vs i = some v ∧ Dp K F v d := by
  unfold atI at h ⊢
  rw [q.length]
  cases e : ixN ds.length i with
  | none => rw [e] at h; cases h
  | some j =>
    rw [e] at h
    exact q.get h
theorem rop_ix : ROp K (rIx K) dIdx := by
  intro x y z e F H v1 v2 Q s h1 h2 q
  match x, y, e with
  | .list ds, .int i, e =>
    obtain ⟨p1, vs1, rfl, e1, q1⟩ := h1.list s
    obtain ⟨v, g1, g2⟩ := atI_all q1 e
    exact .inl ⟨p1, vs1, i, v, rfl, h2.int, .inl (.inl e1), g1, q v F H (Grow.refl s) g2⟩
  | .tuple ds, .int i, e =>
    obtain ⟨p1, vs1, rfl, e1, q1⟩ := h1.tupI
    obtain ⟨v, g1, g2⟩ := atI_all q1 e
    exact .inr (.inl ⟨p1, vs1, i, v, rfl, h2.int, t_mono s e1, g1, q v F H (Grow.refl s) g2⟩)
  | .str w, .int i, e =>
    dsimp only [dIdx] at e
    split at e
    · rename_i hc
      cases k : atI w.cps.toList i with
      | none => rw [k] at e; cases e
      | some c =>
        rw [k] at e
        cases e
        exact .inr (.inr ⟨w, i, c, h1.str, h2.int, by rw [← cap_eq]; exact hc, k, q _ F H (Grow.refl s) (.str _)⟩)
    · cases e
def cut {α : Type} (xs : List α) (lo hi : Option Int) : List α := (xs.drop (HT.sIx xs.length 0 lo)).take (HT.sIx xs.length xs.length hi - HT.sIx xs.length 0 lo)
theorem cut_all {F : Hp} {vs : List V} {ds : List D} (lo hi : Option Int) (q : DpAll K F vs ds) : DpAll K F (cutV vs lo hi) (cut ds lo hi) := by
  unfold cutV cut
  rw [q.length]
  exact (q.drop _).take _
theorem cut_whole {α : Type} {xs : List α} {lo hi : Option Int} (h : HT.sIx xs.length 0 lo = 0 ∧ HT.sIx xs.length xs.length hi = xs.length) : cut xs lo hi = xs := by
  unfold cut
  rw [h.1, h.2, List.drop_zero, Nat.sub_zero, List.take_length]
def rSlD (K : PySem.W.Frag) : V → Option Int → Option Int → Hp → VK → Prop := fun x lo hi H Q => rSlL K x lo hi H Q ∨ rSlA K x lo hi H Q ∨ C8.rSlX x lo hi H Q
theorem sl_D : SlR X (rSlD X.K) := sl_list.or (sl_tupA.or C8.sl_txt)
def dSl : D → Option Int → Option Int → Option D
  | .list ds, lo, hi => some (.list (cut ds lo hi))
  | .tuple ds, lo, hi => some (.tuple (cut ds lo hi))
  | .str z, lo, hi => if z.length ≤ cap then some (.str (Txt.slice z lo hi)) else none
  | _, _, _ => none
theorem rsl_D : RSl K (rSlD K) dSl := by
  intro x l h z e F H v Q s hx q
  match x, e with
  | .list ds, e =>
    cases e
    obtain ⟨p1, vs1, rfl, e1, q1⟩ := hx.list s
    refine .inl ⟨p1, vs1, rfl, .inl (.inl e1), fun p hp => ?_⟩
    obtain ⟨g, d⟩ := dp_new_l s hp (cut_all l h q1)
    exact q _ _ _ g d
  | .tuple ds, e =>
    cases e
    obtain ⟨p1, vs1, rfl, e1, q1⟩ := hx.tupI
    refine .inr (.inl ⟨p1, vs1, rfl, t_mono s e1, fun hw => ?_, fun _ p hp => ?_⟩)
    · rw [q1.length] at hw
      rw [cut_whole hw] at q
      exact q _ F H (Grow.refl s) (.tup e1 q1)
    · obtain ⟨g, d⟩ := dp_new_t s hp (cut_all l h q1)
      exact q _ _ _ g d
  | .str w, e =>
    dsimp only [dSl] at e
    split at e
    · rename_i hc
      cases e
      exact .inr (.inr ⟨w, hx.str, by rw [← cap_eq]; exact hc, q _ F H (Grow.refl s) (.str _)⟩)
    · cases e

/-! ### len, abs, int, min, max, sum, all, any, list, tuple -/
def dLen : D → Option D
  | .list ds => some (.int ds.length)
  | .tuple ds => some (.int ds.length)
  | .str z => if z.length ≤ cap then some (.int z.length) else none
  | _ => none
theorem rc_len : RC1 K (fun xs H Q => ∃ x n, xs = [x] ∧ LenV K x H n ∧ Q (.int n) H) dLen := by
  intro x z e F H v Q s h q
  match x, e with
  | .list ds, e =>
    cases e
    obtain ⟨p1, vs1, rfl, e1, q1⟩ := h.list s
    exact ⟨_, _, rfl, .inl ⟨vs1, .inl (.inl e1), rfl⟩, by rw [q1.length]; exact q _ F H (Grow.refl s) (.int _)⟩
  | .tuple ds, e =>
    cases e
    obtain ⟨p1, vs1, rfl, e1, q1⟩ := h.tupI
    exact ⟨_, _, rfl, .inr ⟨vs1, t_mono s e1, rfl⟩, by rw [q1.length]; exact q _ F H (Grow.refl s) (.int _)⟩
  | .str w, e =>
    dsimp only [dLen] at e
    split at e
    · rename_i hc
      cases e
      have := h.str
      subst this
      exact ⟨_, _, rfl, ⟨by rw [← cap_eq]; exact hc, rfl⟩, q _ F H (Grow.refl s) (.int _)⟩
    · cases e
def dAbs : D → Option D
  | .int i => some (.int (if i < 0 then -i else i))
  | _ => none
theorem rc_abs : RC1 K (fun xs H Q => ∃ i, xs = [.int i] ∧ Q (.int (if i < 0 then -i else i)) H) dAbs := by
  intro x z e F H v Q s h q
  match x, e with
  | .int i, e =>
    cases e
    exact ⟨i, by rw [h.int], q _ F H (Grow.refl s) (.int _)⟩
def dInt : D → Option D
  | .int i => some (.int i)
  | .bool b => some (.int (if b then 1 else 0))
  | _ => none
theorem rc_int : RC1 K (fun xs H Q => (∃ i, xs = [.int i] ∧ Q (.int i) H) ∨ ∃ k, xs = [.bl k] ∧ Q (.int (if k then 1 else 0)) H) dInt := by
  intro x z e F H v Q s h q
  match x, e with
  | .int i, e => cases e; exact .inl ⟨i, by rw [h.int], q _ F H (Grow.refl s) (.int _)⟩
  | .bool b, e => cases e; exact .inr ⟨b, by rw [h.bool], q _ F H (Grow.refl s) (.int _)⟩
def dMin : D → D → Option D := dI fun i j => some (.int (if j < i then j else i))
def dMax : D → D → Option D := dI fun i j => some (.int (if j > i then j else i))
theorem rc_min : RC2 K (fun xs H Q => ∃ i j, xs = [.int i, .int j] ∧ Q (.int (if j < i then j else i)) H) dMin := by
  intro x y z e F H v1 v2 Q s h1 h2 q
  match x, y, e with
  | .int i, .int j, e => cases e; exact ⟨i, j, by rw [h1.int, h2.int], q _ F H (Grow.refl s) (.int _)⟩
theorem rc_max : RC2 K (fun xs H Q => ∃ i j, xs = [.int i, .int j] ∧ Q (.int (if j > i then j else i)) H) dMax := by
  intro x y z e F H v1 v2 Q s h1 h2 q
  match x, y, e with
  | .int i, .int j, e => cases e; exact ⟨i, j, by rw [h1.int, h2.int], q _ F H (Grow.refl s) (.int _)⟩
def asInts : List D → Option (List Int)
  | [] => some []
  | .int i :: r => (asInts r).map (i :: ·)
  | _ :: _ => none
theorem asInts_map : ∀ ns : List Int, asInts (ns.map PyData.int) = some ns
  | [] => rfl
  | n :: r => by
    show (asInts (r.map PyData.int)).map (n :: ·) = _
    rw [asInts_map r] <;> rfl
theorem asInts_eq : ∀ {ds : List D} {ns : List Int}, asInts ds = some ns → ds = ns.map PyData.int
  | [], ns, e => by cases e; rfl
  | .int i :: r, ns, e => by
    have e' : (asInts r).map (i :: ·) = some ns := e
    cases k : asInts r with
    | none => rw [k] at e'; cases e'
    | some m =>
      rw [k] at e'
      cases e'
      rw [asInts_eq k] <;> rfl
  | .none :: _, _, e => by cases e
  | .bool _ :: _, _, e => by cases e
  | .str _ :: _, _, e => by cases e
  | .list _ :: _, _, e => by cases e
  | .tuple _ :: _, _, e => by cases e
  | .dict _ :: _, _, e => by cases e
def asBools : List D → Option (List Bool)
  | [] => some []
  | .bool i :: r => (asBools r).map (i :: ·)
  | _ :: _ => none
theorem asBools_map : ∀ ns : List Bool, asBools (ns.map PyData.bool) = some ns
  | [] => rfl
  | n :: r => by
    show (asBools (r.map PyData.bool)).map (n :: ·) = _
    rw [asBools_map r] <;> rfl
theorem asBools_eq : ∀ {ds : List D} {ns : List Bool}, asBools ds = some ns → ds = ns.map PyData.bool
  | [], ns, e => by cases e; rfl
  | .bool i :: r, ns, e => by
    have e' : (asBools r).map (i :: ·) = some ns := e
    cases k : asBools r with
    | none => rw [k] at e'; cases e'
    | some m =>
      rw [k] at e'
      cases e'
      rw [asBools_eq k] <;> rfl
  | .none :: _, _, e => by cases e
  | .int _ :: _, _, e => by cases e
  | .str _ :: _, _, e => by cases e
  | .list _ :: _, _, e => by cases e
  | .tuple _ :: _, _, e => by cases e
  | .dict _ :: _, _, e => by cases e
def dSum : D → Option D
  | .list ds => (asInts ds).map fun ns => .int ns.sum
  | _ => none
theorem rc_sum : RC1 K (rSum K) dSum := by
  intro x z e F H v Q s h q
  match x, e with
  | .list ds, e =>
    dsimp only [dSum] at e
    cases k : asInts ds with
    | none => rw [k] at e; cases e
    | some ns =>
      rw [k] at e
      cases e
      obtain ⟨p1, vs1, rfl, e1, q1⟩ := h.list s
      rw [asInts_eq k] at q1
      rw [DpAll.of_ints q1] at e1
      exact ⟨p1, ns, rfl, .inl (.inl e1), q _ F H (Grow.refl s) (.int _)⟩
def dAll : D → Option D
  | .list ds => (asBools ds).map fun bs => .bool (bs.all id)
  | _ => none
def dAny : D → Option D
  | .list ds => (asBools ds).map fun bs => .bool (bs.any id)
  | _ => none
theorem rc_all : RC1 K (rAll K) dAll := by
  intro x z e F H v Q s h q
  match x, e with
  | .list ds, e =>
    dsimp only [dAll] at e
    cases k : asBools ds with
    | none => rw [k] at e; cases e
    | some ns =>
      rw [k] at e
      cases e
      obtain ⟨p1, vs1, rfl, e1, q1⟩ := h.list s
      rw [asBools_eq k] at q1
      rw [DpAll.of_bools q1] at e1
      exact ⟨p1, ns, rfl, .inl (.inl e1), q _ F H (Grow.refl s) (.bl _)⟩
theorem rc_any : RC1 K (rAny K) dAny := by
  intro x z e F H v Q s h q
  match x, e with
  | .list ds, e =>
    dsimp only [dAny] at e
    cases k : asBools ds with
    | none => rw [k] at e; cases e
    | some ns =>
      rw [k] at e
      cases e
      obtain ⟨p1, vs1, rfl, e1, q1⟩ := h.list s
      rw [asBools_eq k] at q1
      rw [DpAll.of_bools q1] at e1
      exact ⟨p1, ns, rfl, .inl (.inl e1), q _ F H (Grow.refl s) (.bl _)⟩
def lList : D → Option (List D)
  | .list ds => some ds
  | .tuple ds => some ds
  | _ => none
theorem rcn_list : RCN K (fun xs H Q => ∃ p ys, xs = [.ref p] ∧ (SqL K H p ys ∨ SqT K H p ys) ∧ ∀ l, H l = none → Q (.ref l) (upd H l (.lst ys))) lList := by
  intro x ds e F H v Q s h q
  match x, e with
  | .list ds, e =>
    cases e
    obtain ⟨p1, vs1, rfl, e1, q1⟩ := h.list s
    exact ⟨p1, vs1, rfl, .inl (.inl (.inl e1)), fun l hl => q l vs1 hl q1⟩
  | .tuple ds, e =>
    cases e
    obtain ⟨p1, vs1, rfl, e1, q1⟩ := h.tupI
    exact ⟨p1, vs1, rfl, .inr (t_mono s e1), fun l hl => q l vs1 hl q1⟩
def dTup : D → Option D
  | .list ds => some (.tuple ds)
  | .tuple ds => some (.tuple ds)
  | _ => none
def rTupD (K : PySem.W.Frag) : List V → Hp → VK → Prop := fun xs H Q => ∃ p ys, xs = [.ref p] ∧ ((SqL K H p ys ∧ ∀ l, H l = none → Q (.ref l) (upd H l (.tup ys))) ∨ (SqT K H p ys ∧ Q (.ref p) H))
theorem rc_tup : RC1 K (rTupD K) dTup := by
  intro x z e F H v Q s h q
  match x, e with
  | .list ds, e =>
    cases e
    obtain ⟨p1, vs1, rfl, e1, q1⟩ := h.list s
    refine ⟨p1, vs1, rfl, .inl ⟨.inl (.inl e1), fun l hl => ?_⟩⟩
    obtain ⟨g, d⟩ := dp_new_t s hl q1
    exact q _ _ _ g d
  | .tuple ds, e =>
    cases e
    obtain ⟨p1, vs1, rfl, e1, q1⟩ := h.tupI
    exact ⟨p1, vs1, rfl, .inr ⟨t_mono s e1, q _ F H (Grow.refl s) (.tup e1 q1)⟩⟩
theorem cr_tupD : CallR X (.type "tuple") (rTupD X.K) := call_tuple_of

/-! ### isinstance -/
def tyS : D → String
  | .none => "NoneType"
  | .bool _ => "bool"
  | .int _ => "int"
  | .str _ => "str"
  | .list _ => "list"
  | .tuple _ => "tuple"
  | .dict _ => "dict"
theorem tyX_of {F H : Hp} {v : V} {d : D} (s : Same F H) (h : DpB K F H v d) : TyX K H v (.type (tyS d)) := by
  cases h with
  | ls h q => exact .base (.lst h)
  | val h =>
    cases h with
    | non => exact .base .non
    | bl b => exact .base (.bl b)
    | int i => exact .base (.int i)
    | str x => exact .base (.str x)
    | lst h q => exact .base (.lst (s _ _ h))
    | tup h q =>
      rcases t_mono s h with h | ⟨o, its, n, hk, hc, _⟩
      · rcases h with h | ⟨o, h⟩
        · exact .base (.tup h)
        · exact .fTuple h
      · exact .kTuple hk hc
def dIsi (T : String) : D → Option D := fun d => (kitB (tyS d) T).map .bool
theorem run_isi {T : String} : RUn K (fun v H Q => rIsi K [v, .ty T] H Q) (dIsi T) := by
  intro x z e F H v Q s h q
  unfold dIsi at e
  cases k : kitB (tyS x) T with
  | none => rw [k] at e; cases e
  | some b =>
    rw [k] at e
    cases e
    exact ⟨v, .ty T, .type (tyS x), .type T, b, rfl, .ty T, tyX_of s h, kit_ty k, q _ F H (Grow.refl s) (.bl b)⟩
def kitAnyB (t : String) : List String → Option Bool
  | [] => some false
  | c :: r => match kitB t c with
    | some true => some true
    | some false => kitAnyB t r
    | none => none
theorem kitAny_of {t : String} : ∀ {Ts : List String} {b : Bool}, kitAnyB t Ts = some b → PySem.W.kitAny K (.type t) (Ts.map Value.type) = some b
  | [], b, e => by cases e; rfl
  | c :: r, b, e => by
    unfold kitAnyB at e
    show (match PySem.W.kitOne K (.type t) (.type c) with
      | some true => some true
      | some false => PySem.W.kitAny K (.type t) (r.map Value.type)
      | none => none) = some b
    cases k : kitB t c with
    | none => rw [k] at e; cases e
    | some q =>
      rw [k] at e
      rw [kit_ty k]
      cases q with
      | true => exact e
      | false => exact kitAny_of e
def dIsis (Ts : List String) : D → Option D := fun d => (kitAnyB (tyS d) Ts).map .bool
/-- isinstance(e, (T, ..)) -/
theorem clsV_all : ∀ Ts : List String, Paired ClsV (Ts.map V.ty) (Ts.map Value.type)
  | [] => .nil
  | c :: r => .cons (.ty c) (clsV_all r)
theorem se_isis {a : Expr} {ma : M D} {es : List Expr} {kk : Nat} {p1 pos tpos : Pos} {Ts : List String} {t : TA} (ha : SB X a ma) (hes : PA X es t) (ht : ∀ σ H Q, Q (Ts.map V.ty) H → t σ H Q) (hsz : Ts.length ≤ 1000) (hg : Gl X "isinstance") (hm : X.mg "isinstance" = none)
    (he : starEach [a, .Tuple es kk tpos] X.env = (false, eval a X.env) :: starEach [.Tuple es kk tpos] X.env := by rfl) (he2 : starEach [.Tuple es kk tpos] X.env = (false, eval (.Tuple es kk tpos) X.env) :: starEach [] X.env := by rfl) (hpl : (backTo pos (starEach [.Tuple es kk tpos] X.env)).any (·.1) = false := by rfl) :
    SE X (.Call (.Name "isinstance" p1) [a, .Tuple es kk tpos] [] pos) (xUn (dIsis Ts) ma) := by
  refine ⟨fun W tk B env σ F H Q R p => zE.by (pe_callB call_isiT hg hm boot_isinstance (pa_cons pe_w (pa_cons (pe_tup hes) pa_nil he2) he) (by decide) (by decide) he hpl) ?_⟩
  refine ha.run W tk B env σ F H _ R (p.bind.imp fun x e1 F1 H1 _ R1 U1 p1 v1 d1 => ?_)
  refine ht _ _ _ ⟨by rw [List.length_map]; exact Nat.le_trans hsz (Nat.le_of_lt (small1000 (Nat.le_refl _))), fun q hq => ?_⟩
  cases k : dIsis Ts x with
  | none => rw [k] at p1; exact False.elim p1
  | some z =>
    rw [k] at p1
    unfold dIsis at k
    cases k2 : kitAnyB (tyS x) Ts with
    | none => rw [k2] at k; cases k
    | some b =>
      rw [k2] at k
      cases k
      have g : Grow F1 H1 F1 (upd H1 q (.tup (Ts.map V.ty))) := Grow.tmp R1.fh hq
      have d1' : DpB X.K F1 (upd H1 q (.tup (Ts.map V.ty))) v1 x := by
        cases d1 with
        | val h => exact .val h
        | ls h h2 => exact .ls (g.h _ _ h) h2
      exact ⟨v1, q, Ts.map V.ty, .type (tyS x), Ts.map Value.type, b, rfl, upd_same, clsV_all Ts, tyX_of (R1.fh.trans g.h) d1', kitAny_of k2, p1 _ _ (R1.grow g) (g.up R1.bh) _ (.bl b)⟩

/-! ### append, extend -/
def mAppend : List D → List D → Option (D × List D)
  | ds, [d] => if ds.length < cap then some (.none, ds ++ [d]) else none
  | _, _ => none
theorem rmu_append : RMu K rAppend mAppend := by
  intro ds as z ds' e F H p xs vs Q s hp hF h1 h2 q
  match as, h2, e with
  | [d], .cons hd .nil, e =>
    dsimp only [mAppend] at e
    split at e
    · rename_i hc
      cases e
      exact ⟨p, xs, _, rfl, rfl, hp, by rw [h1.length, ← cap_eq]; exact hc, q _ _ .non (h1.append (.one hd))⟩
    · cases e
def mExtend : List D → List D → Option (D × List D)
  | ds, [.list es] => if ds.length + es.length ≤ cap then some (.none, ds ++ es) else none
  | _, _ => none
theorem rmu_extend : RMu K rExtend mExtend := by
  intro ds as z ds' e F H p xs vs Q s hp hF h1 h2 q
  match as, h2, e with
  | [.list es], .cons (.lst hd hq) .nil, e =>
    dsimp only [mExtend] at e
    split at e
    · rename_i hc
      cases e
      exact ⟨p, _, xs, _, rfl, rfl, hp, s _ _ hd, by rw [h1.length, hq.length, ← cap_eq]; exact hc, q _ _ .non (h1.append hq)⟩
    · cases e

/-! ### what is walked: a list, a tuple, a text -/
def asSeq : D → Option (List D)
  | .list ds => some ds
  | .tuple ds => some ds
  | .str z => some (signs z)
  | _ => none
theorem post_asSeq {W : WX} {B F : Hp} {env e1 : Env} {σ : St} {f g : D → Option (List D)} {d : D} {ma : M D} {ok : List D → Env → Hp → Hp → Prop} (h : ma env = .ok d e1) (p : Post X B σ F W ok (xIt f ma env)) (hfg : f d = g d) : Post X B σ F W ok (xIt g ma env) := by
  unfold xIt at p ⊢
  rw [h] at p ⊢
  rw [Out.bind_ok] at p ⊢
  rw [← hfg]; exact p
theorem si_seq {tg a : Expr} {ma : M D} (h : SE X a ma) : SI X tg a (xIt asSeq ma) := by
  refine ⟨fun W tk B env σ F H R r p => ?_⟩
  cases q : ma env with
  | no => exact (si_list h).run W tk B env σ F H R r (by unfold xIt at p ⊢; rw [q] at p ⊢; exact p)
  | err x e => exact (si_list h).run W tk B env σ F H R r (by unfold xIt at p ⊢; rw [q] at p ⊢; exact p)
  | ok d e1 =>
    cases d with
    | list ds => exact (si_list h).run W tk B env σ F H R r (post_asSeq q p rfl)
    | tuple ds => exact (si_tup h).run W tk B env σ F H R r (post_asSeq q p rfl)
    | str z => exact (si_str h).run W tk B env σ F H R r (post_asSeq q p rfl)
    | _ => unfold xIt at p; rw [q] at p; exact False.elim p
theorem si_enumA {a : Expr} {ma : M D} {elts : List Expr} {kk : Nat} {p pos tpos : Pos} (hg : Gl X "enumerate") (hm : X.mg "enumerate" = none) (h : SE X a ma) (hs : starEach [a] X.env = [(false, eval a X.env)] := by rfl) :
    SI X (.Tuple elts kk tpos) (.Call (.Name "enumerate" p) [a] [] pos) (xIt (fun d => (asSeq d).map numbered) ma) := by
  refine ⟨fun W tk B env σ F H R r p => ?_⟩
  cases q : ma env with
  | no => exact (si_enum hg hm h hs).run W tk B env σ F H R r (by unfold xIt at p ⊢; rw [q] at p ⊢; exact p)
  | err x e => exact (si_enum hg hm h hs).run W tk B env σ F H R r (by unfold xIt at p ⊢; rw [q] at p ⊢; exact p)
  | ok d e1 =>
    cases d with
    | list ds => exact (si_enum hg hm h hs).run W tk B env σ F H R r (post_asSeq q p rfl)
    | tuple ds => exact (si_enumT hg hm h hs).run W tk B env σ F H R r (post_asSeq q p rfl)
    | str z => exact (si_enumS hg hm h hs).run W tk B env σ F H R r (post_asSeq q p rfl)
    | _ => unfold xIt at p; rw [q] at p; exact False.elim p

/-! ### the script: a slice of it; a list, or another -/
def roOf (i : Nat) (env : Env) : Option (List D) := match env[i]? with
  | some (some (.ro ds)) => some ds
  | _ => none
theorem roOf_eq {i : Nat} {env : Env} {ds : List D} (h : roOf i env = some ds) : env[i]? = some (some (.ro ds)) := by
  unfold roOf at h
  split at h
  · cases h; assumption
  · cases h
def xRoSl (i : Nat) (ml mh : M (Option Int)) : M D := fun env => if (roOf i env).isSome = true then (ml env).bind fun l e2 => (mh e2).bind fun h e3 => .of ((roOf i e3).map fun ds => .list (cut ds l h)) e3 else .no
theorem se_roSl {lo hi : Option Expr} {p1 p2 pos : Pos} {i : Nat} {x : Str} {ml mh : M (Option Int)} (hn : PE X (.Name x p1) (tVar i)) (hl : SO X lo ml) (hh : SO X hi mh) : SE X (.Subscript (.Name x p1) (.Slice lo hi none p2) pos) (xRoSl i ml mh) := by
  refine ⟨fun W tk B env σ F H Q R p => zE.by (pe_slice sl_list hn po_w po_w) ?_⟩
  unfold xRoSl at p
  split at p
  · rename_i hs
    obtain ⟨d0, hd0⟩ := Option.isSome_iff_exists.mp hs
    obtain ⟨q0, vs0, hv, _⟩ := R.ro (roOf_eq hd0)
    refine ⟨_, hv, ?_⟩
    refine hl.run W tk B env σ F H _ R (p.bind.imp fun l e2 F2 H2 _ R2 U2 p2 => ?_)
    refine hh.run W tk B e2 σ F2 H2 _ R2 (p2.bind.imp fun h e3 F3 H3 _ R3 U3 p3 => ?_)
    cases q : roOf i e3 with
    | none => rw [q] at p3; exact False.elim p3
    | some ds =>
      rw [q] at p3
      obtain ⟨q1, vs, hv', s1, a1⟩ := R3.ro (roOf_eq q)
      rw [hv] at hv'
      cases hv'
      refine ⟨q0, vs, rfl, l_mono R3.fh s1, fun z hz => ?_⟩
      obtain ⟨g, d⟩ := dp_new_l R3.fh hz (cut_all l h a1)
      exact p3 _ _ (R3.grow g) (g.up R3.bh) _ d
  · exact False.elim p
def xOrN (ma mb : M Cn) : M Cn := fun env => (ma env).bind fun c e => match c with
  | .ls [] => mb e
  | .ls (d :: ds) => .ok (.ls (d :: ds)) e
  | _ => .no
theorem sn_one {op : BoolOp} {a : Expr} {ma : M Cn} {pos : Pos} (ha : SN X a ma) : SN X (.BoolOp op [a] pos) ma := ⟨fun W tk B env σ F H Q R p => zE.by (pe_one pe_w) (ha.run W tk B env σ F H Q R p)⟩
theorem sn_or {a b : Expr} {rest : List Expr} {ma mb : M Cn} {pos : Pos} (ha : SN X a ma) (hb : SN X (.BoolOp .Or (b :: rest) pos) mb) : SN X (.BoolOp .Or (a :: b :: rest) pos) (xOrN ma mb) := by
  refine ⟨fun W tk B env σ F H Q R p => zE.by (pe_orT pe_w pe_w) ?_⟩
  refine ha.run W tk B env σ F H _ R (PostC.imp (PostC.bindC p) fun c e1 vs F1 H1 _ l R1 U1 p1 v hv => ?_)
  subst hv
  cases c with
  | ls ds =>
    obtain ⟨fp, o, nd, z⟩ := R1.own
    cases o with
    | yes h q =>
      cases h with
      | @ls a vs ds a1 a2 =>
        cases ds with
        | nil =>
          have e : vs = [] := (dpAll_nil a2).mpr rfl
          subst e
          refine ⟨false, .inl ⟨[], .inl (.inl a1), rfl⟩, ?_⟩
          rw [if_neg Bool.false_ne_true]
          exact hb.run W tk B e1 σ F1 H1 Q (Rel.drop R1) p1
        | cons d ds =>
          cases a2 with
          | cons b1 b2 =>
            refine ⟨true, .inl ⟨_, .inl (.inl a1), rfl⟩, ?_⟩
            rw [if_pos rfl]
            exact p1 _ F1 H1 rfl R1 Up.refl _ rfl
  | _ => exact False.elim p1
end
end Dl

/-! Dl9: what the printed derivations lean on. Own work. -/
namespace Dl
open PySem PySem.Spec PyProof.Rows L2
theorem hu64 {k : Nat} {A : Around} (hr : Room k A) : A.units + 64 < cLine := by
  have := hr.un
  omega
theorem hu65 {k : Nat} {A : Around} (hr : Room k A) : A.units + 65 < cLine := by
  have := hr.un
  omega
theorem se_globInt {X : Cx} {x : Str} {i : Int} {pos : Pos} (hg : Gl X x) (h : ∃ t, X.mg x = some (.int i t)) (hd : (x == ("__debug__" : Str)) = false := by decide) : SE X (.Name x pos) (xk (.int i)) := by
  obtain ⟨t, h⟩ := h
  exact se_c (pe_glob (v := .int i) hg h ⟨t, rfl⟩ hd) fun _ => .int i
def fuel : Nat := 1000000
/-! ### keywords put in order -/
def permIx (ix : List Nat) {α : Type} (us ws : List α) : List α := ix.filterMap fun i => (us ++ ws)[i]?
theorem paired_app {α β : Type} {R : α → β → Prop} : ∀ {as bs : List α} {cs ds : List β}, Paired R as cs → Paired R bs ds → Paired R (as ++ bs) (cs ++ ds)
  | [], _, [], _, .nil, q => q
  | _ :: _, _, _ :: _, _, .cons h r, q => .cons h (paired_app r q)
theorem paired_at {α β : Type} {R : α → β → Prop} : ∀ {as : List α} {cs : List β} (i : Nat), Paired R as cs → (as[i]? = none ∧ cs[i]? = none) ∨ ∃ a c, as[i]? = some a ∧ cs[i]? = some c ∧ R a c
  | [], [], i, .nil => .inl ⟨by simp, by simp⟩
  | a :: _, c :: _, 0, .cons h _ => .inr ⟨a, c, rfl, rfl, h⟩
  | _ :: _, _ :: _, i + 1, .cons _ r => by simpa using paired_at i r
theorem permIx_ok (ix : List Nat) : PermOk (permIx ix) := by
  intro α β R as bs cs ds h1 h2
  have h := paired_app h1 h2
  show Paired R (ix.filterMap fun i => (as ++ bs)[i]?) (ix.filterMap fun i => (cs ++ ds)[i]?)
  induction ix with
  | nil => exact .nil
  | cons i r ih =>
    rw [List.filterMap_cons, List.filterMap_cons]
    rcases paired_at i h with ⟨e1, e2⟩ | ⟨a, c, e1, e2, q⟩
    · rw [e1, e2]; exact ih
    · rw [e1, e2]; exact .cons q ih
/-! ### how many targets -/
theorem gl0 {ds : List D} {e e' : Dl.Env} (q : gsNil ds e = some e') : ds.length = 0 := by
  cases ds with
  | nil => rfl
  | cons _ _ => cases q
theorem glS {g : Tg} {h : List D → Dl.Env → Option Dl.Env} {n : Nat} (ih : ∀ ds e e', h ds e = some e' → ds.length = n) : ∀ ds e e', gsCons g h ds e = some e' → ds.length = n + 1 := by
  intro ds e e' q
  cases ds with
  | nil => cases q
  | cons d r =>
    have q' : (g d e).bind (h r) = some e' := q
    cases k : g d e with
    | none => rw [k] at q'; cases q'
    | some e1 =>
      rw [k] at q'
      rw [List.length_cons, ih r e1 e' q']
theorem gl2 {g1 g2 : Tg} : ∀ ds e e', gsCons g1 (gsCons g2 gsNil) ds e = some e' → ds.length = 2 := glS (glS fun _ _ _ => gl0)
theorem gl3 {g1 g2 g3 : Tg} : ∀ ds e e', gsCons g1 (gsCons g2 (gsCons g3 gsNil)) ds e = some e' → ds.length = 3 := glS (glS (glS fun _ _ _ => gl0))
theorem gl4 {g1 g2 g3 g4 : Tg} : ∀ ds e e', gsCons g1 (gsCons g2 (gsCons g3 (gsCons g4 gsNil))) ds e = some e' → ds.length = 4 := glS (glS (glS (glS fun _ _ _ => gl0)))
/-! ### caught -/
structure ExcH (K : PySem.W.Frag) (C : Addr) : Prop where
  c : ExcC K C
  s : PySem.W.subIn K (.ref C) (.ref C) = some true
  v : PySem.W.kitOne K (.ref C) (.type "ValueError") = some true
def ctOf (n : Str) : Xc → Option Bool
  | .plain m => if m = n then some true else none
  | _ => none
section
variable {K : PySem.W.Frag} {mg : Str → Option Value} {n : Str} {C : Addr}
theorem ctOf_is (gC : mg n = some (.ref C)) {F H : Hp} {xc : Xc} {cls : Value} {dd : Option Addr} {b : Bool} (h : ctOf n xc = some b) (hx : IsX K mg F H xc cls dd) : b = true ∧ cls = .ref C ∧ dd = none := by
  cases xc with
  | plain m =>
    dsimp only [ctOf] at h
    split at h
    · rename_i e
      subst e
      cases h
      obtain ⟨h1, h2⟩ := hx
      rw [gC] at h1
      exact ⟨rfl, (Option.some.inj h1).symm, h2⟩
    · cases h
  | fld _ _ _ => cases h
theorem ctOf_ok (V : ExcV K C) (Hh : ExcH K C) (gC : mg n = some (.ref C)) (F H : Hp) (xc : Xc) (cls : Value) (dd : Option Addr) (b : Bool) (h : ctOf n xc = some b) (hx : IsX K mg F H xc cls dd) : PySem.W.exmOne K cls (.ref C) = some b := by
  obtain ⟨rfl, rfl, _⟩ := ctOf_is gC h hx
  exact PySem.W.exm_ref V.b Hh.c.hd V.t Hh.s
theorem xIsE_set (i a : Nat) (b : Bool) (e : Env) : xIsE i a b (e.set i (some (.raw (.ref a)))) = if i < e.length then .ok (.bool b) (e.set i (some (.raw (.ref a)))) else .no := by
  unfold xIsE
  by_cases h : i < e.length
  · rw [List.getElem?_set_self h, if_pos h]
    dsimp only
    rw [if_pos rfl]
  · rw [List.getElem?_eq_none (by rw [List.length_set]; omega), if_neg h]
end

theorem kit_VE {K : PySem.W.Frag} {C : Addr} (h : PySem.W.subIn K (.ref C) (.type "ValueError") = some true) : PySem.W.kitOne K (.ref C) (.type "ValueError") = some true := by
  unfold PySem.W.kitOne
  rw [if_neg (show ¬ ((Value.ref C == Value.type "ValueError") = true) from by intro z; exact Bool.noConfusion (z : false = true))]
  show (if PySem.W.kitMeta "ValueError" = true then PySem.W.subIn K (.ref C) (.type "ValueError") else none) = some true
  rw [if_pos (by decide +kernel), h]
/-! ### the end -/
section
variable {P : Program} {w : World} {K : PySem.W.Frag} {mg : Str → Option Value} {base : Heap} {x : Str} {st : Stmt} {ps : List Str}
theorem pr_no {k : Nat} (D : Df K mg x st ps) : Pr P w K mg base k x st ps (fun _ => .no) := by
  obtain ⟨f, fd, Fu, gm, b⟩ := D.ex
  exact ⟨f, fd, ⟨fun vs H Q E h => h.1, fun A outer s H args us vs Q E _ _ _ _ h => (by obtain ⟨_, _, _, _, _, z⟩ := h; exact False.elim z)⟩, Fu, gm, b⟩
theorem df_mk {h : Heap} (KX : K.In h) (G : h.Ns mainGlobals mg) {f : Addr} {oc : Value} {od an : Option Addr} {osl : Array (Option Value)} {kV doc pm cdv ct : Value} (a : PySem.W.nsIn K mainGlobals x = some (some (.ref f)))
    (l : K.lookup f = some ⟨oc, od, .func (PySem.W.fnOf x x (defArgs st) (defBody st) (defScope st) .none kV doc pm an cdv ct), osl⟩) (c : PySem.W.codeIn K cdv x = true) (k : PySem.W.keepIn K (.ref f) = true)
    (hb : ∀ (kV doc pm : Value) (an : Option Addr) (cdv ct : Value) (us : List Value), us.length = ps.length → bindArgs (PySem.W.fnOf x x (defArgs st) (defBody st) (defScope st) .none kV doc pm an cdv ct) ⟨us, []⟩ = pure (ps.zip us)) : Df K mg x st ps :=
  ⟨f, _, fun_mk l c k, PySem.W.mg_of KX G a, (fun_mk l c k).binds hb⟩
def spLaw (K : PySem.W.Frag) : Sp := fun vs H Q _ => ∃ (a : Addr) (ns : List Int), vs = [.ref a] ∧ SqL K H a (ns.map V.int) ∧ ns.length ≤ 63 ∧ (∀ z ∈ ns, Builtin.Int.intBits z ≤ 1048576) ∧ ∀ H', Q (.bl true) H'
theorem law_end {k : Nat} {fa : Addr} {g : Dl.Env → Out Cn} (hfa : mg x = some (.ref fa)) (G : Pr P w K mg base k x st ["script"] g) (hl : ∀ ns : List Int, ns.length ≤ 63 → (∀ z ∈ ns, Builtin.Int.intBits z ≤ 1048576) → ∃ e, g [some (.ro (ns.map PyData.int))] = .ok (.val (.bool true)) e)
    {fd : FuncData} (hfd : ∀ f fd', Fun K x x st f fd' → mg x = some (.ref f) → fd' = fd) : FnOk P w K mg base (L2.CX P w) k fa fd ["script"] (spLaw K) := by
  obtain ⟨f, fd', F, Fu, gm, b⟩ := G.ex
  have e := hfd f fd' Fu gm
  subst e
  rw [gm] at hfa
  cases hfa
  refine F.imp fun vs H Q E h => ?_
  obtain ⟨a, ns, rfl, hS, hlen, hbits, q⟩ := h
  obtain ⟨e, he⟩ := hl ns hlen hbits
  refine ⟨rfl, H, H, [some (.ro (ns.map PyData.int))], ⟨⟨[] ++ [], .yes (.ro hS (DpAll.ints ns)) .nil, by simp, fun p hp => by simp at hp⟩, Same.refl H, Same.refl H⟩, ?_⟩
  rw [he]
  intro v F' H' R U
  obtain ⟨hv, _⟩ := Rel.unval R
  cases hv
  exact q H'
end
end Dl

/-! Dl10: running the models, one piece at a time (no lambda is ever opened). Own work. -/
namespace Dl
open PySem PySem.Spec PyProof.Rows L2
/-! ### looking at slots -/
def peekC : Option (Option Cn) → Option D
  | some (some (.val d)) => some d
  | some (some (.ls ds)) => some (.list ds)
  | _ => none
def frzC (env : Env) (i : Nat) : Option (Option Cn) → Out D
  | some (some (.val d)) => .ok d env
  | some (some (.ls ds)) => .ok (.list ds) (env.set i (some (.val (.list ds))))
  | _ => .no
def mvC (env : Env) (i : Nat) : Option (Option Cn) → Out Cn
  | some (some c) => .ok c (env.set i none)
  | _ => .no
def lsC : Option (Option Cn) → Option (List D)
  | some (some (.ls ds)) => some ds
  | _ => none
def roC : Option (Option Cn) → Option (List D)
  | some (some (.ro ds)) => some ds
  | _ => none
@[simp] theorem peek_ev (i : Nat) (env : Env) : peek i env = peekC env[i]? := rfl
@[simp] theorem lsOf_ev (i : Nat) (env : Env) : lsOf i env = lsC env[i]? := rfl
@[simp] theorem roOf_ev (i : Nat) (env : Env) : roOf i env = roC env[i]? := rfl
@[simp] theorem peekC_v (d : D) : peekC (some (some (.val d))) = some d := rfl
@[simp] theorem peekC_l (ds : List D) : peekC (some (some (.ls ds))) = some (.list ds) := rfl
@[simp] theorem lsC_l (ds : List D) : lsC (some (some (.ls ds))) = some ds := rfl
@[simp] theorem roC_r (ds : List D) : roC (some (some (.ro ds))) = some ds := rfl
@[simp] theorem frzC_v (env : Env) (i : Nat) (d : D) : frzC env i (some (some (.val d))) = .ok d env := rfl
@[simp] theorem frzC_l (env : Env) (i : Nat) (ds : List D) : frzC env i (some (some (.ls ds))) = .ok (.list ds) (env.set i (some (.val (.list ds)))) := rfl
@[simp] theorem mvC_s (env : Env) (i : Nat) (c : Cn) : mvC env i (some (some c)) = .ok c (env.set i none) := rfl
@[simp] theorem xp_ev (i : Nat) (env : Env) : xp i env = .of (peek i env) env := rfl
@[simp] theorem xk_ev (d : D) (env : Env) : xk d env = .ok d env := rfl
@[simp] theorem xfr_ev (i : Nat) (env : Env) : xfr i env = frzC env i env[i]? := rfl
@[simp] theorem xmv_ev (i : Nat) (env : Env) : xmv i env = mvC env i env[i]? := rfl
/-! ### expressions -/
def kB2 (f : D → D → Option D) (x y : D) : M D := fun e => .of (f x y) e
def kB1 (f : D → D → Option D) (mb : M D) (x : D) : M D := fun e => (mb e).bind (kB2 f x)
@[simp] theorem kB2_ev (f : D → D → Option D) (x y : D) (e : Env) : kB2 f x y e = .of (f x y) e := rfl
@[simp] theorem kB1_ev (f : D → D → Option D) (mb : M D) (x : D) (e : Env) : kB1 f mb x e = (mb e).bind (kB2 f x) := rfl
@[simp] theorem xBin_ev (f : D → D → Option D) (ma mb : M D) (env : Env) : xBin f ma mb env = (ma env).bind (kB1 f mb) := rfl
def kV (f : D → D → Option D) (i : Nat) (y : D) : M D := fun e => .of ((peek i e).bind (f · y)) e
def ofP (f : D → D → Option D) (y : D) (e : Env) : Option D → Out D
  | some x => .of (f x y) e
  | none => .no
@[simp] theorem ofP_s (f : D → D → Option D) (y : D) (e : Env) (x : D) : ofP f y e (some x) = .of (f x y) e := rfl
@[simp] theorem kV_ev (f : D → D → Option D) (i : Nat) (y : D) (e : Env) : kV f i y e = ofP f y e (peek i e) := by
  unfold kV
  cases peek i e <;> rfl
@[simp] theorem xBinV_ev (f : D → D → Option D) (i : Nat) (mb : M D) (env : Env) : xBinV f i mb env = if (peek i env).isSome = true then (mb env).bind (kV f i) else .no := rfl
def kU (f : D → Option D) (x : D) : M D := fun e => .of (f x) e
@[simp] theorem kU_ev (f : D → Option D) (x : D) (e : Env) : kU f x e = .of (f x) e := rfl
@[simp] theorem xUn_ev (f : D → Option D) (ma : M D) (env : Env) : xUn f ma env = (ma env).bind (kU f) := rfl
def kCh3 (f' : D → D → Option D) (y z : D) : M D := fun e => .of (f' y z) e
def kChB (f' : D → D → Option D) (mc : M D) (y : D) (e : Env) : Option D → Out D
  | some (.bool true) => (mc e).bind (kCh3 f' y)
  | some (.bool false) => .ok (.bool false) e
  | _ => .no
def kCh2 (f f' : D → D → Option D) (mc : M D) (x y : D) : M D := fun e => kChB f' mc y e (f x y)
def kCh1 (f f' : D → D → Option D) (mb mc : M D) (x : D) : M D := fun e => (mb e).bind (kCh2 f f' mc x)
@[simp] theorem kCh3_ev (f' : D → D → Option D) (y z : D) (e : Env) : kCh3 f' y z e = .of (f' y z) e := rfl
@[simp] theorem kChB_t (f' : D → D → Option D) (mc : M D) (y : D) (e : Env) : kChB f' mc y e (some (.bool true)) = (mc e).bind (kCh3 f' y) := rfl
@[simp] theorem kChB_f (f' : D → D → Option D) (mc : M D) (y : D) (e : Env) : kChB f' mc y e (some (.bool false)) = .ok (.bool false) e := rfl
@[simp] theorem kCh2_ev (f f' : D → D → Option D) (mc : M D) (x y : D) (e : Env) : kCh2 f f' mc x y e = kChB f' mc y e (f x y) := rfl
@[simp] theorem kCh1_ev (f f' : D → D → Option D) (mb mc : M D) (x : D) (e : Env) : kCh1 f f' mb mc x e = (mb e).bind (kCh2 f f' mc x) := rfl
@[simp] theorem xChain_ev (f f' : D → D → Option D) (ma mb mc : M D) (env : Env) : xChain f f' ma mb mc env = (ma env).bind (kCh1 f f' mb mc) := by
  unfold xChain
  congr 1
def kTB : D → M Bool
  | .bool b => fun e => .ok b e
  | _ => fun _ => .no
@[simp] theorem kTB_b (b : Bool) (e : Env) : kTB (.bool b) e = .ok b e := rfl
@[simp] theorem toB_ev (m : M D) (env : Env) : toB m env = (m env).bind kTB := by
  unfold toB
  congr 1
  funext d e
  cases d <;> rfl
def kOB (b : Bool) : M D := fun e => .ok (.bool b) e
@[simp] theorem kOB_ev (b : Bool) (e : Env) : kOB b e = .ok (.bool b) e := rfl
@[simp] theorem ofB_ev (m : M Bool) (env : Env) : ofB m env = (m env).bind kOB := rfl
def kAnd (mb : M Bool) (b : Bool) : M Bool := fun e => if b = true then mb e else .ok false e
@[simp] theorem kAnd_t (mb : M Bool) (e : Env) : kAnd mb true e = mb e := rfl
@[simp] theorem kAnd_f (mb : M Bool) (e : Env) : kAnd mb false e = .ok false e := rfl
@[simp] theorem xAnd_ev (ma mb : M Bool) (env : Env) : xAnd ma mb env = (ma env).bind (kAnd mb) := rfl
def kOr (mb : M Bool) (b : Bool) : M Bool := fun e => if b = true then .ok true e else mb e
@[simp] theorem kOr_t (mb : M Bool) (e : Env) : kOr mb true e = .ok true e := rfl
@[simp] theorem kOr_f (mb : M Bool) (e : Env) : kOr mb false e = mb e := rfl
@[simp] theorem xOr_ev (ma mb : M Bool) (env : Env) : xOr ma mb env = (ma env).bind (kOr mb) := rfl
def kNot (b : Bool) : M Bool := fun e => .ok (!b) e
@[simp] theorem kNot_ev (b : Bool) (e : Env) : kNot b e = .ok (!b) e := rfl
@[simp] theorem xNot_ev (ma : M Bool) (env : Env) : xNot ma env = (ma env).bind kNot := rfl
def kIf {α : Type} (ma mb : M α) (b : Bool) : M α := fun e => if b = true then ma e else mb e
@[simp] theorem kIf_t {α : Type} (ma mb : M α) (e : Env) : kIf ma mb true e = ma e := rfl
@[simp] theorem kIf_f {α : Type} (ma mb : M α) (e : Env) : kIf ma mb false e = mb e := rfl
@[simp] theorem xIf_ev {α : Type} (mc : M Bool) (ma mb : M α) (env : Env) : xIf mc ma mb env = (mc env).bind (kIf ma mb) := rfl
def kAV (mb : M D) : D → M D
  | .bool true => mb
  | .bool false => fun e => .ok (.bool false) e
  | _ => fun _ => .no
@[simp] theorem kAV_t (mb : M D) (e : Env) : kAV mb (.bool true) e = mb e := rfl
@[simp] theorem kAV_f (mb : M D) (e : Env) : kAV mb (.bool false) e = .ok (.bool false) e := rfl
@[simp] theorem xAndV_ev (ma mb : M D) (env : Env) : xAndV ma mb env = (ma env).bind (kAV mb) := by
  unfold xAndV
  congr 1
  funext d e
  match d with
  | .bool true => rfl
  | .bool false => rfl
  | .none => rfl
  | .int _ => rfl
  | .str _ => rfl
  | .list _ => rfl
  | .tuple _ => rfl
  | .dict _ => rfl
def kOV (mb : M D) : D → M D
  | .bool true => fun e => .ok (.bool true) e
  | .bool false => mb
  | _ => fun _ => .no
@[simp] theorem kOV_t (mb : M D) (e : Env) : kOV mb (.bool true) e = .ok (.bool true) e := rfl
@[simp] theorem kOV_f (mb : M D) (e : Env) : kOV mb (.bool false) e = mb e := rfl
@[simp] theorem xOrV_ev (ma mb : M D) (env : Env) : xOrV ma mb env = (ma env).bind (kOV mb) := by
  unfold xOrV
  congr 1
  funext d e
  match d with
  | .bool true => rfl
  | .bool false => rfl
  | .none => rfl
  | .int _ => rfl
  | .str _ => rfl
  | .list _ => rfl
  | .tuple _ => rfl
  | .dict _ => rfl
@[simp] theorem xNil_ev (env : Env) : xNil env = .ok [] env := rfl
def kCs2 (d : D) (ds : List D) : M (List D) := fun e => .ok (d :: ds) e
def kCs1 (mr : M (List D)) (d : D) : M (List D) := fun e => (mr e).bind (kCs2 d)
@[simp] theorem kCs2_ev (d : D) (ds : List D) (e : Env) : kCs2 d ds e = .ok (d :: ds) e := rfl
@[simp] theorem kCs1_ev (mr : M (List D)) (d : D) (e : Env) : kCs1 mr d e = (mr e).bind (kCs2 d) := rfl
@[simp] theorem xCons_ev (ma : M D) (mr : M (List D)) (env : Env) : xCons ma mr env = (ma env).bind (kCs1 mr) := rfl
def kTp (ds : List D) : M D := fun e => if ds.length ≤ cap then .ok (.tuple ds) e else .no
def kLs (ds : List D) : M Cn := fun e => if ds.length ≤ cap then .ok (.ls ds) e else .no
@[simp] theorem kTp_ev (ds : List D) (e : Env) : kTp ds e = if ds.length ≤ cap then .ok (.tuple ds) e else .no := rfl
@[simp] theorem kLs_ev (ds : List D) (e : Env) : kLs ds e = if ds.length ≤ cap then .ok (.ls ds) e else .no := rfl
@[simp] theorem xTup_ev (mr : M (List D)) (env : Env) : xTup mr env = (mr env).bind kTp := rfl
@[simp] theorem xLst_ev (mr : M (List D)) (env : Env) : xLst mr env = (mr env).bind kLs := rfl
def kFz : Cn → M D
  | .val d => fun e => .ok d e
  | .ls ds => fun e => .ok (.list ds) e
  | _ => fun _ => .no
@[simp] theorem kFz_v (d : D) (e : Env) : kFz (.val d) e = .ok d e := rfl
@[simp] theorem kFz_l (ds : List D) (e : Env) : kFz (.ls ds) e = .ok (.list ds) e := rfl
@[simp] theorem xFz_ev (m : M Cn) (env : Env) : xFz m env = (m env).bind kFz := by
  unfold xFz
  congr 1
  funext c e
  cases c <;> rfl
def kNw (d : D) : M Cn := fun e => .ok (.val d) e
@[simp] theorem kNw_ev (d : D) (e : Env) : kNw d e = .ok (.val d) e := rfl
@[simp] theorem xNw_ev (m : M D) (env : Env) : xNw m env = (m env).bind kNw := rfl
@[simp] theorem ofL_s (ds : List D) (e : Env) : ofL (some ds) e = .ok (.ls ds) e := rfl
def kUN (f : D → Option (List D)) (x : D) : M Cn := fun e => ofL (f x) e
@[simp] theorem kUN_ev (f : D → Option (List D)) (x : D) (e : Env) : kUN f x e = ofL (f x) e := rfl
@[simp] theorem xUnN_ev (f : D → Option (List D)) (ma : M D) (env : Env) : xUnN f ma env = (ma env).bind (kUN f) := by
  unfold xUnN
  congr 1
  funext x e
  show _ = ofL (f x) e
  cases f x <;> rfl
def kBN2 (f : D → D → Option (List D)) (x y : D) : M Cn := fun e => ofL (f x y) e
def kBN1 (f : D → D → Option (List D)) (mb : M D) (x : D) : M Cn := fun e => (mb e).bind (kBN2 f x)
@[simp] theorem kBN2_ev (f : D → D → Option (List D)) (x y : D) (e : Env) : kBN2 f x y e = ofL (f x y) e := rfl
@[simp] theorem kBN1_ev (f : D → D → Option (List D)) (mb : M D) (x : D) (e : Env) : kBN1 f mb x e = (mb e).bind (kBN2 f x) := rfl
@[simp] theorem xBinN_ev (f : D → D → Option (List D)) (ma mb : M D) (env : Env) : xBinN f ma mb env = (ma env).bind (kBN1 f mb) := rfl
def ofPN (f : D → D → Option (List D)) (y : D) (e : Env) : Option D → Out Cn
  | some x => ofL (f x y) e
  | none => .no
def kVN (f : D → D → Option (List D)) (i : Nat) (y : D) : M Cn := fun e => ofPN f y e (peek i e)
@[simp] theorem ofPN_s (f : D → D → Option (List D)) (y : D) (e : Env) (x : D) : ofPN f y e (some x) = ofL (f x y) e := rfl
@[simp] theorem kVN_ev (f : D → D → Option (List D)) (i : Nat) (y : D) (e : Env) : kVN f i y e = ofPN f y e (peek i e) := rfl
@[simp] theorem xBinVN_ev (f : D → D → Option (List D)) (i : Nat) (mb : M D) (env : Env) : xBinVN f i mb env = if (peek i env).isSome = true then (mb env).bind (kVN f i) else .no := by
  unfold xBinVN
  congr 2
  funext y e
  show ofL _ e = ofPN f y e (peek i e)
  cases peek i e <;> rfl
/-! ### slices -/
def kSo : D → M (Option Int)
  | .int i => fun e => .ok (some i) e
  | _ => fun _ => .no
@[simp] theorem kSo_i (i : Int) (e : Env) : kSo (.int i) e = .ok (some i) e := rfl
@[simp] theorem oNo_ev (env : Env) : oNo env = .ok none env := rfl
@[simp] theorem oSo_ev (m : M D) (env : Env) : oSo m env = (m env).bind kSo := by
  unfold oSo
  congr 1
  funext d e
  cases d <;> rfl
def kS3 (f : D → Option Int → Option Int → Option D) (x : D) (l h : Option Int) : M D := fun e => .of (f x l h) e
def kS2 (f : D → Option Int → Option Int → Option D) (mh : M (Option Int)) (x : D) (l : Option Int) : M D := fun e => (mh e).bind (kS3 f x l)
def kS1 (f : D → Option Int → Option Int → Option D) (ml mh : M (Option Int)) (x : D) : M D := fun e => (ml e).bind (kS2 f mh x)
@[simp] theorem kS3_ev (f : D → Option Int → Option Int → Option D) (x : D) (l h : Option Int) (e : Env) : kS3 f x l h e = .of (f x l h) e := rfl
@[simp] theorem kS2_ev (f : D → Option Int → Option Int → Option D) (mh : M (Option Int)) (x : D) (l : Option Int) (e : Env) : kS2 f mh x l e = (mh e).bind (kS3 f x l) := rfl
@[simp] theorem kS1_ev (f : D → Option Int → Option Int → Option D) (ml mh : M (Option Int)) (x : D) (e : Env) : kS1 f ml mh x e = (ml e).bind (kS2 f mh x) := rfl
@[simp] theorem xSl_ev (f : D → Option Int → Option Int → Option D) (ma : M D) (ml mh : M (Option Int)) (env : Env) : xSl f ma ml mh env = (ma env).bind (kS1 f ml mh) := rfl
def ofS (f : D → Option Int → Option Int → Option D) (l h : Option Int) (e : Env) : Option D → Out D
  | some x => .of (f x l h) e
  | none => .no
@[simp] theorem ofS_s (f : D → Option Int → Option Int → Option D) (l h : Option Int) (e : Env) (x : D) : ofS f l h e (some x) = .of (f x l h) e := rfl
def kSV2 (f : D → Option Int → Option Int → Option D) (i : Nat) (l h : Option Int) : M D := fun e => ofS f l h e (peek i e)
def kSV1 (f : D → Option Int → Option Int → Option D) (i : Nat) (mh : M (Option Int)) (l : Option Int) : M D := fun e => (mh e).bind (kSV2 f i l)
@[simp] theorem kSV2_ev (f : D → Option Int → Option Int → Option D) (i : Nat) (l h : Option Int) (e : Env) : kSV2 f i l h e = ofS f l h e (peek i e) := rfl
@[simp] theorem kSV1_ev (f : D → Option Int → Option Int → Option D) (i : Nat) (mh : M (Option Int)) (l : Option Int) (e : Env) : kSV1 f i mh l e = (mh e).bind (kSV2 f i l) := rfl
@[simp] theorem xSlV_ev (f : D → Option Int → Option Int → Option D) (i : Nat) (ml mh : M (Option Int)) (env : Env) : xSlV f i ml mh env = if (peek i env).isSome = true then (ml env).bind (kSV1 f i mh) else .no := by
  unfold xSlV
  congr 2
  funext l e
  show _ = (mh e).bind (kSV2 f i l)
  congr 1
  funext h e3
  show _ = ofS f l h e3 (peek i e3)
  cases peek i e3 <;> rfl
def ofR (l h : Option Int) (e : Env) : Option (List D) → Out D
  | some ds => .ok (.list (cut ds l h)) e
  | none => .no
@[simp] theorem ofR_s (l h : Option Int) (e : Env) (ds : List D) : ofR l h e (some ds) = .ok (.list (cut ds l h)) e := rfl
def kRo2 (i : Nat) (l h : Option Int) : M D := fun e => ofR l h e (roOf i e)
def kRo1 (i : Nat) (mh : M (Option Int)) (l : Option Int) : M D := fun e => (mh e).bind (kRo2 i l)
@[simp] theorem kRo2_ev (i : Nat) (l h : Option Int) (e : Env) : kRo2 i l h e = ofR l h e (roOf i e) := rfl
@[simp] theorem kRo1_ev (i : Nat) (mh : M (Option Int)) (l : Option Int) (e : Env) : kRo1 i mh l e = (mh e).bind (kRo2 i l) := rfl
@[simp] theorem xRoSl_ev (i : Nat) (ml mh : M (Option Int)) (env : Env) : xRoSl i ml mh env = if (roOf i env).isSome = true then (ml env).bind (kRo1 i mh) else .no := by
  unfold xRoSl
  congr 2
  funext l e
  show _ = (mh e).bind (kRo2 i l)
  congr 1
  funext h e3
  show _ = ofR l h e3 (roOf i e3)
  cases roOf i e3 <;> rfl
def kOrN (mb : M Cn) : Cn → M Cn
  | .ls [] => mb
  | .ls (d :: ds) => fun e => .ok (.ls (d :: ds)) e
  | _ => fun _ => .no
@[simp] theorem kOrN_n (mb : M Cn) (e : Env) : kOrN mb (.ls []) e = mb e := rfl
@[simp] theorem kOrN_c (mb : M Cn) (e : Env) (d : D) (ds : List D) : kOrN mb (.ls (d :: ds)) e = .ok (.ls (d :: ds)) e := rfl
@[simp] theorem xOrN_ev (ma mb : M Cn) (env : Env) : xOrN ma mb env = (ma env).bind (kOrN mb) := by
  unfold xOrN
  congr 1
  funext c e
  match c with
  | .ls [] => rfl
  | .ls (_ :: _) => rfl
  | .val _ => rfl
  | .dk _ => rfl
  | .lc _ => rfl
  | .ob _ _ => rfl
  | .raw _ => rfl
  | .ro _ => rfl
/-! ### methods -/
def ofM (e : Env) (i : Nat) : Option (D × List D) → Out D
  | some (z, ds) => .ok z (e.set i (some (.ls ds)))
  | none => .no
@[simp] theorem ofM_s (e : Env) (i : Nat) (z : D) (ds : List D) : ofM e i (some (z, ds)) = .ok z (e.set i (some (.ls ds))) := rfl
def ofML (f : List D → List D → Option (D × List D)) (as : List D) (e : Env) (i : Nat) : Option (List D) → Out D
  | some ds => ofM e i (f ds as)
  | none => .no
@[simp] theorem ofML_s (f : List D → List D → Option (D × List D)) (as : List D) (e : Env) (i : Nat) (ds : List D) : ofML f as e i (some ds) = ofM e i (f ds as) := rfl
def kMu (f : List D → List D → Option (D × List D)) (i : Nat) (as : List D) : M D := fun e => ofML f as e i (lsOf i e)
@[simp] theorem kMu_ev (f : List D → List D → Option (D × List D)) (i : Nat) (as : List D) (e : Env) : kMu f i as e = ofML f as e i (lsOf i e) := rfl
@[simp] theorem xMu_ev (f : List D → List D → Option (D × List D)) (i : Nat) (mr : M (List D)) (env : Env) : xMu f i mr env = if (lsOf i env).isSome = true then (mr env).bind (kMu f i) else .no := by
  unfold xMu
  congr 2
  funext as e
  show _ = ofML f as e i (lsOf i e)
  cases lsOf i e with
  | none => rfl
  | some ds =>
    show _ = ofM e i (f ds as)
    show (match f ds as with
      | some (z, ds') => Out.ok z (e.set i (some (.ls ds')))
      | none => .no) = _
    cases f ds as <;> rfl
@[simp] theorem mAppend_ev (ds : List D) (d : D) (h : ds.length < cap) : mAppend ds [d] = some (.none, ds ++ [d]) := if_pos h
@[simp] theorem mExtend_ev (ds es : List D) (h : ds.length + es.length ≤ cap) : mExtend ds [.list es] = some (.none, ds ++ es) := if_pos h
/-! ### iterables -/
def kIt (f : D → Option (List D)) (d : D) : M (List D) := fun e => .of (f d) e
@[simp] theorem kIt_ev (f : D → Option (List D)) (d : D) (e : Env) : kIt f d e = .of (f d) e := rfl
@[simp] theorem xIt_ev (f : D → Option (List D)) (ma : M D) (env : Env) : xIt f ma env = (ma env).bind (kIt f) := rfl
@[simp] theorem asSeq_l (ds : List D) : asSeq (.list ds) = some ds := rfl
@[simp] theorem asSeq_t (ds : List D) : asSeq (.tuple ds) = some ds := rfl
@[simp] theorem asSeq_s (z : Str) : asSeq (.str z) = some (signs z) := rfl
noncomputable def kR1 : D → M (List D)
  | .int j => fun e => if rngB j = true then .ok (rangeD 0 j.toNat) e else .no
  | _ => fun _ => .no
theorem kR1_i (j : Int) (e : Env) (h : -4611686018427387904 ≤ j ∧ j < 4611686018427387904) : kR1 (.int j) e = .ok (rangeD 0 j.toNat) e := if_pos (rngB_t h)
@[simp] theorem xRng1_ev (ma : M D) (env : Env) : xRng1 ma env = (ma env).bind kR1 := by
  unfold xRng1
  congr 1
  funext d e
  cases d <;> rfl
noncomputable def kR22 : D → D → M (List D)
  | .int i, .int j => fun e => if rngB i = true ∧ rngB j = true then .ok (rangeD i (j - i).toNat) e else .no
  | _, _ => fun _ => .no
theorem kR22_i (i j : Int) (e : Env) (h : -4611686018427387904 ≤ i ∧ i < 4611686018427387904 ∧ -4611686018427387904 ≤ j ∧ j < 4611686018427387904) : kR22 (.int i) (.int j) e = .ok (rangeD i (j - i).toNat) e := if_pos ⟨rngB_t ⟨h.1, h.2.1⟩, rngB_t h.2.2⟩
noncomputable def kR21 (mb : M D) (d : D) : M (List D) := fun e => (mb e).bind (kR22 d)
@[simp] theorem kR21_ev (mb : M D) (d : D) (e : Env) : kR21 mb d e = (mb e).bind (kR22 d) := rfl
@[simp] theorem xRng2_ev (ma mb : M D) (env : Env) : xRng2 ma mb env = (ma env).bind (kR21 mb) := by
  unfold xRng2
  congr 1
  funext d e
  show _ = (mb e).bind (kR22 d)
  congr 1
  funext d2 e2
  cases d <;> cases d2 <;> rfl
def kZ2 : D → D → M (List D)
  | .list ds, .list es => fun e => .ok (zipped ds es) e
  | .tuple ds, .tuple es => fun e => .ok (zipped ds es) e
  | _, _ => fun _ => .no
@[simp] theorem kZ2_l (ds es : List D) (e : Env) : kZ2 (.list ds) (.list es) e = .ok (zipped ds es) e := rfl
@[simp] theorem kZ2_t (ds es : List D) (e : Env) : kZ2 (.tuple ds) (.tuple es) e = .ok (zipped ds es) e := rfl
def kZ1 (mb : M D) (d : D) : M (List D) := fun e => (mb e).bind (kZ2 d)
@[simp] theorem kZ1_ev (mb : M D) (d : D) (e : Env) : kZ1 mb d e = (mb e).bind (kZ2 d) := rfl
@[simp] theorem xZip_ev (ma mb : M D) (env : Env) : xZip ma mb env = (ma env).bind (kZ1 mb) := by
  unfold xZip
  congr 1
  funext d e
  show _ = (mb e).bind (kZ2 d)
  congr 1
  funext d2 e2
  cases d <;> cases d2 <;> rfl
/-! ### comprehensions, over what is walked -/
def lcEnd (own : List Nat) (e1 : Env) (acc : List D) : M Cn := fun e2 => .ok (.ls acc) (keepE e1 (wipeE e2 own) own)
@[simp] theorem lcEnd_ev (own : List Nat) (e1 : Env) (acc : List D) (e2 : Env) : lcEnd own e1 acc e2 = .ok (.ls acc) (keepE e1 (wipeE e2 own) own) := rfl
def kLc (own : List Nat) (tg : Tg) (mc : M Bool) (me : M D) (ds : List D) : M Cn := fun e1 => if ds.length ≤ cap then (lcGo own tg mc me ds [] (wipeE e1 own)).bind (lcEnd own e1) else .no
theorem kLc_ev (own : List Nat) (tg : Tg) (mc : M Bool) (me : M D) (ds : List D) (e1 : Env) : kLc own tg mc me ds e1 = if ds.length ≤ cap then (lcGo own tg mc me ds [] (wipeE e1 own)).bind (lcEnd own e1) else .no := rfl
@[simp] theorem xLc_ev (own : List Nat) (mi : M (List D)) (tg : Tg) (mc : M Bool) (me : M D) (env : Env) : xLc own mi tg mc me env = (mi env).bind (kLc own tg mc me) := rfl
/-- every turn alike, the slots as before -/
theorem lcGo_map {own : List Nat} {tg : Tg} {mc : M Bool} {me : M D} {E : Env} (f : D → D) : ∀ (ds acc : List D), (∀ d ∈ ds, ∃ e1 e2 e3, tg d E = some e1 ∧ mc e1 = .ok true e2 ∧ me e2 = .ok (f d) e3 ∧ wipeE e3 own = E) → lcGo own tg mc me ds acc E = .ok (acc ++ ds.map f) E
  | [], acc, _ => by
    unfold lcGo
    rw [List.map_nil, List.append_nil]
  | d :: ds, acc, h => by
    obtain ⟨e1, e2, e3, h1, h2, h3, h4⟩ := h d List.mem_cons_self
    unfold lcGo
    rw [h1]
    dsimp only
    rw [h2]
    dsimp only
    rw [h3]
    dsimp only
    rw [h4, lcGo_map f ds (acc ++ [f d]) fun d' hd => h d' (List.mem_cons_of_mem _ hd), List.map_cons, List.append_assoc]
    rfl
/-- .. with a test -/
theorem lcGo_filter {own : List Nat} {tg : Tg} {mc : M Bool} {me : M D} {E : Env} (c : D → Bool) (f : D → D) : ∀ (ds acc : List D), (∀ d ∈ ds, ∃ e1 e2, tg d E = some e1 ∧ mc e1 = .ok (c d) e2 ∧ (c d = true → ∃ e3, me e2 = .ok (f d) e3 ∧ wipeE e3 own = E) ∧ (c d = false → wipeE e2 own = E)) → lcGo own tg mc me ds acc E = .ok (acc ++ (ds.filter c).map f) E
  | [], acc, _ => by
    unfold lcGo
    rw [List.filter_nil, List.map_nil, List.append_nil]
  | d :: ds, acc, h => by
    obtain ⟨e1, e2, h1, h2, h3, h4⟩ := h d List.mem_cons_self
    unfold lcGo
    rw [h1]
    dsimp only
    rw [h2]
    cases hc : c d with
    | true =>
      obtain ⟨e3, h5, h6⟩ := h3 hc
      dsimp only
      rw [h5]
      dsimp only
      rw [h6, lcGo_filter c f ds (acc ++ [f d]) fun d' hd => h d' (List.mem_cons_of_mem _ hd), List.filter_cons_of_pos hc, List.map_cons, List.append_assoc]
      rfl
    | false =>
      dsimp only
      rw [h4 hc, lcGo_filter c f ds acc fun d' hd => h d' (List.mem_cons_of_mem _ hd), List.filter_cons_of_neg (by rw [hc]; exact Bool.false_ne_true)]
/-- .. with slots that change: what S tells -/
theorem lcGo_st {own : List Nat} {tg : Tg} {mc : M Bool} {me : M D} {α : Type} (st : α → Env) (step : D → α → D × α) : ∀ (ds acc : List D) (a : α), (∀ d ∈ ds, ∀ a : α, ∃ e1 e2 e3, tg d (st a) = some e1 ∧ mc e1 = .ok true e2 ∧ me e2 = .ok (step d a).1 e3 ∧ wipeE e3 own = st (step d a).2) →
    ∃ out a', lcGo own tg mc me ds acc (st a) = .ok (acc ++ out) (st a') ∧ out.length = ds.length
  | [], acc, a, _ => ⟨[], a, by unfold lcGo; rw [List.append_nil], rfl⟩
  | d :: ds, acc, a, h => by
    obtain ⟨e1, e2, e3, h1, h2, h3, h4⟩ := h d List.mem_cons_self a
    obtain ⟨out, a', h5, h6⟩ := lcGo_st st step ds (acc ++ [(step d a).1]) (step d a).2 fun d' hd => h d' (List.mem_cons_of_mem _ hd)
    refine ⟨(step d a).1 :: out, a', ?_, congrArg (· + 1) h6⟩
    unfold lcGo
    rw [h1]
    dsimp only
    rw [h2]
    dsimp only
    rw [h3]
    dsimp only
    rw [h4, h5, List.append_assoc]
    rfl
/-! ### calls -/
@[simp] theorem aNil_ev (env : Env) : aNil env = .ok [] env := rfl
def kA2 (c : Cn) (cs : List Cn) : M (List Cn) := fun e => .ok (c :: cs) e
def kAv (mr : M (List Cn)) (d : D) : M (List Cn) := fun e => (mr e).bind (kA2 (.val d))
def kAn (mr : M (List Cn)) (c : Cn) : M (List Cn) := fun e => (mr e).bind (kA2 c)
@[simp] theorem kA2_ev (c : Cn) (cs : List Cn) (e : Env) : kA2 c cs e = .ok (c :: cs) e := rfl
@[simp] theorem kAv_ev (mr : M (List Cn)) (d : D) (e : Env) : kAv mr d e = (mr e).bind (kA2 (.val d)) := rfl
@[simp] theorem kAn_ev (mr : M (List Cn)) (c : Cn) (e : Env) : kAn mr c e = (mr e).bind (kA2 c) := rfl
@[simp] theorem aVal_ev (ma : M D) (mr : M (List Cn)) (env : Env) : aVal ma mr env = (ma env).bind (kAv mr) := rfl
@[simp] theorem aNew_ev (ma : M Cn) (mr : M (List Cn)) (env : Env) : aNew ma mr env = (ma env).bind (kAn mr) := rfl
@[simp] theorem aIo_ev (i : Nat) (mr : M (List Cn)) (env : Env) : aIo i mr env = (xmv i env).bind (kAn mr) := rfl
@[simp] theorem hasC_s (c : Cn) : hasC (some (some c)) = true := rfl
def kC2 (cs : List Cn) (c : Cn) : M (List Cn) := fun e => .ok (c :: cs) e
@[simp] theorem kC2_ev (cs : List Cn) (c : Cn) (e : Env) : kC2 cs c e = .ok (c :: cs) e := rfl
@[simp] theorem kIoL_ev (i : Nat) (cs : List Cn) (e : Env) : kIoL i cs e = (xmv i e).bind (kC2 cs) := rfl
@[simp] theorem aIoL_ev (i : Nat) (mr : M (List Cn)) (env : Env) : aIoL i mr env = if hasC env[i]? = true then (mr env).bind (kIoL i) else .no := rfl
def backG (ios : List (Option Nat)) (e1 : Env) : Out Cn → Out Cn
  | .ok c e2 => .ok c (putBack ios e2 e1)
  | .err x e2 => .err x (putBack ios e2 e1)
  | .no => .no
@[simp] theorem backG_ok (ios : List (Option Nat)) (e1 : Env) (c : Cn) (e2 : Env) : backG ios e1 (.ok c e2) = .ok c (putBack ios e2 e1) := rfl
@[simp] theorem backG_err (ios : List (Option Nat)) (e1 : Env) (x : Xc) (e2 : Env) : backG ios e1 (.err x e2) = .err x (putBack ios e2 e1) := rfl
def kCall (n : Nat) (g : Env → Out Cn) (ios : List (Option Nat)) (cs : List Cn) : M Cn := fun e1 => callG n g ios cs e1
@[simp] theorem kCall_ev (n : Nat) (g : Env → Out Cn) (ios : List (Option Nat)) (cs : List Cn) (e1 : Env) : kCall n g ios cs e1 = if cs.length = n then backG ios e1 (g (cs.map some)) else .no := by
  unfold kCall callG
  congr 1
@[simp] theorem xCall_ev (n : Nat) (g : Env → Out Cn) (ios : List (Option Nat)) (mr : M (List Cn)) (env : Env) : xCall n g ios mr env = (mr env).bind (kCall n g ios) := rfl
@[simp] theorem putBack_nil (ps e : Env) : putBack [] ps e = e := by cases ps <;> rfl
@[simp] theorem putBack_n (ios : List (Option Nat)) (p : Option Cn) (ps e : Env) : putBack (none :: ios) (p :: ps) e = putBack ios ps e := rfl
@[simp] theorem putBack_s (i : Nat) (ios : List (Option Nat)) (p : Option Cn) (ps e : Env) : putBack (some i :: ios) (p :: ps) e = putBack ios ps (e.set i p) := rfl
def kK2 (n j m : Nat) (g : Env → Out Cn) (perm : {α : Type} → List α → List α → List α) (ds es : List D) : M Cn := fun e => if ds.length = j ∧ es.length = m then kCall n g [] ((perm ds es).map Cn.val) e else .no
def kK1 (n j m : Nat) (g : Env → Out Cn) (perm : {α : Type} → List α → List α → List α) (mk : M (List D)) (ds : List D) : M Cn := fun e => (mk e).bind (kK2 n j m g perm ds)
@[simp] theorem kK2_ev (n j m : Nat) (g : Env → Out Cn) (perm : {α : Type} → List α → List α → List α) (ds es : List D) (e : Env) : kK2 n j m g perm ds es e = if ds.length = j ∧ es.length = m then kCall n g [] ((perm ds es).map Cn.val) e else .no := rfl
@[simp] theorem kK1_ev (n j m : Nat) (g : Env → Out Cn) (perm : {α : Type} → List α → List α → List α) (mk : M (List D)) (ds : List D) (e : Env) : kK1 n j m g perm mk ds e = (mk e).bind (kK2 n j m g perm ds) := rfl
@[simp] theorem xCallK_ev (n j m : Nat) (g : Env → Out Cn) (perm : {α : Type} → List α → List α → List α) (ma mk : M (List D)) (env : Env) : xCallK n j m g perm ma mk env = (ma env).bind (kK1 n j m g perm mk) := rfl
/-! ### statements -/
@[simp] theorem xNx_ev (env : Env) : xNx env = .ok .nx env := rfl
@[simp] theorem xBk_ev (env : Env) : xBk env = .ok .bk env := rfl
@[simp] theorem xCt_ev (env : Env) : xCt env = .ok .ct env := rfl
def kSeq (m2 : MS) : Fl → MS
  | .nx => m2
  | f => fun e => .ok f e
@[simp] theorem kSeq_nx (m2 : MS) (e : Env) : kSeq m2 .nx e = m2 e := rfl
@[simp] theorem kSeq_ret (m2 : MS) (c : Cn) (e : Env) : kSeq m2 (.ret c) e = .ok (.ret c) e := rfl
@[simp] theorem kSeq_bk (m2 : MS) (e : Env) : kSeq m2 .bk e = .ok .bk e := rfl
@[simp] theorem kSeq_ct (m2 : MS) (e : Env) : kSeq m2 .ct e = .ok .ct e := rfl
@[simp] theorem xSeq_ev (m1 m2 : MS) (env : Env) : xSeq m1 m2 env = (m1 env).bind (kSeq m2) := by
  unfold xSeq
  congr 1
  funext f e
  cases f <;> rfl
def kEx {α : Type} (_ : α) : MS := fun e => .ok .nx e
@[simp] theorem kEx_ev {α : Type} (a : α) (e : Env) : kEx a e = .ok .nx e := rfl
@[simp] theorem xEx_ev {α : Type} (m : M α) (env : Env) : xEx m env = (m env).bind kEx := rfl
def kSet (i : Nat) (d : D) : MS := fun e => .ok .nx (e.set i (some (.val d)))
def kSetN (i : Nat) (c : Cn) : MS := fun e => .ok .nx (e.set i (some c))
def kRet (c : Cn) : MS := fun e => .ok (.ret c) e
def kRetE (d : D) : MS := fun e => .ok (.ret (.val d)) e
@[simp] theorem kSet_ev (i : Nat) (d : D) (e : Env) : kSet i d e = .ok .nx (e.set i (some (.val d))) := rfl
@[simp] theorem kSetN_ev (i : Nat) (c : Cn) (e : Env) : kSetN i c e = .ok .nx (e.set i (some c)) := rfl
@[simp] theorem kRet_ev (c : Cn) (e : Env) : kRet c e = .ok (.ret c) e := rfl
@[simp] theorem kRetE_ev (d : D) (e : Env) : kRetE d e = .ok (.ret (.val d)) e := rfl
@[simp] theorem xSet_ev (i : Nat) (m : M D) (env : Env) : xSet i m env = (m env).bind (kSet i) := rfl
@[simp] theorem xSetN_ev (i : Nat) (m : M Cn) (env : Env) : xSetN i m env = (m env).bind (kSetN i) := rfl
@[simp] theorem xRet_ev (m : M Cn) (env : Env) : xRet m env = (m env).bind kRet := rfl
@[simp] theorem xRetE_ev (m : M D) (env : Env) : xRetE m env = (m env).bind kRetE := rfl
@[simp] theorem xRet0_ev (env : Env) : xRet0 env = .ok (.ret (.val .none)) env := rfl
@[simp] theorem xRaise_ev (x : Xc) (env : Env) : xRaise x env = .err x env := rfl
def kIfS (a b : MS) (k : Bool) : MS := fun e => if k = true then a e else b e
@[simp] theorem kIfS_t (a b : MS) (e : Env) : kIfS a b true e = a e := rfl
@[simp] theorem kIfS_f (a b : MS) (e : Env) : kIfS a b false e = b e := rfl
@[simp] theorem xIfS_ev (mc : M Bool) (a b : MS) (env : Env) : xIfS mc a b env = (mc env).bind (kIfS a b) := rfl
def ofG : Option Env → Out Fl
  | some e => .ok .nx e
  | none => .no
@[simp] theorem ofG_s (e : Env) : ofG (some e) = .ok .nx e := rfl
def kAsg (g : Tg) (d : D) : MS := fun e => ofG (g d e)
@[simp] theorem kAsg_ev (g : Tg) (d : D) (e : Env) : kAsg g d e = ofG (g d e) := rfl
@[simp] theorem xAsg_ev (m : M D) (g : Tg) (env : Env) : xAsg m g env = (m env).bind (kAsg g) := by
  unfold xAsg
  congr 1
@[simp] theorem gNm_ev (i : Nat) (d : D) (e : Env) : gNm i d e = some (e.set i (some (.val d))) := rfl
@[simp] theorem gTp_ev (h : List D → Env → Option Env) (ds : List D) (e : Env) : gTp h (.tuple ds) e = h ds e := rfl
@[simp] theorem gUl_ev (h : List D → Env → Option Env) (ds : List D) (e : Env) : gUl h (.list ds) e = h ds e := rfl
@[simp] theorem gsNil_ev (e : Env) : gsNil [] e = some e := rfl
@[simp] theorem gsCons_ev (g : Tg) (h : List D → Env → Option Env) (d : D) (r : List D) (e : Env) : gsCons g h (d :: r) e = (g d e).bind (h r) := rfl
def kPar (i j : Nat) : List Cn → MS
  | [c1, c2] => fun e => .ok .nx ((e.set i (some c1)).set j (some c2))
  | _ => fun _ => .no
@[simp] theorem kPar_ev (i j : Nat) (c1 c2 : Cn) (e : Env) : kPar i j [c1, c2] e = .ok .nx ((e.set i (some c1)).set j (some c2)) := rfl
@[simp] theorem xPar_ev (i j : Nat) (mr : M (List Cn)) (env : Env) : xPar i j mr env = (mr env).bind (kPar i j) := by
  unfold xPar
  congr 1
  funext cs e
  match cs with
  | [] => rfl
  | [_] => rfl
  | [_, _] => rfl
  | _ :: _ :: _ :: _ => rfl
def ofX (e : Env) (j : Nat) (ds : List D) (d : D) : Option Nat → Out Fl
  | some q => .ok .nx (e.set j (some (.ls (ds.set q d))))
  | none => .no
@[simp] theorem ofX_s (e : Env) (j : Nat) (ds : List D) (d : D) (q : Nat) : ofX e j ds d (some q) = .ok .nx (e.set j (some (.ls (ds.set q d)))) := rfl
def ofXL (e : Env) (j : Nat) (k d : D) : Option (List D) → Out Fl
  | some ds => ofX e j ds d (dIx ds.length k)
  | none => .no
@[simp] theorem ofXL_s (e : Env) (j : Nat) (k d : D) (ds : List D) : ofXL e j k d (some ds) = ofX e j ds d (dIx ds.length k) := rfl
def kSub2 (j : Nat) (d k : D) : MS := fun e => ofXL e j k d (lsOf j e)
def kSub1 (j : Nat) (mi : M D) (d : D) : MS := fun e => if (lsOf j e).isSome = true then (mi e).bind (kSub2 j d) else .no
@[simp] theorem kSub2_ev (j : Nat) (d k : D) (e : Env) : kSub2 j d k e = ofXL e j k d (lsOf j e) := rfl
@[simp] theorem kSub1_ev (j : Nat) (mi : M D) (d : D) (e : Env) : kSub1 j mi d e = if (lsOf j e).isSome = true then (mi e).bind (kSub2 j d) else .no := rfl
@[simp] theorem xSub_ev (j : Nat) (me mi : M D) (env : Env) : xSub j me mi env = (me env).bind (kSub1 j mi) := by
  unfold xSub
  congr 1
theorem dIx_nat (n k : Nat) (h : k < n) : dIx n (.int k) = some k := by
  show ixN n k = some k
  unfold ixN
  rw [if_pos (by omega), if_pos (by omega)]
  simp
theorem dIx_int (n : Nat) (k : Int) (h0 : 0 ≤ k) (h : k < n) : dIx n (.int k) = some k.toNat := by
  show ixN n k = some k.toNat
  unfold ixN
  rw [if_pos h0, if_pos h]
@[simp] theorem xFor_ev (mi : M (List D)) (g : Tg) (mb : MS) (env : Env) : xFor mi g mb env = (mi env).bind (forGo g mb) := rfl
/-- every turn goes on: the slots' states by a fold -/
theorem forGo_fold {g : Tg} {mb : MS} {α : Type} (st : α → Env) (step : α → D → α) : ∀ (ds : List D) (a : α), (∀ d ∈ ds, ∀ a : α, ∃ e1, g d (st a) = some e1 ∧ mb e1 = .ok .nx (st (step a d))) → forGo g mb ds (st a) = .ok .nx (st (ds.foldl step a))
  | [], _, _ => rfl
  | d :: ds, a, h => by
    obtain ⟨e1, h1, h2⟩ := h d List.mem_cons_self a
    unfold forGo
    rw [h1]
    dsimp only
    rw [h2, Out.bind_ok]
    exact forGo_fold st step ds (step a d) fun d' hd => h d' (List.mem_cons_of_mem _ hd)
/-- every turn goes on, an invariant by the number of turns -/
theorem forGo_inv {g : Tg} {mb : MS} (Q : Nat → Env → Prop) : ∀ (ds : List D) (k : Nat), (∀ (i : Nat) (d : D), ds[i]? = some d → ∀ e, Q (k + i) e → ∃ e1 e2, g d e = some e1 ∧ (mb e1 = .ok .nx e2 ∨ mb e1 = .ok .ct e2) ∧ Q (k + i + 1) e2) →
    ∀ e, Q k e → ∃ e', forGo g mb ds e = .ok .nx e' ∧ Q (k + ds.length) e'
  | [], k, _, e, q => ⟨e, rfl, q⟩
  | d :: ds, k, h, e, q => by
    obtain ⟨e1, e2, h1, h2, h3⟩ := h 0 d rfl e q
    obtain ⟨e', h4, h5⟩ := forGo_inv Q ds (k + 1) (fun i d' hd e q => by
      have := h (i + 1) d' (by simpa using hd) e (by rw [show k + (i + 1) = k + 1 + i by omega]; exact q)
      rw [show k + (i + 1) = k + 1 + i by omega] at this
      exact this) e2 h3
    refine ⟨e', ?_, by rw [List.length_cons, show k + (ds.length + 1) = k + 1 + ds.length by omega]; exact h5⟩
    unfold forGo
    rw [h1]
    dsimp only
    rcases h2 with h2 | h2
    · rw [h2, Out.bind_ok]; exact h4
    · rw [h2, Out.bind_ok]; exact h4
/-- .. may end with an answer -/
theorem forGo_ret {g : Tg} {mb : MS} (Q : Nat → Env → Prop) (R : Out Fl → Prop) : ∀ (ds : List D) (k : Nat), (∀ (i : Nat) (d : D), ds[i]? = some d → ∀ e, Q (k + i) e → ∃ e1, g d e = some e1 ∧ ((∃ e2, mb e1 = .ok .nx e2 ∧ Q (k + i + 1) e2) ∨ ∃ c e2, mb e1 = .ok (.ret c) e2 ∧ R (.ok (.ret c) e2))) →
    (∀ e, Q (k + ds.length) e → R (.ok .nx e)) → ∀ e, Q k e → R (forGo g mb ds e)
  | [], k, _, hf, e, q => hf e q
  | d :: ds, k, h, hf, e, q => by
    obtain ⟨e1, h1, h2⟩ := h 0 d rfl e q
    unfold forGo
    rw [h1]
    dsimp only
    rcases h2 with ⟨e2, h2, h3⟩ | ⟨c, e2, h2, h3⟩
    · rw [h2, Out.bind_ok]
      exact forGo_ret Q R ds (k + 1) (fun i d' hd e q => by
        have := h (i + 1) d' (by simpa using hd) e (by rw [show k + (i + 1) = k + 1 + i by omega]; exact q)
        rw [show k + (i + 1) = k + 1 + i by omega] at this
        exact this) (fun e q => hf e (by rw [List.length_cons, show k + (ds.length + 1) = k + 1 + ds.length by omega]; exact q)) e2 h3
    · rw [h2, Out.bind_ok]; exact h3
/-! ### operators on what is known -/
@[simp] theorem dAdd_i (i j : Int) : dAdd (.int i) (.int j) = some (.int (i + j)) := rfl
@[simp] theorem dSub_i (i j : Int) : dSub (.int i) (.int j) = some (.int (i - j)) := rfl
theorem dMul_i (i j : Int) (h : bitsOk i) (h2 : bitsOk j) : dMul (.int i) (.int j) = some (.int (i * j)) := if_pos (cB_t ⟨h, h2⟩)
theorem dMod_i (i j : Int) (h : 0 < j) : dMod (.int i) (.int j) = some (.int (i % j)) := if_pos h
theorem dFdv_i (i j : Int) (h : 0 < j) (h2 : j.natAbs.log2 < 9000) : dFdv (.int i) (.int j) = some (.int (i / j)) := if_pos (cB_t ⟨h, h2⟩)
theorem dPow_i (i j : Int) (h : 0 ≤ j ∧ j ≤ 1000000 ∧ i.natAbs < 2 ^ 64) : dPow (.int i) (.int j) = some (.int (i ^ j.toNat)) := if_pos (cB_t h)
@[simp] theorem dLt_i (i j : Int) : dLt (.int i) (.int j) = some (.bool (decide (i < j))) := rfl
@[simp] theorem dLe_i (i j : Int) : dLe (.int i) (.int j) = some (.bool (decide (i ≤ j))) := rfl
@[simp] theorem dGt_i (i j : Int) : dGt (.int i) (.int j) = some (.bool (decide (j < i))) := rfl
@[simp] theorem dGe_i (i j : Int) : dGe (.int i) (.int j) = some (.bool (decide (j ≤ i))) := rfl
@[simp] theorem dNeg_i (i : Int) : dNeg (.int i) = some (.int (-i)) := rfl
@[simp] theorem dInt_i (i : Int) : dInt (.int i) = some (.int i) := rfl
@[simp] theorem dInt_b (b : Bool) : dInt (.bool b) = some (.int (if b then 1 else 0)) := rfl
@[simp] theorem dAbs_i (i : Int) : dAbs (.int i) = some (.int (if i < 0 then -i else i)) := rfl
@[simp] theorem dMin_i (i j : Int) : dMin (.int i) (.int j) = some (.int (if j < i then j else i)) := rfl
@[simp] theorem dMax_i (i j : Int) : dMax (.int i) (.int j) = some (.int (if j > i then j else i)) := rfl
@[simp] theorem dLen_l (ds : List D) : dLen (.list ds) = some (.int ds.length) := rfl
@[simp] theorem dLen_t (ds : List D) : dLen (.tuple ds) = some (.int ds.length) := rfl
@[simp] theorem dTup_l (ds : List D) : dTup (.list ds) = some (.tuple ds) := rfl
@[simp] theorem dTup_t (ds : List D) : dTup (.tuple ds) = some (.tuple ds) := rfl
@[simp] theorem lList_l (ds : List D) : lList (.list ds) = some ds := rfl
@[simp] theorem lList_t (ds : List D) : lList (.tuple ds) = some ds := rfl
@[simp] theorem dSum_l (ns : List Int) : dSum (.list (ns.map PyData.int)) = some (.int ns.sum) := by
  show (asInts (ns.map PyData.int)).map _ = _
  rw [asInts_map] <;> rfl
@[simp] theorem dAll_l (bs : List Bool) : dAll (.list (bs.map PyData.bool)) = some (.bool (bs.all id)) := by
  show (asBools (bs.map PyData.bool)).map _ = _
  rw [asBools_map] <;> rfl
@[simp] theorem dAny_l (bs : List Bool) : dAny (.list (bs.map PyData.bool)) = some (.bool (bs.any id)) := by
  show (asBools (bs.map PyData.bool)).map _ = _
  rw [asBools_map] <;> rfl
theorem dAdd_l (a b : List D) (h : a.length + b.length ≤ cap) : dAdd (.list a) (.list b) = some (.list (a ++ b)) := if_pos h
theorem dAdd_t (a b : List D) (h : a.length + b.length ≤ cap) : dAdd (.tuple a) (.tuple b) = some (.tuple (a ++ b)) := if_pos h
theorem lAdd_l (a b : List D) (h : a.length + b.length ≤ cap) : lAdd (.list a) (.list b) = some (a ++ b) := if_pos h
theorem flat_rep {α : Type} (a : α) : ∀ n : Nat, (List.replicate n [a]).flatten = List.replicate n a
  | 0 => rfl
  | n + 1 => by
    rw [List.replicate_succ, List.flatten_cons, flat_rep a n, List.replicate_succ]
    rfl
theorem lMul_l (a : D) (k : Int) (h : 0 ≤ k) (h2 : k ≤ 1000000) : lMul (.list [a]) (.int k) = some (List.replicate k.toNat a) := by
  have hc : [a].length * k.toNat ≤ cap := by
    show 1 * k.toNat ≤ 16777216
    omega
  refine (if_pos (cB_t ⟨by omega, h2, hc⟩)).trans ?_
  rw [flat_rep]
theorem dMul_l (a : D) (k : Int) (h : 0 ≤ k) (h2 : k ≤ 1000000) : dMul (.list [a]) (.int k) = some (.list (List.replicate k.toNat a)) := by
  have hc : [a].length * k.toNat ≤ cap := by
    show 1 * k.toNat ≤ 16777216
    omega
  refine (if_pos (cB_t ⟨by omega, h2, hc⟩)).trans ?_
  rw [flat_rep]
theorem dMul_t (a : D) (k : Int) (h : 2 ≤ k) (h2 : k ≤ 1000) : dMul (.tuple [a]) (.int k) = some (.tuple (List.replicate k.toNat a)) := by
  refine (if_pos (cB_t ⟨by simp, h, h2, by simp⟩)).trans ?_
  rw [flat_rep]
theorem atI_ok {α : Type} (xs : List α) (i : Int) (h0 : 0 ≤ i) (d : α) (h : xs[i.toNat]? = some d) : atI xs i = some d := by
  have hl : i.toNat < xs.length := (List.getElem?_eq_some_iff.mp h).1
  unfold atI ixN
  rw [if_pos h0, if_pos (by omega)]
  exact h
theorem atI_neg1 {α : Type} (xs : List α) (d : α) (h : xs.getLast? = some d) : atI xs (-1) = some d := by
  have hl : xs ≠ [] := by rintro rfl; simp at h
  have : 0 < xs.length := List.length_pos_iff.mpr hl
  unfold atI ixN
  rw [if_neg (by omega), if_pos (by omega)]
  show xs[(-1 + (xs.length : Int)).toNat]? = _
  rw [List.getLast?_eq_getElem?] at h
  rw [show (-1 + (xs.length : Int)).toNat = xs.length - 1 by omega]
  exact h
@[simp] theorem dIdx_l (ds : List D) (i : Int) : dIdx (.list ds) (.int i) = atI ds i := rfl
@[simp] theorem dIdx_t (ds : List D) (i : Int) : dIdx (.tuple ds) (.int i) = atI ds i := rfl
@[simp] theorem dSl_l (ds : List D) (l h : Option Int) : dSl (.list ds) l h = some (.list (cut ds l h)) := rfl
@[simp] theorem dSl_t (ds : List D) (l h : Option Int) : dSl (.tuple ds) l h = some (.tuple (cut ds l h)) := rfl
theorem cut_to {α : Type} (xs : List α) (n : Int) (h : 0 ≤ n) : cut xs none (some n) = xs.take n.toNat := by
  unfold cut
  rw [HT.sIx_none]
  obtain ⟨k, rfl⟩ := Int.eq_ofNat_of_zero_le h
  rw [HT.sIx_nat, List.drop_zero, Nat.sub_zero]
  show xs.take (min k xs.length) = xs.take (Int.toNat (k : Int))
  rw [Int.toNat_natCast]
  by_cases hk : k ≤ xs.length
  · rw [Nat.min_eq_left hk]
  · rw [Nat.min_eq_right (by omega), List.take_length, List.take_of_length_le (by omega)]
theorem cut_from {α : Type} (xs : List α) (n : Int) (h : 0 ≤ n) : cut xs (some n) none = xs.drop n.toNat := by
  unfold cut
  obtain ⟨k, rfl⟩ := Int.eq_ofNat_of_zero_le h
  rw [HT.sIx_none, HT.sIx_nat]
  show (xs.drop (min k xs.length)).take (xs.length - min k xs.length) = xs.drop (Int.toNat (k : Int))
  rw [Int.toNat_natCast]
  by_cases hk : k ≤ xs.length
  · rw [Nat.min_eq_left hk, List.take_of_length_le (by rw [List.length_drop]; omega)]
  · rw [Nat.min_eq_right (by omega), Nat.sub_self, List.take_zero, List.drop_of_length_le (by omega)]
theorem bitsOk_of {i : Int} {k : Nat} (h : i.natAbs < 2 ^ k) (hk : k ≤ 60000000) : bitsOk i := Nat.le_trans (intBits_le_iff.mpr h) hk
/-! ### isinstance -/
@[simp] theorem isi_int_none : dIsi "int" .none = some (.bool false) := by
  show (kitB "NoneType" "int").map PyData.bool = _
  rw [show kitB "NoneType" "int" = some false from by decide +kernel] <;> rfl
@[simp] theorem isi_int_bool (b : Bool) : dIsi "int" (.bool b) = some (.bool true) := by
  show (kitB "bool" "int").map PyData.bool = _
  rw [show kitB "bool" "int" = some true from by decide +kernel] <;> rfl
@[simp] theorem isi_int_int (i : Int) : dIsi "int" (.int i) = some (.bool true) := by
  show (kitB "int" "int").map PyData.bool = _
  rw [show kitB "int" "int" = some true from by decide +kernel] <;> rfl
@[simp] theorem isi_int_str (z : Str) : dIsi "int" (.str z) = some (.bool false) := by
  show (kitB "str" "int").map PyData.bool = _
  rw [show kitB "str" "int" = some false from by decide +kernel] <;> rfl
@[simp] theorem isi_int_list (ds : List D) : dIsi "int" (.list ds) = some (.bool false) := by
  show (kitB "list" "int").map PyData.bool = _
  rw [show kitB "list" "int" = some false from by decide +kernel] <;> rfl
@[simp] theorem isi_int_tuple (ds : List D) : dIsi "int" (.tuple ds) = some (.bool false) := by
  show (kitB "tuple" "int").map PyData.bool = _
  rw [show kitB "tuple" "int" = some false from by decide +kernel] <;> rfl
@[simp] theorem isi_bool_none : dIsi "bool" .none = some (.bool false) := by
  show (kitB "NoneType" "bool").map PyData.bool = _
  rw [show kitB "NoneType" "bool" = some false from by decide +kernel] <;> rfl
@[simp] theorem isi_bool_bool (b : Bool) : dIsi "bool" (.bool b) = some (.bool true) := by
  show (kitB "bool" "bool").map PyData.bool = _
  rw [show kitB "bool" "bool" = some true from by decide +kernel] <;> rfl
@[simp] theorem isi_bool_int (i : Int) : dIsi "bool" (.int i) = some (.bool false) := by
  show (kitB "int" "bool").map PyData.bool = _
  rw [show kitB "int" "bool" = some false from by decide +kernel] <;> rfl
@[simp] theorem isi_bool_str (z : Str) : dIsi "bool" (.str z) = some (.bool false) := by
  show (kitB "str" "bool").map PyData.bool = _
  rw [show kitB "str" "bool" = some false from by decide +kernel] <;> rfl
@[simp] theorem isi_bool_list (ds : List D) : dIsi "bool" (.list ds) = some (.bool false) := by
  show (kitB "list" "bool").map PyData.bool = _
  rw [show kitB "list" "bool" = some false from by decide +kernel] <;> rfl
@[simp] theorem isi_bool_tuple (ds : List D) : dIsi "bool" (.tuple ds) = some (.bool false) := by
  show (kitB "tuple" "bool").map PyData.bool = _
  rw [show kitB "tuple" "bool" = some false from by decide +kernel] <;> rfl
@[simp] theorem isi_str_none : dIsi "str" .none = some (.bool false) := by
  show (kitB "NoneType" "str").map PyData.bool = _
  rw [show kitB "NoneType" "str" = some false from by decide +kernel] <;> rfl
@[simp] theorem isi_str_bool (b : Bool) : dIsi "str" (.bool b) = some (.bool false) := by
  show (kitB "bool" "str").map PyData.bool = _
  rw [show kitB "bool" "str" = some false from by decide +kernel] <;> rfl
@[simp] theorem isi_str_int (i : Int) : dIsi "str" (.int i) = some (.bool false) := by
  show (kitB "int" "str").map PyData.bool = _
  rw [show kitB "int" "str" = some false from by decide +kernel] <;> rfl
@[simp] theorem isi_str_str (z : Str) : dIsi "str" (.str z) = some (.bool true) := by
  show (kitB "str" "str").map PyData.bool = _
  rw [show kitB "str" "str" = some true from by decide +kernel] <;> rfl
@[simp] theorem isi_str_list (ds : List D) : dIsi "str" (.list ds) = some (.bool false) := by
  show (kitB "list" "str").map PyData.bool = _
  rw [show kitB "list" "str" = some false from by decide +kernel] <;> rfl
@[simp] theorem isi_str_tuple (ds : List D) : dIsi "str" (.tuple ds) = some (.bool false) := by
  show (kitB "tuple" "str").map PyData.bool = _
  rw [show kitB "tuple" "str" = some false from by decide +kernel] <;> rfl
@[simp] theorem isi_list_none : dIsi "list" .none = some (.bool false) := by
  show (kitB "NoneType" "list").map PyData.bool = _
  rw [show kitB "NoneType" "list" = some false from by decide +kernel] <;> rfl
@[simp] theorem isi_list_bool (b : Bool) : dIsi "list" (.bool b) = some (.bool false) := by
  show (kitB "bool" "list").map PyData.bool = _
  rw [show kitB "bool" "list" = some false from by decide +kernel] <;> rfl
@[simp] theorem isi_list_int (i : Int) : dIsi "list" (.int i) = some (.bool false) := by
  show (kitB "int" "list").map PyData.bool = _
  rw [show kitB "int" "list" = some false from by decide +kernel] <;> rfl
@[simp] theorem isi_list_str (z : Str) : dIsi "list" (.str z) = some (.bool false) := by
  show (kitB "str" "list").map PyData.bool = _
  rw [show kitB "str" "list" = some false from by decide +kernel] <;> rfl
@[simp] theorem isi_list_list (ds : List D) : dIsi "list" (.list ds) = some (.bool true) := by
  show (kitB "list" "list").map PyData.bool = _
  rw [show kitB "list" "list" = some true from by decide +kernel] <;> rfl
@[simp] theorem isi_list_tuple (ds : List D) : dIsi "list" (.tuple ds) = some (.bool false) := by
  show (kitB "tuple" "list").map PyData.bool = _
  rw [show kitB "tuple" "list" = some false from by decide +kernel] <;> rfl
@[simp] theorem isi_tuple_none : dIsi "tuple" .none = some (.bool false) := by
  show (kitB "NoneType" "tuple").map PyData.bool = _
  rw [show kitB "NoneType" "tuple" = some false from by decide +kernel] <;> rfl
@[simp] theorem isi_tuple_bool (b : Bool) : dIsi "tuple" (.bool b) = some (.bool false) := by
  show (kitB "bool" "tuple").map PyData.bool = _
  rw [show kitB "bool" "tuple" = some false from by decide +kernel] <;> rfl
@[simp] theorem isi_tuple_int (i : Int) : dIsi "tuple" (.int i) = some (.bool false) := by
  show (kitB "int" "tuple").map PyData.bool = _
  rw [show kitB "int" "tuple" = some false from by decide +kernel] <;> rfl
@[simp] theorem isi_tuple_str (z : Str) : dIsi "tuple" (.str z) = some (.bool false) := by
  show (kitB "str" "tuple").map PyData.bool = _
  rw [show kitB "str" "tuple" = some false from by decide +kernel] <;> rfl
@[simp] theorem isi_tuple_list (ds : List D) : dIsi "tuple" (.list ds) = some (.bool false) := by
  show (kitB "list" "tuple").map PyData.bool = _
  rw [show kitB "list" "tuple" = some false from by decide +kernel] <;> rfl
@[simp] theorem isi_tuple_tuple (ds : List D) : dIsi "tuple" (.tuple ds) = some (.bool true) := by
  show (kitB "tuple" "tuple").map PyData.bool = _
  rw [show kitB "tuple" "tuple" = some true from by decide +kernel] <;> rfl
@[simp] theorem isis_list_tuple_none : dIsis ["list", "tuple"] .none = some (.bool false) := by
  show (kitAnyB "NoneType" ["list", "tuple"]).map PyData.bool = _
  rw [show kitAnyB "NoneType" ["list", "tuple"] = some false from by decide +kernel] <;> rfl
@[simp] theorem isis_list_tuple_bool (b : Bool) : dIsis ["list", "tuple"] (.bool b) = some (.bool false) := by
  show (kitAnyB "bool" ["list", "tuple"]).map PyData.bool = _
  rw [show kitAnyB "bool" ["list", "tuple"] = some false from by decide +kernel] <;> rfl
@[simp] theorem isis_list_tuple_int (i : Int) : dIsis ["list", "tuple"] (.int i) = some (.bool false) := by
  show (kitAnyB "int" ["list", "tuple"]).map PyData.bool = _
  rw [show kitAnyB "int" ["list", "tuple"] = some false from by decide +kernel] <;> rfl
@[simp] theorem isis_list_tuple_str (z : Str) : dIsis ["list", "tuple"] (.str z) = some (.bool false) := by
  show (kitAnyB "str" ["list", "tuple"]).map PyData.bool = _
  rw [show kitAnyB "str" ["list", "tuple"] = some false from by decide +kernel] <;> rfl
@[simp] theorem isis_list_tuple_list (ds : List D) : dIsis ["list", "tuple"] (.list ds) = some (.bool true) := by
  show (kitAnyB "list" ["list", "tuple"]).map PyData.bool = _
  rw [show kitAnyB "list" ["list", "tuple"] = some true from by decide +kernel] <;> rfl
@[simp] theorem isis_list_tuple_tuple (ds : List D) : dIsis ["list", "tuple"] (.tuple ds) = some (.bool true) := by
  show (kitAnyB "tuple" ["list", "tuple"]).map PyData.bool = _
  rw [show kitAnyB "tuple" ["list", "tuple"] = some true from by decide +kernel] <;> rfl
@[simp] theorem isis_bool_str_none : dIsis ["bool", "str"] .none = some (.bool false) := by
  show (kitAnyB "NoneType" ["bool", "str"]).map PyData.bool = _
  rw [show kitAnyB "NoneType" ["bool", "str"] = some false from by decide +kernel] <;> rfl
@[simp] theorem isis_bool_str_bool (b : Bool) : dIsis ["bool", "str"] (.bool b) = some (.bool true) := by
  show (kitAnyB "bool" ["bool", "str"]).map PyData.bool = _
  rw [show kitAnyB "bool" ["bool", "str"] = some true from by decide +kernel] <;> rfl
@[simp] theorem isis_bool_str_int (i : Int) : dIsis ["bool", "str"] (.int i) = some (.bool false) := by
  show (kitAnyB "int" ["bool", "str"]).map PyData.bool = _
  rw [show kitAnyB "int" ["bool", "str"] = some false from by decide +kernel] <;> rfl
@[simp] theorem isis_bool_str_str (z : Str) : dIsis ["bool", "str"] (.str z) = some (.bool true) := by
  show (kitAnyB "str" ["bool", "str"]).map PyData.bool = _
  rw [show kitAnyB "str" ["bool", "str"] = some true from by decide +kernel] <;> rfl
@[simp] theorem isis_bool_str_list (ds : List D) : dIsis ["bool", "str"] (.list ds) = some (.bool false) := by
  show (kitAnyB "list" ["bool", "str"]).map PyData.bool = _
  rw [show kitAnyB "list" ["bool", "str"] = some false from by decide +kernel] <;> rfl
@[simp] theorem isis_bool_str_tuple (ds : List D) : dIsis ["bool", "str"] (.tuple ds) = some (.bool false) := by
  show (kitAnyB "tuple" ["bool", "str"]).map PyData.bool = _
  rw [show kitAnyB "tuple" ["bool", "str"] = some false from by decide +kernel] <;> rfl
end Dl

/-! Dl11: loops over ranges, over known lists. Own work. -/
namespace Dl
open PySem PySem.Spec PyProof.Rows L2
theorem rangeD_length (lo : Int) (n : Nat) : (rangeD lo n).length = n := by unfold rangeD; rw [List.length_map, List.length_range]
theorem rangeD_get {lo : Int} {n i : Nat} {d : D} (h : (rangeD lo n)[i]? = some d) : i < n ∧ d = .int (lo + (i : Nat)) := by
  have hl := (List.getElem?_eq_some_iff.mp h).1
  rw [rangeD_length] at hl
  refine ⟨hl, ?_⟩
  unfold rangeD at h
  rw [List.getElem?_map, List.getElem?_range hl] at h
  exact (Option.some.inj h).symm
theorem forGo_range {g : Tg} {mb : MS} (Q : Nat → Env → Prop) (lo : Int) (n : Nat) (h : ∀ i, i < n → ∀ e, Q i e → ∃ e1 e2, g (.int (lo + (i : Nat))) e = some e1 ∧ mb e1 = .ok .nx e2 ∧ Q (i + 1) e2) (e : Env) (q : Q 0 e) : ∃ e', forGo g mb (rangeD lo n) e = .ok .nx e' ∧ Q n e' := by
  have := forGo_inv (g := g) (mb := mb) Q (rangeD lo n) 0 (fun i d hd e q => by
    obtain ⟨hi, rfl⟩ := rangeD_get hd
    rw [Nat.zero_add] at q ⊢
    obtain ⟨e1, e2, h1, h2, h3⟩ := h i hi e q
    exact ⟨e1, e2, h1, .inl h2, h3⟩) e q
  rw [rangeD_length, Nat.zero_add] at this
  exact this
theorem lcGo_ix {own : List Nat} {tg : Tg} {mc : M Bool} {me : M D} {E : Env} (F : Nat → D) : ∀ (ds acc : List D) (k : Nat), (∀ i d, ds[i]? = some d → ∃ e1 e2 e3, tg d E = some e1 ∧ mc e1 = .ok true e2 ∧ me e2 = .ok (F (k + i)) e3 ∧ wipeE e3 own = E) →
    lcGo own tg mc me ds acc E = .ok (acc ++ (List.range ds.length).map fun i => F (k + i)) E
  | [], acc, k, _ => by
    unfold lcGo
    simp
  | d :: ds, acc, k, h => by
    obtain ⟨e1, e2, e3, h1, h2, h3, h4⟩ := h 0 d rfl
    unfold lcGo
    rw [h1]
    dsimp only
    rw [h2]
    dsimp only
    rw [h3]
    dsimp only
    rw [h4, lcGo_ix F ds (acc ++ [F (k + 0)]) (k + 1) fun i d' hd => by
      have := h (i + 1) d' (by simpa using hd)
      rw [show k + (i + 1) = k + 1 + i by omega] at this
      exact this]
    rw [List.length_cons, List.range_succ_eq_map, List.map_cons, List.map_map, List.append_assoc]
    congr 2
    show _ :: _ = _ :: _
    congr 1
    refine List.map_congr_left fun i _ => ?_
    show F (k + 1 + i) = F (k + (i + 1))
    rw [show k + 1 + i = k + (i + 1) by omega]
theorem lcGo_range {own : List Nat} {tg : Tg} {mc : M Bool} {me : M D} {E : Env} (F : Nat → D) (lo : Int) (n : Nat) (h : ∀ i, i < n → ∃ e1 e2 e3, tg (.int (lo + (i : Nat))) E = some e1 ∧ mc e1 = .ok true e2 ∧ me e2 = .ok (F i) e3 ∧ wipeE e3 own = E) :
    lcGo own tg mc me (rangeD lo n) [] E = .ok ((List.range n).map F) E := by
  have := lcGo_ix (own := own) (tg := tg) (mc := mc) (me := me) (E := E) F (rangeD lo n) [] 0 fun i d hd => by
    obtain ⟨hi, rfl⟩ := rangeD_get hd
    rw [Nat.zero_add]
    exact h i hi
  rw [this, rangeD_length, List.nil_append]
  congr 1
  exact List.map_congr_left fun i _ => by rw [Nat.zero_add]
/-- a whole comprehension over a range -/
theorem kLc_range {own : List Nat} {tg : Tg} {mc : M Bool} {me : M D} {e1 : Env} (F : Nat → D) (lo : Int) (n : Nat) (hn : n ≤ 16777216) (h : ∀ i, i < n → ∃ e2 e3 e4, tg (.int (lo + (i : Nat))) (wipeE e1 own) = some e2 ∧ mc e2 = .ok true e3 ∧ me e3 = .ok (F i) e4 ∧ wipeE e4 own = wipeE e1 own) :
    kLc own tg mc me (rangeD lo n) e1 = .ok (.ls ((List.range n).map F)) (keepE e1 (wipeE (wipeE e1 own) own) own) := by
  rw [kLc_ev, if_pos (by rw [rangeD_length]; exact hn), lcGo_range F lo n h]
  rfl
/-- .. over a list -/
theorem kLc_map {own : List Nat} {tg : Tg} {mc : M Bool} {me : M D} {e1 : Env} (f : D → D) (ds : List D) (hn : ds.length ≤ 16777216) (h : ∀ d ∈ ds, ∃ e2 e3 e4, tg d (wipeE e1 own) = some e2 ∧ mc e2 = .ok true e3 ∧ me e3 = .ok (f d) e4 ∧ wipeE e4 own = wipeE e1 own) :
    kLc own tg mc me ds e1 = .ok (.ls (ds.map f)) (keepE e1 (wipeE (wipeE e1 own) own) own) := by
  rw [kLc_ev, if_pos (show ds.length ≤ cap from hn), lcGo_map f ds [] h]
  rfl
theorem kLc_ix {own : List Nat} {tg : Tg} {mc : M Bool} {me : M D} {e1 : Env} (F : Nat → D) (ds : List D) (hn : ds.length ≤ 16777216) (h : ∀ i d, ds[i]? = some d → ∃ e2 e3 e4, tg d (wipeE e1 own) = some e2 ∧ mc e2 = .ok true e3 ∧ me e3 = .ok (F i) e4 ∧ wipeE e4 own = wipeE e1 own) :
    kLc own tg mc me ds e1 = .ok (.ls ((List.range ds.length).map F)) (keepE e1 (wipeE (wipeE e1 own) own) own) := by
  rw [kLc_ev, if_pos (show ds.length ≤ cap from hn), lcGo_ix F ds [] 0 fun i d hd => by rw [Nat.zero_add]; exact h i d hd]
  simp
theorem numbered_ix {ds : List D} {i : Nat} {d : D} (h : (numbered ds)[i]? = some d) : ∃ x, ds[i]? = some x ∧ d = .tuple [.int (i : Nat), x] := by
  have hl : i < ds.length := by
    have := (List.getElem?_eq_some_iff.mp h).1
    rwa [numbered_length] at this
  have := numbered_get (List.getElem?_eq_getElem hl)
  rw [h] at this
  exact ⟨_, List.getElem?_eq_getElem hl, Option.some.inj this⟩
def rowI (xs : List Int) : List D := xs.map PyData.int
@[simp] theorem rowI_length (xs : List Int) : (rowI xs).length = xs.length := List.length_map ..
theorem rowI_get {xs : List Int} {i : Nat} {x : Int} (h : xs[i]? = some x) : (rowI xs)[i]? = some (.int x) := by
  show (xs.map PyData.int)[i]? = _
  rw [List.getElem?_map, h] <;> rfl
theorem rowI_at {xs : List Int} {z : Int} {i : Nat} {x : Int} (hz : z = (i : Nat)) (h : xs[i]? = some x) : atI (rowI xs) z = some (.int x) := by
  subst hz
  exact atI_ok _ _ (Int.natCast_nonneg i) _ (by rw [Int.toNat_natCast]; exact rowI_get h)
theorem list_at {α : Type} {xs : List α} {z : Int} {i : Nat} {x : α} (hz : z = (i : Nat)) (h : xs[i]? = some x) : atI xs z = some x := by
  subst hz
  exact atI_ok _ _ (Int.natCast_nonneg i) _ (by rw [Int.toNat_natCast]; exact h)
theorem le_cap {n : Nat} (h : n ≤ 16777216) : n ≤ cap := h
theorem lt_cap {n : Nat} (h : n < 16777216) : n < cap := h
@[simp] theorem cap_l0 : 0 ≤ cap := Nat.le_of_ble_eq_true rfl
@[simp] theorem cap_l1 : 1 ≤ cap := Nat.le_of_ble_eq_true rfl
@[simp] theorem cap_l2 : 2 ≤ cap := Nat.le_of_ble_eq_true rfl
@[simp] theorem cap_l3 : 3 ≤ cap := Nat.le_of_ble_eq_true rfl
@[simp] theorem cap_l4 : 4 ≤ cap := Nat.le_of_ble_eq_true rfl
@[simp] theorem cap_l5 : 5 ≤ cap := Nat.le_of_ble_eq_true rfl
@[simp] theorem cap_l6 : 6 ≤ cap := Nat.le_of_ble_eq_true rfl
@[simp] theorem cap_l7 : 7 ≤ cap := Nat.le_of_ble_eq_true rfl
@[simp] theorem cap_l8 : 8 ≤ cap := Nat.le_of_ble_eq_true rfl
@[simp] theorem cap_l9 : 9 ≤ cap := Nat.le_of_ble_eq_true rfl
@[simp] theorem cap_l10 : 10 ≤ cap := Nat.le_of_ble_eq_true rfl
@[simp] theorem cap_l11 : 11 ≤ cap := Nat.le_of_ble_eq_true rfl
@[simp] theorem cap_l12 : 12 ≤ cap := Nat.le_of_ble_eq_true rfl
@[simp] theorem cap_l13 : 13 ≤ cap := Nat.le_of_ble_eq_true rfl
@[simp] theorem cap_l14 : 14 ≤ cap := Nat.le_of_ble_eq_true rfl
@[simp] theorem cap_l15 : 15 ≤ cap := Nat.le_of_ble_eq_true rfl
@[simp] theorem cap_l16 : 16 ≤ cap := Nat.le_of_ble_eq_true rfl
@[simp] theorem cap_l17 : 17 ≤ cap := Nat.le_of_ble_eq_true rfl
@[simp] theorem cap_l18 : 18 ≤ cap := Nat.le_of_ble_eq_true rfl
@[simp] theorem cap_l19 : 19 ≤ cap := Nat.le_of_ble_eq_true rfl
@[simp] theorem cap_l20 : 20 ≤ cap := Nat.le_of_ble_eq_true rfl
@[simp] theorem cap_l21 : 21 ≤ cap := Nat.le_of_ble_eq_true rfl
@[simp] theorem cap_l22 : 22 ≤ cap := Nat.le_of_ble_eq_true rfl
@[simp] theorem cap_l23 : 23 ≤ cap := Nat.le_of_ble_eq_true rfl
@[simp] theorem cap_l24 : 24 ≤ cap := Nat.le_of_ble_eq_true rfl
@[simp] theorem cap_l25 : 25 ≤ cap := Nat.le_of_ble_eq_true rfl
@[simp] theorem cap_l26 : 26 ≤ cap := Nat.le_of_ble_eq_true rfl
@[simp] theorem cap_l27 : 27 ≤ cap := Nat.le_of_ble_eq_true rfl
@[simp] theorem cap_l28 : 28 ≤ cap := Nat.le_of_ble_eq_true rfl
@[simp] theorem cap_l29 : 29 ≤ cap := Nat.le_of_ble_eq_true rfl
@[simp] theorem cap_l30 : 30 ≤ cap := Nat.le_of_ble_eq_true rfl
@[simp] theorem cap_l31 : 31 ≤ cap := Nat.le_of_ble_eq_true rfl
@[simp] theorem cap_l32 : 32 ≤ cap := Nat.le_of_ble_eq_true rfl
@[simp] theorem cap_l33 : 33 ≤ cap := Nat.le_of_ble_eq_true rfl
@[simp] theorem cap_l34 : 34 ≤ cap := Nat.le_of_ble_eq_true rfl
@[simp] theorem cap_l35 : 35 ≤ cap := Nat.le_of_ble_eq_true rfl
@[simp] theorem cap_l36 : 36 ≤ cap := Nat.le_of_ble_eq_true rfl
@[simp] theorem cap_l37 : 37 ≤ cap := Nat.le_of_ble_eq_true rfl
@[simp] theorem cap_l38 : 38 ≤ cap := Nat.le_of_ble_eq_true rfl
@[simp] theorem cap_l39 : 39 ≤ cap := Nat.le_of_ble_eq_true rfl
@[simp] theorem cap_l40 : 40 ≤ cap := Nat.le_of_ble_eq_true rfl
@[simp] theorem cap_l41 : 41 ≤ cap := Nat.le_of_ble_eq_true rfl
@[simp] theorem cap_l42 : 42 ≤ cap := Nat.le_of_ble_eq_true rfl
@[simp] theorem cap_l43 : 43 ≤ cap := Nat.le_of_ble_eq_true rfl
@[simp] theorem cap_l44 : 44 ≤ cap := Nat.le_of_ble_eq_true rfl
@[simp] theorem cap_l45 : 45 ≤ cap := Nat.le_of_ble_eq_true rfl
@[simp] theorem cap_l46 : 46 ≤ cap := Nat.le_of_ble_eq_true rfl
@[simp] theorem cap_l47 : 47 ≤ cap := Nat.le_of_ble_eq_true rfl
@[simp] theorem cap_l48 : 48 ≤ cap := Nat.le_of_ble_eq_true rfl
@[simp] theorem cap_l49 : 49 ≤ cap := Nat.le_of_ble_eq_true rfl
@[simp] theorem cap_l50 : 50 ≤ cap := Nat.le_of_ble_eq_true rfl
@[simp] theorem cap_l51 : 51 ≤ cap := Nat.le_of_ble_eq_true rfl
@[simp] theorem cap_l52 : 52 ≤ cap := Nat.le_of_ble_eq_true rfl
@[simp] theorem cap_l53 : 53 ≤ cap := Nat.le_of_ble_eq_true rfl
@[simp] theorem cap_l54 : 54 ≤ cap := Nat.le_of_ble_eq_true rfl
@[simp] theorem cap_l55 : 55 ≤ cap := Nat.le_of_ble_eq_true rfl
@[simp] theorem cap_l56 : 56 ≤ cap := Nat.le_of_ble_eq_true rfl
@[simp] theorem cap_l57 : 57 ≤ cap := Nat.le_of_ble_eq_true rfl
@[simp] theorem cap_l58 : 58 ≤ cap := Nat.le_of_ble_eq_true rfl
@[simp] theorem cap_l59 : 59 ≤ cap := Nat.le_of_ble_eq_true rfl
@[simp] theorem cap_l60 : 60 ≤ cap := Nat.le_of_ble_eq_true rfl
@[simp] theorem wipeE_nil (e : Env) : wipeE e [] = e := rfl
@[simp] theorem wipeE_cons (e : Env) (v : Nat) (vs : List Nat) : wipeE e (v :: vs) = (wipeE e vs).set v none := rfl
def kpC (e : Env) (v : Nat) : Option (Option Cn) → Env
  | some (some (.val d)) => e.set v (some (.val d))
  | _ => e
@[simp] theorem keepE_nil (e0 e : Env) : keepE e0 e [] = e := rfl
@[simp] theorem keepE_cons (e0 e : Env) (v : Nat) (vs : List Nat) : keepE e0 e (v :: vs) = kpC (keepE e0 e vs) v e0[v]? := by
  show (match e0[v]? with
    | some (some (.val d)) => (keepE e0 e vs).set v (some (.val d))
    | _ => keepE e0 e vs) = _
  unfold kpC
  split <;> rfl
@[simp] theorem kpC_v (e : Env) (v : Nat) (d : D) : kpC e v (some (some (.val d))) = e.set v (some (.val d)) := rfl
@[simp] theorem kpC_n (e : Env) (v : Nat) : kpC e v (some none) = e := rfl
/-- a comprehension whose turns change the slots: an invariant, and what the parts come to -/
theorem lcGo_inv {own : List Nat} {tg : Tg} {mc : M Bool} {me : M D} (Q : Nat → Env → Prop) (Pd : D → D → Prop) : ∀ (ds acc : List D) (k : Nat) (e : Env), (∀ i d, ds[i]? = some d → ∀ e, Q (k + i) e → ∃ e1 e2 y e3, tg d e = some e1 ∧ mc e1 = .ok true e2 ∧ me e2 = .ok y e3 ∧ Pd d y ∧ Q (k + i + 1) (wipeE e3 own)) → Q k e →
    ∃ out e', lcGo own tg mc me ds acc e = .ok (acc ++ out) e' ∧ Paired Pd ds out ∧ Q (k + ds.length) e'
  | [], acc, k, e, _, q => ⟨[], e, by unfold lcGo; rw [List.append_nil], .nil, q⟩
  | d :: ds, acc, k, e, h, q => by
    obtain ⟨e1, e2, y, e3, h1, h2, h3, h4, h5⟩ := h 0 d rfl e q
    obtain ⟨out, e', h6, h7, h8⟩ := lcGo_inv Q Pd ds (acc ++ [y]) (k + 1) (wipeE e3 own) (fun i d' hd e q => by
      have := h (i + 1) d' (by simpa using hd) e (by rw [show k + (i + 1) = k + 1 + i by omega]; exact q)
      rw [show k + (i + 1) = k + 1 + i by omega] at this
      exact this) h5
    refine ⟨y :: out, e', ?_, .cons h4 h7, by rw [List.length_cons, show k + (ds.length + 1) = k + 1 + ds.length by omega]; exact h8⟩
    unfold lcGo
    rw [h1]
    dsimp only
    rw [h2]
    dsimp only
    rw [h3]
    dsimp only
    rw [h6, List.append_assoc]
    rfl
theorem kLc_inv {own : List Nat} {tg : Tg} {mc : M Bool} {me : M D} {e0 : Env} (Q : Nat → Env → Prop) (Pd : D → D → Prop) (ds : List D) (hn : ds.length ≤ 16777216) (h : ∀ i d, ds[i]? = some d → ∀ e, Q i e → ∃ e1 e2 y e3, tg d e = some e1 ∧ mc e1 = .ok true e2 ∧ me e2 = .ok y e3 ∧ Pd d y ∧ Q (i + 1) (wipeE e3 own)) (q : Q 0 (wipeE e0 own)) :
    ∃ out e', kLc own tg mc me ds e0 = .ok (.ls out) (keepE e0 (wipeE e' own) own) ∧ Paired Pd ds out ∧ Q ds.length e' := by
  obtain ⟨out, e', h1, h2, h3⟩ := lcGo_inv (own := own) (tg := tg) (mc := mc) (me := me) Q Pd ds [] 0 (wipeE e0 own) (fun i d hd e q => by rw [Nat.zero_add] at q ⊢; exact h i d hd e q) q
  refine ⟨out, e', ?_, h2, by rw [Nat.zero_add] at h3; exact h3⟩
  rw [kLc_ev, if_pos (show ds.length ≤ cap from hn), h1]
  rfl
theorem paired_len {α β : Type} {R : α → β → Prop} : ∀ {as : List α} {bs : List β}, Paired R as bs → as.length = bs.length
  | _, _, .nil => rfl
  | _, _, .cons _ q => congrArg (· + 1) (paired_len q)
end Dl

/-! Sq: sequences put in: plain Lean, no program in sight. Own work. -/
namespace Sq
abbrev S := Nat → Int
def sm (f : Nat → Int) : Nat → Int
  | 0 => 0
  | n + 1 => sm f n + f n
theorem sm_congr {f g : Nat → Int} : ∀ {n : Nat}, (∀ i, i < n → f i = g i) → sm f n = sm g n
  | 0, _ => rfl
  | n + 1, h => by
    show sm f n + f n = sm g n + g n
    rw [sm_congr fun i hi => h i (by omega), h n (by omega)]
theorem sm_add (f g : Nat → Int) : ∀ n, sm (fun i => f i + g i) n = sm f n + sm g n
  | 0 => rfl
  | n + 1 => by
    show sm _ n + (f n + g n) = (sm f n + f n) + (sm g n + g n)
    rw [sm_add f g n]; omega
theorem sm_mul (c : Int) (f : Nat → Int) : ∀ n, sm (fun i => c * f i) n = c * sm f n
  | 0 => (Int.mul_zero c).symm
  | n + 1 => by
    show sm _ n + c * f n = c * (sm f n + f n)
    rw [sm_mul c f n]; grind
theorem sm_zero : ∀ n, sm (fun _ => 0) n = 0
  | 0 => rfl
  | n + 1 => by
    show sm _ n + 0 = 0
    rw [sm_zero n]; rfl
theorem sm_nn {f : Nat → Int} (h : ∀ i, 0 ≤ f i) : ∀ n, 0 ≤ sm f n
  | 0 => Int.le_refl 0
  | n + 1 => Int.add_nonneg (sm_nn h n) (h n)
theorem sm_first (f : Nat → Int) : ∀ n, sm f (n + 1) = f 0 + sm (fun i => f (i + 1)) n
  | 0 => by
    show (0 : Int) + f 0 = f 0 + 0
    omega
  | n + 1 => by
    show sm f (n + 1) + f (n + 1) = f 0 + (sm _ n + f (n + 1))
    rw [sm_first f n]; omega
/-- Pascal's numbers -/
def ch : Nat → Nat → Int
  | 0, 0 => 1
  | 0, _ + 1 => 0
  | _ + 1, 0 => 1
  | n + 1, k + 1 => ch n k + ch n (k + 1)
theorem ch_0 : ∀ n, ch n 0 = 1
  | 0 => rfl
  | _ + 1 => rfl
theorem ch_over : ∀ (n k : Nat), n < k → ch n k = 0
  | 0, 0, h => by omega
  | 0, _ + 1, _ => rfl
  | n + 1, 0, h => by omega
  | n + 1, k + 1, h => by
    show ch n k + ch n (k + 1) = 0
    rw [ch_over n k (by omega), ch_over n (k + 1) (by omega)]; rfl
theorem ch_self : ∀ n, ch n n = 1
  | 0 => rfl
  | n + 1 => by
    show ch n n + ch n (n + 1) = 1
    rw [ch_self n, ch_over n (n + 1) (by omega)]; rfl
theorem ch_nn : ∀ n k, 0 ≤ ch n k
  | 0, 0 => by decide
  | 0, _ + 1 => Int.le_refl 0
  | _ + 1, 0 => (by decide : (0 : Int) ≤ 1)
  | n + 1, k + 1 => by
    show 0 ≤ ch n k + ch n (k + 1)
    have := ch_nn n k
    have := ch_nn n (k + 1)
    omega
theorem ch_sum : ∀ n, sm (ch n) (n + 1) = 2 ^ n
  | 0 => rfl
  | n + 1 => by
    rw [sm_first]
    show (1 : Int) + sm (fun i => ch n i + ch n (i + 1)) (n + 1) = _
    rw [sm_add, ch_sum n]
    have h := sm_first (ch n) (n + 1)
    have h2 : sm (ch n) (n + 2) = sm (ch n) (n + 1) + ch n (n + 1) := rfl
    rw [ch_over n (n + 1) (by omega), ch_sum n] at h2
    rw [h2, ch_0] at h
    rw [Int.pow_succ]
    omega
theorem ch_le (n k : Nat) : ch n k ≤ 2 ^ n := by
  by_cases h : n < k
  · rw [ch_over n k h]
    exact Int.le_of_lt (Int.pow_pos (by decide))
  · rw [← ch_sum n]
    have aux : ∀ (f : Nat → Int), (∀ i, 0 ≤ f i) → ∀ m k, k < m → f k ≤ sm f m := by
      intro f hf m
      have pos : ∀ m, 0 ≤ sm f m := by
        intro m
        induction m with
        | zero => exact Int.le_refl 0
        | succ m ih => show 0 ≤ sm f m + f m; have := hf m; omega
      induction m with
      | zero => intro k hk; omega
      | succ m ih =>
        intro k hk
        show f k ≤ sm f m + f m
        by_cases e : k = m
        · rw [e]; have := pos m; omega
        · have := ih k (by omega); have := hf m; omega
    exact aux (ch n) (ch_nn n) (n + 1) k (by omega)
/-! ### product -/
def d (f : S) : S := fun n => f (n + 1)
def mul (f g : S) : S := fun n => sm (fun i => ch n i * f i * g (n - i)) (n + 1)
theorem mul_0 (f g : S) : mul f g 0 = f 0 * g 0 := by
  show (0 : Int) + 1 * f 0 * g 0 = _
  rw [Int.one_mul]; omega
theorem mul_s (f g : S) (n : Nat) : mul f g (n + 1) = mul (d f) g n + mul f (d g) n := by
  show sm (fun i => ch (n + 1) i * f i * g (n + 1 - i)) (n + 2) = _
  rw [sm_first]
  have e1 : sm (fun i => ch (n + 1) (i + 1) * f (i + 1) * g (n + 1 - (i + 1))) (n + 1) = sm (fun i => ch n i * f (i + 1) * g (n - i)) (n + 1) + sm (fun i => ch n (i + 1) * f (i + 1) * g (n - i)) (n + 1) := by
    rw [← sm_add]
    refine sm_congr fun i _ => ?_
    show (ch n i + ch n (i + 1)) * f (i + 1) * g (n + 1 - (i + 1)) = _
    rw [show n + 1 - (i + 1) = n - i by omega]; grind
  rw [e1]
  have e2 : mul f (d g) n = ch n 0 * f 0 * g (n + 1) + sm (fun i => ch n (i + 1) * f (i + 1) * g (n - i)) (n + 1) := by
    show sm (fun i => ch n i * f i * g (n - i + 1)) (n + 1) = _
    rw [sm_first]
    congr 1
    show _ = sm _ n + ch n (n + 1) * f (n + 1) * g (n - n)
    rw [ch_over n (n + 1) (by omega), Int.zero_mul, Int.zero_mul, Int.add_zero]
    refine sm_congr fun i hi => ?_
    rw [show n - (i + 1) + 1 = n - i by omega]
  rw [e2, ch_0, ch_0]
  show _ + (mul (d f) g n + _) = mul (d f) g n + _
  rw [show n + 1 - 0 = n + 1 from rfl]; omega
theorem mul_congr {f f' g g' : S} {n : Nat} (h : ∀ i, i ≤ n → f i = f' i) (h2 : ∀ i, i ≤ n → g i = g' i) : mul f g n = mul f' g' n :=
  sm_congr fun i hi => by rw [h i (by omega), h2 (n - i) (by omega)]
theorem mul_addl (f f' g : S) (n : Nat) : mul (fun i => f i + f' i) g n = mul f g n + mul f' g n := by
  unfold mul
  rw [← sm_add]
  exact sm_congr fun i _ => by grind
theorem mul_addr (f g g' : S) (n : Nat) : mul f (fun i => g i + g' i) n = mul f g n + mul f g' n := by
  unfold mul
  rw [← sm_add]
  exact sm_congr fun i _ => by grind
theorem mul_cl (c : Int) (f g : S) (n : Nat) : mul (fun i => c * f i) g n = c * mul f g n := by
  unfold mul
  rw [← sm_mul]
  exact sm_congr fun i _ => by grind
theorem mul_cr (c : Int) (f g : S) (n : Nat) : mul f (fun i => c * g i) n = c * mul f g n := by
  unfold mul
  rw [← sm_mul]
  exact sm_congr fun i _ => by grind
theorem mul_comm (n : Nat) : ∀ f g : S, mul f g n = mul g f n := by
  induction n with
  | zero => intro f g; rw [mul_0, mul_0, Int.mul_comm]
  | succ n ih => intro f g; rw [mul_s, mul_s, ih (d f) g, ih f (d g), Int.add_comm]
theorem mul_assoc (n : Nat) : ∀ f g h : S, mul (mul f g) h n = mul f (mul g h) n := by
  induction n with
  | zero => intro f g h; rw [mul_0, mul_0, mul_0, mul_0, Int.mul_assoc]
  | succ n ih =>
    intro f g h
    rw [mul_s, mul_s]
    have e1 : mul (d (mul f g)) h n = mul (mul (d f) g) h n + mul (mul f (d g)) h n := by
      rw [← mul_addl]
      exact mul_congr (fun i _ => mul_s f g i) fun _ _ => rfl
    have e2 : mul f (d (mul g h)) n = mul f (mul (d g) h) n + mul f (mul g (d h)) n := by
      rw [← mul_addr]
      exact mul_congr (fun _ _ => rfl) fun i _ => mul_s g h i
    rw [e1, e2, ih, ih, ih]; omega
def one : S := fun n => if n = 0 then 1 else 0
theorem d_one : d one = fun _ => 0 := by funext n; rfl
theorem mul_zl (g : S) (n : Nat) : mul (fun _ => 0) g n = 0 := by
  refine Eq.trans ?_ (sm_zero (n + 1))
  exact sm_congr fun i _ => by show ch n i * 0 * g (n - i) = 0; rw [Int.mul_zero, Int.zero_mul]
theorem mul_onel (n : Nat) : ∀ g : S, mul one g n = g n := by
  induction n with
  | zero => intro g; rw [mul_0]; show 1 * g 0 = g 0; rw [Int.one_mul]
  | succ n ih => intro g; rw [mul_s, d_one, mul_zl, ih, Int.zero_add]; rfl
theorem mul_oner (n : Nat) (g : S) : mul g one n = g n := by rw [mul_comm, mul_onel]
/-! ### putting in (what is put in has no first one) -/
def P (h : S) : Nat → S
  | 0 => one
  | k + 1 => fun n => match n with
    | 0 => 0
    | n + 1 => mul (d h) (P h k) n
theorem P_s0 (h : S) (k : Nat) : P h (k + 1) 0 = 0 := rfl
theorem P_ss (h : S) (k n : Nat) : P h (k + 1) (n + 1) = mul (d h) (P h k) n := rfl
theorem P_over (h : S) : ∀ (k n : Nat), n < k → P h k n = 0
  | 0, n, hk => by omega
  | k + 1, 0, _ => rfl
  | k + 1, n + 1, hk => by
    rw [P_ss]
    refine Eq.trans ?_ (sm_zero (n + 1))
    refine sm_congr fun i hi => ?_
    rw [P_over h k (n - i) (by omega), Int.mul_zero]
def comp (f h : S) : S := fun n => sm (fun k => f k * P h k n) (n + 1)
theorem comp_0 (f h : S) : comp f h 0 = f 0 := by
  show (0 : Int) + f 0 * 1 = f 0
  omega
theorem comp_wide (f h : S) (n : Nat) : ∀ m, n + 1 ≤ m → sm (fun k => f k * P h k n) m = comp f h n := by
  intro m
  induction m with
  | zero => intro hm; omega
  | succ m ih =>
    intro hm
    by_cases e : m = n
    · rw [e]; rfl
    · show sm _ m + f m * P h m n = _
      rw [ih (by omega), P_over h m n (by omega), Int.mul_zero, Int.add_zero]
theorem mul_sm (g : S) (F : Nat → S) (n : Nat) : ∀ m, mul g (fun i => sm (fun k => F k i) m) n = sm (fun k => mul g (F k) n) m
  | 0 => by
    show mul g (fun _ => 0) n = 0
    rw [mul_comm, mul_zl]
  | m + 1 => by
    show mul g (fun i => sm (fun k => F k i) m + F m i) n = sm _ m + mul g (F m) n
    rw [mul_addr, mul_sm g F n m]
theorem comp_s (f h : S) (n : Nat) : comp f h (n + 1) = mul (comp (d f) h) (d h) n := by
  show sm (fun k => f k * P h k (n + 1)) (n + 2) = _
  rw [sm_first]
  have e0 : f 0 * P h 0 (n + 1) = 0 := by
    show f 0 * 0 = 0
    rw [Int.mul_zero]
  rw [e0, Int.zero_add, mul_comm]
  have e1 : mul (d h) (comp (d f) h) n = mul (d h) (fun i => sm (fun k => (fun k => fun i => f (k + 1) * P h k i) k i) (n + 1)) n :=
    mul_congr (fun _ _ => rfl) fun i hi => (comp_wide (d f) h i (n + 1) (by omega)).symm
  rw [e1, mul_sm]
  refine sm_congr fun k _ => ?_
  show f (k + 1) * P h (k + 1) (n + 1) = mul (d h) (fun i => f (k + 1) * P h k i) n
  rw [P_ss, mul_cr]
theorem comp_congr (n : Nat) : ∀ {f f' h h' : S}, (∀ i, i ≤ n → f i = f' i) → (∀ i, 1 ≤ i → i ≤ n → h i = h' i) → comp f h n = comp f' h' n := by
  induction n using Nat.strongRecOn with
  | _ n ih =>
    intro f f' h h' h1 h2
    cases n with
    | zero => rw [comp_0, comp_0]; exact h1 0 (Nat.le_refl 0)
    | succ n =>
      rw [comp_s, comp_s]
      exact mul_congr (fun i hi => ih i (by omega) (fun j hj => h1 (j + 1) (by omega)) fun j hj hj2 => h2 j hj (by omega)) fun i hi => h2 (i + 1) (by omega) (by omega)
theorem comp_add (f f' h : S) (n : Nat) : comp (fun i => f i + f' i) h n = comp f h n + comp f' h n := by
  unfold comp
  rw [← sm_add]
  exact sm_congr fun k _ => by grind
theorem comp_c (c : Int) (f h : S) (n : Nat) : comp (fun i => c * f i) h n = c * comp f h n := by
  unfold comp
  rw [← sm_mul]
  exact sm_congr fun k _ => by grind
theorem comp_mul (n : Nat) : ∀ f g h : S, comp (mul f g) h n = mul (comp f h) (comp g h) n := by
  induction n using Nat.strongRecOn with
  | _ n ih =>
    intro f g h
    cases n with
    | zero => rw [comp_0, mul_0, mul_0, comp_0, comp_0]
    | succ n =>
      rw [comp_s, mul_s]
      have e : ∀ i, i ≤ n → comp (d (mul f g)) h i = mul (comp (d f) h) (comp g h) i + mul (comp f h) (comp (d g) h) i := fun i hi => by
        rw [← ih i (by omega) (d f) g h, ← ih i (by omega) f (d g) h, ← comp_add]
        exact comp_congr i (fun j _ => mul_s f g j) fun _ _ _ => rfl
      rw [mul_congr e fun _ _ => rfl, mul_addl]
      have e2 : mul (d (comp f h)) (comp g h) n = mul (mul (comp (d f) h) (comp g h)) (d h) n := by
        rw [mul_congr (f := d (comp f h)) (f' := mul (comp (d f) h) (d h)) (fun i _ => comp_s f h i) fun _ _ => rfl, mul_assoc, mul_assoc]
        exact mul_congr (fun _ _ => rfl) fun i _ => mul_comm i _ _
      have e3 : mul (comp f h) (d (comp g h)) n = mul (mul (comp f h) (comp (d g) h)) (d h) n := by
        rw [mul_congr (g := d (comp g h)) (g' := mul (comp (d g) h) (d h)) (fun _ _ => rfl) (fun i _ => comp_s g h i), mul_assoc]
      rw [e2, e3]
/-- three put in, either way -/
theorem comp_assoc (n : Nat) : ∀ f g h : S, comp (comp f g) h n = comp f (comp g h) n := by
  induction n using Nat.strongRecOn with
  | _ n ih =>
    intro f g h
    cases n with
    | zero => rw [comp_0, comp_0, comp_0]
    | succ n =>
      rw [comp_s, comp_s]
      have e : ∀ i, i ≤ n → comp (d (comp f g)) h i = mul (comp (d f) (comp g h)) (comp (d g) h) i := fun i hi => by
        have e1 : comp (d (comp f g)) h i = comp (mul (comp (d f) g) (d g)) h i := comp_congr i (fun j _ => comp_s f g j) fun _ _ _ => rfl
        rw [e1, comp_mul]
        exact mul_congr (fun j hj => ih j (by omega) (d f) g h) fun _ _ => rfl
      rw [mul_congr e fun _ _ => rfl, mul_assoc]
      exact mul_congr (fun _ _ => rfl) fun i _ => (comp_s g h i).symm
/-! ### the lone one -/
def lone : S := fun n => if n = 1 then 1 else 0
theorem d_lone : d lone = one := by
  funext n
  show (if n + 1 = 1 then (1 : Int) else 0) = if n = 0 then 1 else 0
  by_cases h : n = 0
  · rw [if_pos (by omega), if_pos h]
  · rw [if_neg (by omega), if_neg h]
theorem comp_lone (f : S) (n : Nat) : comp f lone n = f n := by
  induction n using Nat.strongRecOn generalizing f with
  | _ n ih =>
    cases n with
    | zero => exact comp_0 f lone
    | succ n =>
      rw [comp_s, d_lone, mul_oner]
      exact ih n (by omega) (d f)
theorem comp_one (h : S) : ∀ n, comp one h n = one n
  | 0 => comp_0 _ _
  | n + 1 => by
    rw [comp_s, d_one]
    have e : ∀ i, i ≤ n → comp (fun _ => 0) h i = (fun _ => (0 : Int)) i := fun i _ => by
      refine Eq.trans ?_ (sm_zero (i + 1))
      exact sm_congr fun k _ => Int.zero_mul _
    rw [mul_congr e fun _ _ => rfl, mul_zl]
    rfl
theorem lone_comp (h : S) (n : Nat) (hn : 1 ≤ n) : comp lone h n = h n := by
  cases n with
  | zero => omega
  | succ n =>
    rw [comp_s, d_lone, mul_congr (f' := one) (fun i _ => comp_one h i) fun _ _ => rfl, mul_onel]
    rfl
/-! ### one slot changed -/
theorem P_diag (h : S) : ∀ n, P h n n = h 1 ^ n
  | 0 => (Int.pow_zero _).symm
  | n + 1 => by
    rw [P_ss]
    show sm (fun i => ch n i * h (i + 1) * P h n (n - i)) (n + 1) = _
    rw [sm_first]
    have e : sm (fun i => ch n (i + 1) * h (i + 1 + 1) * P h n (n - (i + 1))) n = 0 := by
      refine Eq.trans ?_ (sm_zero n)
      exact sm_congr fun i hi => by rw [P_over h n (n - (i + 1)) (by omega), Int.mul_zero]
    rw [e, ch_0, show n - 0 = n from rfl, P_diag h n, Int.pow_succ, Int.mul_comm (h 1 ^ n), Int.one_mul, Int.add_zero]
/-- the outer one's last: f and f' agree ahead of n -/
theorem comp_last_l {f f' h : S} {n : Nat} (hf : ∀ i, i < n → f i = f' i) : comp f h n - comp f' h n = (f n - f' n) * h 1 ^ n := by
  show (sm (fun k => f k * P h k n) n + f n * P h n n) - (sm (fun k => f' k * P h k n) n + f' n * P h n n) = _
  rw [sm_congr (g := fun k => f' k * P h k n) fun k hk => by rw [hf k hk], P_diag]
  grind
/-- the inner one's last -/
theorem comp_last_r {f h h' : S} {n : Nat} (hn : 1 ≤ n) (hh : ∀ i, 1 ≤ i → i < n → h i = h' i) : comp f h n - comp f h' n = f 1 * (h n - h' n) := by
  cases n with
  | zero => omega
  | succ n =>
    rw [comp_s, comp_s, mul_comm, mul_comm n (comp (d f) h')]
    show (sm (fun i => ch n i * d h i * comp (d f) h (n - i)) n + ch n n * d h n * comp (d f) h (n - n)) - (sm (fun i => ch n i * d h' i * comp (d f) h' (n - i)) n + ch n n * d h' n * comp (d f) h' (n - n)) = _
    rw [sm_congr (g := fun i => ch n i * d h' i * comp (d f) h' (n - i)) fun i hi => by
      show ch n i * h (i + 1) * _ = ch n i * h' (i + 1) * _
      rw [hh (i + 1) (by omega) (by omega), comp_congr (n - i) (h' := h') (fun _ _ => rfl) fun j hj hj2 => hh j hj (by omega)]]
    rw [Nat.sub_self, comp_0, comp_0, ch_self]
    show _ + 1 * h (n + 1) * f 1 - (_ + 1 * h' (n + 1) * f 1) = f 1 * (h (n + 1) - h' (n + 1))
    grind
/-! ### signs -/
def sg : Nat → Int
  | 0 => 1
  | n + 1 => - sg n
def rho (f : S) : S := fun n => sg n * f n
theorem sg_sq : ∀ n, sg n * sg n = 1
  | 0 => rfl
  | n + 1 => by
    show - sg n * - sg n = 1
    have := sg_sq n
    grind
theorem sg_add (m : Nat) : ∀ n, sg (m + n) = sg m * sg n
  | 0 => (Int.mul_one _).symm
  | n + 1 => by
    show - sg (m + n) = sg m * - sg n
    rw [sg_add m n]; grind
theorem mul_rho (f g : S) (n : Nat) : mul (rho f) (rho g) n = sg n * mul f g n := by
  unfold mul
  rw [← sm_mul]
  refine sm_congr fun i hi => ?_
  show ch n i * (sg i * f i) * (sg (n - i) * g (n - i)) = _
  have e := sg_add i (n - i)
  rw [show i + (n - i) = n by omega] at e
  rw [e]; grind
theorem comp_rho_r (n : Nat) : ∀ f h : S, comp f (rho h) n = sg n * comp f h n := by
  induction n using Nat.strongRecOn with
  | _ n ih =>
    intro f h
    cases n with
    | zero => rw [comp_0, comp_0]; show f 0 = 1 * f 0; omega
    | succ n =>
      rw [comp_s, comp_s]
      have e : mul (comp (d f) (rho h)) (d (rho h)) n = mul (rho (comp (d f) h)) (fun i => -1 * rho (d h) i) n :=
        mul_congr (fun i hi => ih i (by omega) (d f) h) fun i _ => by
          show - sg i * h (i + 1) = -1 * (sg i * h (i + 1))
          grind
      rw [e, mul_cr, mul_rho]
      show _ = - sg n * _
      grind
theorem comp_neg_r (n : Nat) : ∀ f h : S, comp f (fun i => -1 * h i) n = comp (rho f) h n := by
  induction n using Nat.strongRecOn with
  | _ n ih =>
    intro f h
    cases n with
    | zero => rw [comp_0, comp_0]; show f 0 = 1 * f 0; omega
    | succ n =>
      rw [comp_s, comp_s]
      have e1 : mul (comp (d f) (fun i => -1 * h i)) (d fun i => -1 * h i) n = mul (comp (rho (d f)) h) (fun i => -1 * d h i) n :=
        mul_congr (fun i hi => ih i (by omega) (d f) h) fun i _ => rfl
      have e2 : mul (comp (d (rho f)) h) (d h) n = mul (fun i => -1 * comp (rho (d f)) h i) (d h) n :=
        mul_congr (fun i _ => by
          rw [← comp_c]
          exact comp_congr i (fun j _ => by
            show - sg j * f (j + 1) = -1 * (sg j * f (j + 1))
            grind) fun _ _ _ => rfl) fun _ _ => rfl
      rw [e1, e2, mul_cr, mul_cl]
/-- the signs of a row: +, -, +, .. from the first -/
def sgn (f : S) : S := fun n => -1 * rho f n
theorem sgn_sgn (f : S) (n : Nat) : sgn (sgn f) n = f n := by
  show -1 * (sg n * (-1 * (sg n * f n))) = f n
  have := sg_sq n
  grind
theorem comp_sgn (f h : S) (n : Nat) : comp (sgn f) (sgn h) n = sgn (comp f h) n := by
  have e1 : comp (sgn f) (sgn h) n = -1 * comp (rho f) (sgn h) n := comp_c (-1) (rho f) (sgn h) n
  have e2 : comp (rho f) (sgn h) n = comp (rho (rho f)) (rho h) n := comp_neg_r n (rho f) (rho h)
  have e3 : comp (rho (rho f)) (rho h) n = comp f (rho h) n := comp_congr n (fun i _ => by
    show sg i * (sg i * f i) = f i
    have := sg_sq i
    grind) fun _ _ _ => rfl
  rw [e1, e2, e3, comp_rho_r]
  rfl
/-! ### contrary rows -/
theorem right_inv (g : S) (hg : g 1 = 1) : ∀ L : Nat, ∃ k : S, ∀ n, 1 ≤ n → n ≤ L → comp g k n = lone n
  | 0 => ⟨g, fun n h1 h2 => by omega⟩
  | L + 1 => by
    obtain ⟨k, hk⟩ := right_inv g hg L
    refine ⟨fun i => if i = L + 1 then k (L + 1) + (lone (L + 1) - comp g k (L + 1)) else k i, fun n h1 h2 => ?_⟩
    by_cases e : n = L + 1
    · subst e
      have q := comp_last_r (f := g) (h := fun i => if i = L + 1 then k (L + 1) + (lone (L + 1) - comp g k (L + 1)) else k i) (h' := k) (n := L + 1) h1 fun i _ hi => if_neg (by omega)
      rw [hg, Int.one_mul, if_pos rfl] at q
      omega
    · rw [← hk n h1 (by omega)]
      exact comp_congr n (fun _ _ => rfl) fun i _ hi => if_neg (by omega)
/-- what turns from the right turns from the left -/
theorem left_inv {f g : S} {L : Nat} (hf : f 0 = 0) (hg1 : g 1 = 1) (h : ∀ n, 1 ≤ n → n ≤ L → comp f g n = lone n) : ∀ n, 1 ≤ n → n ≤ L → comp g f n = lone n := by
  obtain ⟨k, hk⟩ := right_inv g hg1 L
  have e : ∀ n, 1 ≤ n → n ≤ L → f n = k n := fun n h1 h2 => by
    have a1 : f n = comp f (comp g k) n := by
      rw [← comp_lone f n]
      exact comp_congr n (fun _ _ => rfl) fun i hi hi2 => (hk i hi (by omega)).symm
    have a2 : comp (comp f g) k n = comp lone k n := comp_congr n (fun i hi => by
      by_cases hz : i = 0
      · subst hz
        rw [comp_0, hf]; rfl
      · exact h i (by omega) (by omega)) fun _ _ _ => rfl
    rw [a1, ← comp_assoc, a2]
    exact lone_comp k n h1
  intro n h1 h2
  rw [← hk n h1 h2]
  exact comp_congr n (fun _ _ => rfl) fun i hi hi2 => e i hi (by omega)
/-- the one from the right is one alone -/
theorem inv_uniq {f g g' : S} (hf1 : f 1 = 1) : ∀ n, 1 ≤ n → (∀ i, 1 ≤ i → i ≤ n → comp f g i = comp f g' i) → g n = g' n := by
  intro n
  induction n using Nat.strongRecOn with
  | _ n ih =>
    intro h1 h
    have q := comp_last_r (f := f) (h := g) (h' := g') h1 fun i hi hi2 => ih i hi2 hi fun j hj hj2 => h j hj (by omega)
    rw [h n h1 (Nat.le_refl n), hf1] at q
    omega
/-! ### partings into heaps -/
def dn (a : Nat) (h : S) : S := fun i => h (i + a)
def prodS (h : S) : List Nat → S
  | [] => one
  | a :: w => mul (dn a h) (prodS h w)
def incs : List Nat → List (List Nat)
  | [] => []
  | a :: w => ((a + 1) :: w) :: (incs w).map (a :: ·)
def heaps : Nat → List (List Nat)
  | 0 => [[]]
  | n + 1 => (heaps n).flatMap fun w => (w ++ [1]) :: incs w
def prodI (h : S) : List Nat → Int
  | [] => 1
  | a :: w => h a * prodI h w
theorem prodS_0 (h : S) : ∀ w, prodS h w 0 = prodI h w
  | [] => rfl
  | a :: w => by
    show mul (dn a h) (prodS h w) 0 = _
    rw [mul_0, prodS_0 h w]
    show h (0 + a) * _ = h a * _
    rw [Nat.zero_add]
theorem prodS_app (h : S) (n : Nat) : ∀ w, prodS h (w ++ [1]) n = mul (prodS h w) (d h) n
  | [] => by
    show mul (dn 1 h) one n = mul one (d h) n
    rw [mul_oner, mul_onel]; rfl
  | a :: w => by
    show mul (dn a h) (prodS h (w ++ [1])) n = mul (mul (dn a h) (prodS h w)) (d h) n
    rw [mul_assoc]
    exact mul_congr (fun _ _ => rfl) fun i _ => prodS_app h i w
theorem mul_lsum (f : S) (n : Nat) (F : List Nat → S) : ∀ l : List (List Nat), mul f (fun i => (l.map fun w => F w i).sum) n = (l.map fun w => mul f (F w) n).sum
  | [] => by
    show mul f (fun _ => 0) n = 0
    rw [mul_comm, mul_zl]
  | w :: l => by
    show mul f (fun i => F w i + (l.map fun w => F w i).sum) n = mul f (F w) n + _
    rw [mul_addr, mul_lsum f n F l]
    rfl
theorem prodS_d (h : S) : ∀ (w : List Nat) (n : Nat), prodS h w (n + 1) = ((incs w).map fun v => prodS h v n).sum
  | [], n => rfl
  | a :: w, n => by
    show mul (dn a h) (prodS h w) (n + 1) = prodS h ((a + 1) :: w) n + (((incs w).map (a :: ·)).map fun v => prodS h v n).sum
    rw [mul_s, List.map_map]
    have e1 : mul (d (dn a h)) (prodS h w) n = prodS h ((a + 1) :: w) n := mul_congr (fun i _ => by
      show h (i + 1 + a) = h (i + (a + 1))
      rw [show i + 1 + a = i + (a + 1) by omega]) fun _ _ => rfl
    have e2 : mul (dn a h) (d (prodS h w)) n = mul (dn a h) (fun i => ((incs w).map fun v => prodS h v i).sum) n := mul_congr (fun _ _ => rfl) fun i _ => prodS_d h w i
    rw [e1, e2, mul_lsum]
    rfl
def R (f h : S) (w : List Nat) : S := mul (comp (dn w.length f) h) (prodS h w)
theorem R_0 (f h : S) (w : List Nat) : R f h w 0 = f w.length * prodI h w := by
  show mul _ _ 0 = _
  rw [mul_0, comp_0, prodS_0]
  show f (0 + w.length) * _ = _
  rw [Nat.zero_add]
theorem R_s (f h : S) (w : List Nat) (n : Nat) : R f h w (n + 1) = (((w ++ [1]) :: incs w).map fun v => R f h v n).sum := by
  have len : ∀ (w : List Nat) v, v ∈ incs w → v.length = w.length := by
    intro w
    induction w with
    | nil => intro v hv; cases hv
    | cons a w ih =>
      intro v hv
      rcases List.mem_cons.mp hv with e | hv
      · rw [e]; rfl
      · obtain ⟨u, hu, rfl⟩ := List.mem_map.mp hv
        show u.length + 1 = w.length + 1
        rw [ih u hu]
  show mul _ _ (n + 1) = R f h (w ++ [1]) n + ((incs w).map fun v => R f h v n).sum
  rw [mul_s]
  have e1 : mul (d (comp (dn w.length f) h)) (prodS h w) n = R f h (w ++ [1]) n := by
    rw [mul_congr (f := d (comp (dn w.length f) h)) (f' := mul (comp (dn (w.length + 1) f) h) (d h)) (fun i _ => by
      show comp (dn w.length f) h (i + 1) = _
      rw [comp_s]
      exact mul_congr (fun j _ => comp_congr j (fun t _ => by
        show f (t + 1 + w.length) = f (t + (w.length + 1))
        rw [show t + 1 + w.length = t + (w.length + 1) by omega]) fun _ _ _ => rfl) fun _ _ => rfl) fun _ _ => rfl, mul_assoc]
    show _ = mul (comp (dn (w ++ [1]).length f) h) (prodS h (w ++ [1])) n
    rw [List.length_append, List.length_singleton]
    exact mul_congr (fun _ _ => rfl) fun i _ => by rw [prodS_app, mul_comm]
  have e2 : mul (comp (dn w.length f) h) (d (prodS h w)) n = ((incs w).map fun v => R f h v n).sum := by
    rw [mul_congr (f' := comp (dn w.length f) h) (g := d (prodS h w)) (g' := fun i => ((incs w).map fun v => prodS h v i).sum) (fun _ _ => rfl) fun i _ => prodS_d h w i, mul_lsum]
    congr 1
    refine List.map_congr_left fun v hv => ?_
    show _ = mul (comp (dn v.length f) h) (prodS h v) n
    rw [len w v hv]
  rw [e1, e2]
theorem sum_flatMap {α β : Type} (F : β → Int) (g : α → List β) : ∀ l : List α, ((l.flatMap g).map F).sum = (l.map fun a => ((g a).map F).sum).sum
  | [] => rfl
  | a :: l => by
    rw [List.flatMap_cons, List.map_append, List.sum_append, sum_flatMap F g l]
    rfl
theorem heaps_sum (f h : S) (m : Nat) : ∀ n, ((heaps n).map fun w => R f h w m).sum = R f h [] (n + m) := by
  intro n
  induction n generalizing m with
  | zero => show R f h [] m + 0 = R f h [] (0 + m); rw [Nat.zero_add, Int.add_zero]
  | succ n ih =>
    show ((List.flatMap _ _).map _).sum = _
    rw [sum_flatMap]
    have e : ((heaps n).map fun w => ((((w ++ [1]) :: incs w).map fun v => R f h v m).sum)) = (heaps n).map fun w => R f h w (m + 1) := List.map_congr_left fun w _ => (R_s f h w m).symm
    rw [e, ih (m + 1), show n + (m + 1) = n + 1 + m by omega]
/-- by all partings -/
theorem by_heaps (f h : S) (n : Nat) : ((heaps n).map fun w => f w.length * prodI h w).sum = comp f h n := by
  have e := heaps_sum f h 0 n
  rw [List.map_congr_left (g := fun w => f w.length * prodI h w) fun w _ => R_0 f h w] at e
  rw [e]
  show mul (comp (dn 0 f) h) one (n + 0) = _
  rw [mul_oner]
  rfl
/-! ### how large they may become -/
theorem abs_sm (f : Nat → Int) : ∀ n, (sm f n).natAbs ≤ (sm (fun i => ((f i).natAbs : Int)) n).natAbs
  | 0 => Nat.le_refl 0
  | n + 1 => by
    have h := abs_sm f n
    have := sm_nn (f := fun i => ((f i).natAbs : Int)) (fun i => Int.natCast_nonneg _) n
    show (sm f n + f n).natAbs ≤ (sm (fun i => ((f i).natAbs : Int)) n + ((f n).natAbs : Int)).natAbs
    omega
theorem sm_le {f g : Nat → Int} : ∀ n, (∀ i, i < n → f i ≤ g i) → sm f n ≤ sm g n
  | 0, _ => Int.le_refl 0
  | n + 1, h => by
    have a := sm_le (f := f) (g := g) n fun i hi => h i (by omega)
    have b := h n (by omega)
    show sm f n + f n ≤ sm g n + g n
    omega
/-- the parts of h by an upper bound: e * |h i| <= c * T ^ i -/
theorem P_bound {h : S} {e c T : Nat} (hT : 1 ≤ T) (hb : ∀ i, 1 ≤ i → e * (h i).natAbs ≤ c * T ^ i) : ∀ k n : Nat, e ^ k * (P h k n).natAbs ≤ c ^ k * T ^ n * 2 ^ (n * n)
  | 0, n => by
    have hp : 0 < T ^ n * 2 ^ (n * n) := Nat.mul_pos (Nat.pow_pos hT) (Nat.pow_pos (by decide))
    have h1 : (one n).natAbs ≤ 1 := by
      show (if n = 0 then (1 : Int) else 0).natAbs ≤ 1
      split <;> decide
    show e ^ 0 * (one n).natAbs ≤ c ^ 0 * T ^ n * 2 ^ (n * n)
    rw [Nat.pow_zero, Nat.pow_zero, Nat.one_mul, Nat.one_mul]
    omega
  | k + 1, 0 => by
    show e ^ (k + 1) * 0 ≤ _
    rw [Nat.mul_zero]; exact Nat.zero_le _
  | k + 1, n + 1 => by
    rw [P_ss]
    show e ^ (k + 1) * (sm (fun i => ch n i * h (i + 1) * P h k (n - i)) (n + 1)).natAbs ≤ _
    have a1 := abs_sm (fun i => ch n i * h (i + 1) * P h k (n - i)) (n + 1)
    -- every part
    have a2 : (e ^ (k + 1) : Nat) * sm (fun i => ((ch n i * h (i + 1) * P h k (n - i)).natAbs : Int)) (n + 1) ≤ (c ^ (k + 1) * T ^ (n + 1) * 2 ^ (n * n) : Nat) * sm (ch n) (n + 1) := by
      rw [← sm_mul, ← sm_mul]
      refine sm_le (n + 1) fun i hi => ?_
      rw [Int.natAbs_mul, Int.natAbs_mul]
      have b1 := hb (i + 1) (by omega)
      have b2 := P_bound hT hb k (n - i)
      have b3 := ch_nn n i
      have b4 : ((ch n i).natAbs : Int) = ch n i := Int.natAbs_of_nonneg b3
      have b5 : 2 ^ ((n - i) * (n - i)) ≤ 2 ^ (n * n) := Nat.pow_le_pow_right (by decide) (Nat.mul_le_mul (Nat.sub_le _ _) (Nat.sub_le _ _))
      have b6 : e ^ (k + 1) * ((ch n i).natAbs * (h (i + 1)).natAbs * (P h k (n - i)).natAbs) ≤ c ^ (k + 1) * T ^ (n + 1) * 2 ^ (n * n) * (ch n i).natAbs := by
        have c1 : e * (h (i + 1)).natAbs * (e ^ k * (P h k (n - i)).natAbs) ≤ c * T ^ (i + 1) * (c ^ k * T ^ (n - i) * 2 ^ ((n - i) * (n - i))) := Nat.mul_le_mul b1 b2
        have c2 : c * T ^ (i + 1) * (c ^ k * T ^ (n - i) * 2 ^ ((n - i) * (n - i))) = c ^ (k + 1) * T ^ (n + 1) * 2 ^ ((n - i) * (n - i)) := by
          have : T ^ (n + 1) = T ^ (i + 1) * T ^ (n - i) := by rw [← Nat.pow_add]; congr 1; omega
          rw [this, Nat.pow_succ]; grind
        have c3 : e ^ (k + 1) * ((ch n i).natAbs * (h (i + 1)).natAbs * (P h k (n - i)).natAbs) = (e * (h (i + 1)).natAbs * (e ^ k * (P h k (n - i)).natAbs)) * (ch n i).natAbs := by
          rw [Nat.pow_succ]; grind
        rw [c3]
        refine Nat.mul_le_mul_right _ (Nat.le_trans c1 ?_)
        rw [c2]
        exact Nat.mul_le_mul_left _ b5
      have b7 : ((e ^ (k + 1) * ((ch n i).natAbs * (h (i + 1)).natAbs * (P h k (n - i)).natAbs) : Nat) : Int) ≤ ((c ^ (k + 1) * T ^ (n + 1) * 2 ^ (n * n) * (ch n i).natAbs : Nat) : Int) := Int.ofNat_le.mpr b6
      rw [Int.natCast_mul, Int.natCast_mul _ (ch n i).natAbs, b4] at b7
      exact b7
    rw [ch_sum] at a2
    have a3 : e ^ (k + 1) * (sm (fun i => ((ch n i * h (i + 1) * P h k (n - i)).natAbs : Int)) (n + 1)).natAbs ≤ c ^ (k + 1) * T ^ (n + 1) * 2 ^ (n * n) * 2 ^ n := by
      have pos := sm_nn (f := fun i => ((ch n i * h (i + 1) * P h k (n - i)).natAbs : Int)) (fun i => Int.natCast_nonneg _)
      refine Int.ofNat_le.mp ?_
      rw [Int.natCast_mul, Int.natAbs_of_nonneg (pos (n + 1)), Int.natCast_mul _ (2 ^ n)]
      rw [show ((2 ^ n : Nat) : Int) = (2 : Int) ^ n from by rw [Int.natCast_pow]; rfl]
      exact a2
    refine Nat.le_trans (Nat.mul_le_mul_left _ a1) (Nat.le_trans a3 ?_)
    rw [Nat.mul_assoc, ← Nat.pow_add]
    exact Nat.mul_le_mul_left _ (Nat.pow_le_pow_right (by decide) (by grind))
end Sq

namespace K12
open PySem PySem.Spec PyProof.Rows L2 Dl
noncomputable section
def topS (i : Nat) : Stmt := PySem.Challenge.pw_boughrules_k12_main_rows_put_together.main.body.getD i (.Pass ⟨0, 0, 0, 0⟩)
structure Fx (K : PySem.W.Frag) (mg : Str → Option Value) : Prop where
  b_ValueError : mg "ValueError" = none
  b_abs : mg "abs" = none
  b_all : mg "all" = none
  b_bool : mg "bool" = none
  b_enumerate : mg "enumerate" = none
  b_int : mg "int" = none
  b_isinstance : mg "isinstance" = none
  b_len : mg "len" = none
  b_list : mg "list" = none
  b_min : mg "min" = none
  b_range : mg "range" = none
  b_str : mg "str" = none
  b_sum : mg "sum" = none
  b_tuple : mg "tuple" = none
  b_zip : mg "zip" = none
  c_MOST_ROW : ∃ t, mg "MOST_ROW" = some (.int 40 t)
  x_CanNot : ∃ C, ExcV K C ∧ mg "CanNot" = some (.ref C) ∧ ExcH K C
  x_Unfit : ∃ C, ExcV K C ∧ mg "Unfit" = some (.ref C)
/-! ### is_number -/
abbrev s_is_number : Stmt := topS 4
def N_is_number : List Str := [("thing" : Str)]
theorem sc_is_number : FnScope N_is_number [("thing" : Str)] (defScope s_is_number) := ⟨rfl, rfl, rfl, by decide +kernel, rfl, by decide +kernel, by decide +kernel⟩
def pb_is_number : List Bool := [false]
def m_is_number : MS := xSeq (xRetE (xAndV (xUn (dIsi "int") (xp 0)) (ofB (xNot (toB (xUn (dIsi "bool") (xp 0)))))))
    (xNx)
theorem b_is_number {P : Program} {w : World} {K : PySem.W.Frag} {mg : Str → Option Value} {base : Heap} {kk : Nat} (T : Fx K mg)  {f : Addr} {cdv : Value} {A : Around} {outer : List PySem.Env} {s : Shared} {H : Hp} {E : XK} (hr : Room kk (A.deeper (envOfC "is_number" (defScope s_is_number) s.heap.objs.size f cdv))) :
    SSs (cxOf (L2.CX P w) P w K mg base N_is_number "is_number" (defScope s_is_number) f cdv A outer s H E) pb_is_number (defBody s_is_number) (m_is_number) := by
  exact sss_cons (ss_retE (se_and (se_isi1 call_isi run_isi (sb_var 0) (pe_bltn (v := .ty "int") (by rfl) T.b_int boot_int rfl) (by rfl) T.b_isinstance boot_isinstance) (se_one (se_not (se_isi1 call_isi run_isi (sb_var 0) (pe_bltn (v := .ty "bool") (by rfl) T.b_bool boot_bool rfl) (by rfl) T.b_isinstance boot_isinstance)))))
    (sss_nil)
theorem p_is_number {P : Program} {w : World} {K : PySem.W.Frag} {mg : Str → Option Value} {base : Heap} {kk : Nat} (T : Fx K mg) (D : Df K mg "is_number" s_is_number [("thing" : Str)])  {g : Dl.Env → Out Cn} (hg : ∀ env : Dl.Env, env.length = 1 → g env = .no ∨ runB pb_is_number 0 (m_is_number) env = g env) : Pr P w K mg base (kk + 1) "is_number" s_is_number [("thing" : Str)] g :=
  pr_of D sc_is_number rfl (fun f cdv A outer s H E hr => b_is_number T  hr) hg
/-! ### tupled -/
abbrev s_tupled : Stmt := topS 5
def N_tupled : List Str := [("value" : Str), ("own" : Str)]
theorem sc_tupled : FnScope N_tupled [("value" : Str)] (defScope s_tupled) := ⟨rfl, rfl, rfl, by decide +kernel, rfl, by decide +kernel, by decide +kernel⟩
def pb_tupled : List Bool := [false]
def m_tupled (g_tupled : Dl.Env → Out Cn) : MS := xSeq (xIfS (toB (xUn (dIsis ["list", "tuple"]) (xp 0))) (xSeq (xRetE (xUn dTup (xFz (xLc [1] (xIt asSeq (xfr 0)) (gNm 1) (xYes) (xFz (xCall 1 g_tupled [none] (aVal (xfr 1) (aNil))))))))
    (xNx)) (xNx))
    (xSeq (xRetE (xfr 0))
    (xNx))
theorem b_tupled {P : Program} {w : World} {K : PySem.W.Frag} {mg : Str → Option Value} {base : Heap} {kk : Nat} (T : Fx K mg) {g_tupled : Dl.Env → Out Cn} (G_tupled : Pr P w K mg base kk "tupled" s_tupled [("value" : Str)] g_tupled) {f : Addr} {cdv : Value} {A : Around} {outer : List PySem.Env} {s : Shared} {H : Hp} {E : XK} (hr : Room kk (A.deeper (envOfC "tupled" (defScope s_tupled) s.heap.objs.size f cdv))) :
    SSs (cxOf (L2.CX P w) P w K mg base N_tupled "tupled" (defScope s_tupled) f cdv A outer s H E) pb_tupled (defBody s_tupled) (m_tupled g_tupled) := by
  exact sss_cons (ss_if (st_val (SE.sb (se_isis (Ts := ["list", "tuple"]) (sb_var 0) (pa_cons (pe_bltn (v := .ty "list") (by rfl) T.b_list boot_list rfl) (pa_cons (pe_bltn (v := .ty "tuple") (by rfl) T.b_tuple boot_tuple rfl) (pa_nil))) (fun _ _ _ h => h) (by decide) (by rfl) T.b_isinstance))) (sss_cons (ss_retE (se_callT1 cr_tupD rc_tup (SE.sb (se_fz (sn_lc (own := [(("own" : Str), 1)]) rfl sc_tupled.nd (si_seq (se_frz (pv 0))) (blkOk_by (by rfl)) (by decide) (fun _ _ _ _ _ => sg_name sc_tupled.nd) (fun _ _ _ _ _ => sc_nil) (fun _ _ _ _ _ => se_fz (sn_callP G_tupled hr (Nat.le_refl _) (by rfl) (sx_val (se_frz (pv 1)) (sx_nil))))))) (by rfl) T.b_tuple boot_tuple))
    (sss_nil)) (sss_nil))
    (sss_cons (ss_retE (se_frz (pv 0)))
    (sss_nil))
theorem p_tupled {P : Program} {w : World} {K : PySem.W.Frag} {mg : Str → Option Value} {base : Heap} {kk : Nat} (T : Fx K mg) (D : Df K mg "tupled" s_tupled [("value" : Str)]) {g_tupled : Dl.Env → Out Cn} (G_tupled : Pr P w K mg base kk "tupled" s_tupled [("value" : Str)] g_tupled) {g : Dl.Env → Out Cn} (hg : ∀ env : Dl.Env, env.length = 1 → g env = .no ∨ runB pb_tupled 1 (m_tupled g_tupled) env = g env) : Pr P w K mg base (kk + 1) "tupled" s_tupled [("value" : Str)] g :=
  pr_of D sc_tupled rfl (fun f cdv A outer s H E hr => b_tupled T G_tupled hr) hg
/-! ### is_row -/
abbrev s_is_row : Stmt := topS 8
def N_is_row : List Str := [("thing" : Str), ("own" : Str)]
theorem sc_is_row : FnScope N_is_row [("thing" : Str)] (defScope s_is_row) := ⟨rfl, rfl, rfl, by decide +kernel, rfl, by decide +kernel, by decide +kernel⟩
def pb_is_row : List Bool := [false]
def m_is_row (g_is_number : Dl.Env → Out Cn) : MS := xSeq (xRetE (xAndV (xUn (dIsi "tuple") (xp 0)) (xAndV (xChain dLe dLe (xk (.int 1)) (xUn dLen (xp 0)) (xk (.int 40))) (xUn dAll (xFz (xLc [1] (xIt asSeq (xfr 0)) (gNm 1) (xYes) (xFz (xCall 1 g_is_number [none] (aVal (xfr 1) (aNil))))))))))
    (xNx)
theorem b_is_row {P : Program} {w : World} {K : PySem.W.Frag} {mg : Str → Option Value} {base : Heap} {kk : Nat} (T : Fx K mg) {g_is_number : Dl.Env → Out Cn} (G_is_number : Pr P w K mg base kk "is_number" s_is_number [("thing" : Str)] g_is_number) {f : Addr} {cdv : Value} {A : Around} {outer : List PySem.Env} {s : Shared} {H : Hp} {E : XK} (hr : Room kk (A.deeper (envOfC "is_row" (defScope s_is_row) s.heap.objs.size f cdv))) :
    SSs (cxOf (L2.CX P w) P w K mg base N_is_row "is_row" (defScope s_is_row) f cdv A outer s H E) pb_is_row (defBody s_is_row) (m_is_row g_is_number) := by
  exact sss_cons (ss_retE (se_and (se_isi1 call_isi run_isi (sb_var 0) (pe_bltn (v := .ty "tuple") (by rfl) T.b_tuple boot_tuple rfl) (by rfl) T.b_isinstance boot_isinstance) (se_and (se_chain op_le ropb_le op_le rop_le (se_int) (se_call1 call_len rc_len (sb_var 0) (by rfl) T.b_len boot_len) (SE.sb (se_globInt (by rfl) T.c_MOST_ROW))) (se_one (se_call1 (cr_all rfl) rc_all (SE.sb (se_fz (sn_lc (own := [(("own" : Str), 1)]) rfl sc_is_row.nd (si_seq (se_frz (pv 0))) (blkOk_by (by rfl)) (by decide) (fun _ _ _ _ _ => sg_name sc_is_row.nd) (fun _ _ _ _ _ => sc_nil) (fun _ _ _ _ _ => se_fz (sn_callP G_is_number hr (Nat.le_refl _) (by rfl) (sx_val (se_frz (pv 1)) (sx_nil))))))) (by rfl) T.b_all boot_all)))))
    (sss_nil)
theorem p_is_row {P : Program} {w : World} {K : PySem.W.Frag} {mg : Str → Option Value} {base : Heap} {kk : Nat} (T : Fx K mg) (D : Df K mg "is_row" s_is_row [("thing" : Str)]) {g_is_number : Dl.Env → Out Cn} (G_is_number : Pr P w K mg base kk "is_number" s_is_number [("thing" : Str)] g_is_number) {g : Dl.Env → Out Cn} (hg : ∀ env : Dl.Env, env.length = 1 → g env = .no ∨ runB pb_is_row 1 (m_is_row g_is_number) env = g env) : Pr P w K mg base (kk + 1) "is_row" s_is_row [("thing" : Str)] g :=
  pr_of D sc_is_row rfl (fun f cdv A outer s H E hr => b_is_row T G_is_number hr) hg
/-! ### sure_row -/
abbrev s_sure_row : Stmt := topS 9
def N_sure_row : List Str := [("value" : Str), ("own" : Str)]
theorem sc_sure_row : FnScope N_sure_row [("value" : Str)] (defScope s_sure_row) := ⟨rfl, rfl, rfl, by decide +kernel, rfl, by decide +kernel, by decide +kernel⟩
def pb_sure_row : List Bool := [false]
def m_sure_row (g_tupled g_is_row : Dl.Env → Out Cn) : MS := xSeq (xSet 1 (xFz (xCall 1 g_tupled [none] (aVal (xfr 0) (aNil)))))
    (xSeq (xIfS (xNot (toB (xFz (xCall 1 g_is_row [none] (aVal (xfr 1) (aNil)))))) (xSeq (xRaise (.plain ("Unfit" : Str)))
    (xNx)) (xNx))
    (xSeq (xRetE (xfr 1))
    (xNx)))
theorem b_sure_row {P : Program} {w : World} {K : PySem.W.Frag} {mg : Str → Option Value} {base : Heap} {kk : Nat} (T : Fx K mg) {g_tupled g_is_row : Dl.Env → Out Cn} (G_tupled : Pr P w K mg base kk "tupled" s_tupled [("value" : Str)] g_tupled) (G_is_row : Pr P w K mg base kk "is_row" s_is_row [("thing" : Str)] g_is_row) {f : Addr} {cdv : Value} {A : Around} {outer : List PySem.Env} {s : Shared} {H : Hp} {E : XK} (hr : Room kk (A.deeper (envOfC "sure_row" (defScope s_sure_row) s.heap.objs.size f cdv))) :
    SSs (cxOf (L2.CX P w) P w K mg base N_sure_row "sure_row" (defScope s_sure_row) f cdv A outer s H E) pb_sure_row (defBody s_sure_row) (m_sure_row g_tupled g_is_row) := by
  obtain ⟨CX_Unfit, E_Unfit, M_Unfit⟩ := T.x_Unfit
  exact sss_cons (ss_set 1 sc_sure_row.nd (se_fz (sn_callP G_tupled hr (Nat.le_refl _) (by rfl) (sx_val (se_frz (pv 0)) (sx_nil)))))
    (sss_cons (ss_if (st_not (st_val (SE.sb (se_fz (sn_callP G_is_row hr (Nat.le_refl _) (by rfl) (sx_val (se_frz (pv 1)) (sx_nil))))))) (sss_cons (ss_raise0 rfl E_Unfit M_Unfit (by rfl))
    (sss_nil)) (sss_nil))
    (sss_cons (ss_retE (se_frz (pv 1)))
    (sss_nil)))
theorem p_sure_row {P : Program} {w : World} {K : PySem.W.Frag} {mg : Str → Option Value} {base : Heap} {kk : Nat} (T : Fx K mg) (D : Df K mg "sure_row" s_sure_row [("value" : Str)]) {g_tupled g_is_row : Dl.Env → Out Cn} (G_tupled : Pr P w K mg base kk "tupled" s_tupled [("value" : Str)] g_tupled) (G_is_row : Pr P w K mg base kk "is_row" s_is_row [("thing" : Str)] g_is_row) {g : Dl.Env → Out Cn} (hg : ∀ env : Dl.Env, env.length = 1 → g env = .no ∨ runB pb_sure_row 1 (m_sure_row g_tupled g_is_row) env = g env) : Pr P w K mg base (kk + 1) "sure_row" s_sure_row [("value" : Str)] g :=
  pr_of D sc_sure_row rfl (fun f cdv A outer s H E hr => b_sure_row T G_tupled G_is_row hr) hg
/-! ### choose_row -/
abbrev s_choose_row : Stmt := topS 10
def N_choose_row : List Str := [("most" : Str), ("rows" : Str), ("many" : Str), ("last" : Str), ("k" : Str)]
theorem sc_choose_row : FnScope N_choose_row [("most" : Str)] (defScope s_choose_row) := ⟨rfl, rfl, rfl, by decide +kernel, rfl, by decide +kernel, by decide +kernel⟩
def pb_choose_row : List Bool := [false]
def m_choose_row : MS := xSeq (xSetN 1 (xLst (xCons (xFz (xLst (xCons (xk (.int 1)) (xNil)))) (xNil))))
    (xSeq (xFor (xRng2 (xk (.int 1)) (xBinV dAdd 0 (xk (.int 1)))) (gNm 2) (xSeq (xSet 3 (xBinV dIdx 1 (xUn dNeg (xk (.int 1)))))
    (xSeq (xEx (xMu mAppend 1 (xCons (xBin dAdd (xBin dAdd (xFz (xLst (xCons (xk (.int 1)) (xNil)))) (xFz (xLc [4] (xRng1 (xBinV dSub 2 (xk (.int 1)))) (gNm 4) (xYes) (xBin dAdd (xBinV dIdx 3 (xp 4)) (xBinV dIdx 3 (xBinV dAdd 4 (xk (.int 1)))))))) (xFz (xLst (xCons (xk (.int 1)) (xNil))))) (xNil))))
    (xNx))))
    (xSeq (xRetE (xfr 1))
    (xNx)))
theorem b_choose_row {P : Program} {w : World} {K : PySem.W.Frag} {mg : Str → Option Value} {base : Heap} {kk : Nat} (T : Fx K mg)  {f : Addr} {cdv : Value} {A : Around} {outer : List PySem.Env} {s : Shared} {H : Hp} {E : XK} (hr : Room kk (A.deeper (envOfC "choose_row" (defScope s_choose_row) s.heap.objs.size f cdv))) :
    SSs (cxOf (L2.CX P w) P w K mg base N_choose_row "choose_row" (defScope s_choose_row) f cdv A outer s H E) pb_choose_row (defBody s_choose_row) (m_choose_row) := by
  exact sss_cons (ss_setN 1 sc_choose_row.nd (sn_lst (sa_cons (se_fz (sn_lst (sa_cons (se_int) (sa_nil)))) (sa_nil))))
    (sss_cons (ss_for rfl (si_range2 (by rfl) T.b_range (se_int) (se_binV op_addA rop_add (pv 0) (SE.sb (se_int)))) (sg_name sc_choose_row.nd) (sss_cons (ss_set 3 sc_choose_row.nd (se_ixV ix_seq rop_ix (pv 1) (SE.sb (se_un un_neg run_neg (SE.sb (se_int)))) (fun _ _ => rfl)))
    (sss_cons (ss_expr (se_mu PySem.F.plainAttrs_list PySem.F.slot_list_append PySem.F.type_list_append mt_append rmu_append (pv 1) (sa_cons (se_bin op_addA rop_add (se_bin op_addA rop_add (se_fz (sn_lst (sa_cons (se_int) (sa_nil)))) (SE.sb (se_fz (sn_lc (own := [(("k" : Str), 4)]) rfl sc_choose_row.nd (si_range1 (by rfl) T.b_range (se_binV op_sub rop_sub (pv 2) (SE.sb (se_int)))) (blkOk_by (by rfl)) (by decide) (fun _ _ _ _ _ => sg_name sc_choose_row.nd) (fun _ _ _ _ _ => sc_nil) (fun _ _ _ _ _ => se_bin op_addA rop_add (se_ixV ix_seq rop_ix (pv 3) (sb_var 4) (fun _ _ => rfl)) (SE.sb (se_ixV ix_seq rop_ix (pv 3) (SE.sb (se_binV op_addA rop_add (pv 4) (SE.sb (se_int)))) (fun _ _ => rfl)))))))) (SE.sb (se_fz (sn_lst (sa_cons (se_int) (sa_nil)))))) (sa_nil))))
    (sss_nil))))
    (sss_cons (ss_retE (se_frz (pv 1)))
    (sss_nil)))
theorem p_choose_row {P : Program} {w : World} {K : PySem.W.Frag} {mg : Str → Option Value} {base : Heap} {kk : Nat} (T : Fx K mg) (D : Df K mg "choose_row" s_choose_row [("most" : Str)])  {g : Dl.Env → Out Cn} (hg : ∀ env : Dl.Env, env.length = 1 → g env = .no ∨ runB pb_choose_row 4 (m_choose_row) env = g env) : Pr P w K mg base (kk + 1) "choose_row" s_choose_row [("most" : Str)] g :=
  pr_of D sc_choose_row rfl (fun f cdv A outer s H E hr => b_choose_row T  hr) hg
/-! ### spread -/
abbrev s_spread : Stmt := topS 11
def N_spread : List Str := [("row" : Str), ("most" : Str), ("chosen" : Str), ("found" : Str), ("heaps" : Str), ("last" : Str), ("later" : Str), ("names" : Str), ("total" : Str), ("size" : Str)]
theorem sc_spread : FnScope N_spread [("row" : Str), ("most" : Str)] (defScope s_spread) := ⟨rfl, rfl, rfl, by decide +kernel, rfl, by decide +kernel, by decide +kernel⟩
def pb_spread : List Bool := [false, false]
def m_spread (g_choose_row : Dl.Env → Out Cn) : MS := xSeq (xSet 2 (xFz (xCall 1 g_choose_row [none] (aVal (xfr 1) (aNil)))))
    (xSeq (xSetN 3 (xLst (xCons (xBin dAdd (xFz (xLst (xCons (xk (.int 1)) (xNil)))) (xBin dMul (xFz (xLst (xCons (xk (.int 0)) (xNil)))) (xp 1))) (xNil))))
    (xSeq (xFor (xRng2 (xk (.int 1)) (xBinV dAdd 1 (xk (.int 1)))) (gNm 4) (xSeq (xPar 5 6 (aVal (xBinV dIdx 3 (xUn dNeg (xk (.int 1)))) (aNew (xBinN lMul (xFz (xLst (xCons (xk (.int 0)) (xNil)))) (xBinV dAdd 1 (xk (.int 1)))) (aNil))))
    (xSeq (xFor (xRng2 (xfr 4) (xBinV dAdd 1 (xk (.int 1)))) (gNm 7) (xSeq (xSet 8 (xk (.int 0)))
    (xSeq (xFor (xRng2 (xk (.int 1)) (xBinV dAdd 7 (xk (.int 1)))) (gNm 9) (xSeq (xSet 8 (xBinV dAdd 8 (xBin dMul (xBin dMul (xBin dIdx (xBinV dIdx 2 (xBinV dSub 7 (xk (.int 1)))) (xBinV dSub 9 (xk (.int 1)))) (xBinV dIdx 0 (xBinV dSub 9 (xk (.int 1))))) (xBinV dIdx 5 (xBinV dSub 7 (xp 9))))))
    (xNx)))
    (xSeq (xSub 6 (xfr 8) (xfr 7))
    (xNx)))))
    (xSeq (xEx (xMu mAppend 3 (xCons (xfr 6) (xNil))))
    (xNx)))))
    (xSeq (xRetE (xfr 3))
    (xNx))))
theorem b_spread {P : Program} {w : World} {K : PySem.W.Frag} {mg : Str → Option Value} {base : Heap} {kk : Nat} (T : Fx K mg) {g_choose_row : Dl.Env → Out Cn} (G_choose_row : Pr P w K mg base kk "choose_row" s_choose_row [("most" : Str)] g_choose_row) {f : Addr} {cdv : Value} {A : Around} {outer : List PySem.Env} {s : Shared} {H : Hp} {E : XK} (hr : Room kk (A.deeper (envOfC "spread" (defScope s_spread) s.heap.objs.size f cdv))) :
    SSs (cxOf (L2.CX P w) P w K mg base N_spread "spread" (defScope s_spread) f cdv A outer s H E) pb_spread (defBody s_spread) (m_spread g_choose_row) := by
  exact sss_cons (ss_set 2 sc_spread.nd (se_fz (sn_callP G_choose_row hr (Nat.le_refl _) (by rfl) (sx_val (se_frz (pv 1)) (sx_nil)))))
    (sss_cons (ss_setN 3 sc_spread.nd (sn_lst (sa_cons (se_bin op_addA rop_add (se_fz (sn_lst (sa_cons (se_int) (sa_nil)))) (SE.sb (se_bin op_mulA rop_mul (se_fz (sn_lst (sa_cons (se_int) (sa_nil)))) (sb_var 1)))) (sa_nil))))
    (sss_cons (ss_for rfl (si_range2 (by rfl) T.b_range (se_int) (se_binV op_addA rop_add (pv 1) (SE.sb (se_int)))) (sg_name sc_spread.nd) (sss_cons (ss_par 5 6 rfl sc_spread.nd (sx_val (se_ixV ix_seq rop_ix (pv 3) (SE.sb (se_un un_neg run_neg (SE.sb (se_int)))) (fun _ _ => rfl)) (sx_new (sn_bin op_mulA ron_mul (se_fz (sn_lst (sa_cons (se_int) (sa_nil)))) (SE.sb (se_binV op_addA rop_add (pv 1) (SE.sb (se_int))))) (sx_nil))))
    (sss_cons (ss_for rfl (si_range2 (by rfl) T.b_range (se_frz (pv 4)) (se_binV op_addA rop_add (pv 1) (SE.sb (se_int)))) (sg_name sc_spread.nd) (sss_cons (ss_set 8 sc_spread.nd (se_int))
    (sss_cons (ss_for rfl (si_range2 (by rfl) T.b_range (se_int) (se_binV op_addA rop_add (pv 7) (SE.sb (se_int)))) (sg_name sc_spread.nd) (sss_cons (ss_set 8 sc_spread.nd (se_binV op_addA rop_add (pv 8) (SE.sb (se_bin op_mulA rop_mul (se_bin op_mulA rop_mul (se_ix ix_seq rop_ix (se_ixV ix_seq rop_ix (pv 2) (SE.sb (se_binV op_sub rop_sub (pv 7) (SE.sb (se_int)))) (fun _ _ => rfl)) (SE.sb (se_binV op_sub rop_sub (pv 9) (SE.sb (se_int)))) (fun _ _ => rfl)) (SE.sb (se_ixV ix_seq rop_ix (pv 0) (SE.sb (se_binV op_sub rop_sub (pv 9) (SE.sb (se_int)))) (fun _ _ => rfl)))) (SE.sb (se_ixV ix_seq rop_ix (pv 5) (SE.sb (se_binV op_sub rop_sub (pv 7) (sb_var 9))) (fun _ _ => rfl)))))))
    (sss_nil)))
    (sss_cons (ss_sub 6 (pv 6) (se_frz (pv 8)) (se_frz (pv 7)))
    (sss_nil)))))
    (sss_cons (ss_expr (se_mu PySem.F.plainAttrs_list PySem.F.slot_list_append PySem.F.type_list_append mt_append rmu_append (pv 3) (sa_cons (se_frz (pv 6)) (sa_nil))))
    (sss_nil)))))
    (sss_cons (ss_retE (se_frz (pv 3)))
    (sss_nil))))
theorem p_spread {P : Program} {w : World} {K : PySem.W.Frag} {mg : Str → Option Value} {base : Heap} {kk : Nat} (T : Fx K mg) (D : Df K mg "spread" s_spread [("row" : Str), ("most" : Str)]) {g_choose_row : Dl.Env → Out Cn} (G_choose_row : Pr P w K mg base kk "choose_row" s_choose_row [("most" : Str)] g_choose_row) {g : Dl.Env → Out Cn} (hg : ∀ env : Dl.Env, env.length = 2 → g env = .no ∨ runB pb_spread 8 (m_spread g_choose_row) env = g env) : Pr P w K mg base (kk + 1) "spread" s_spread [("row" : Str), ("most" : Str)] g :=
  pr_of D sc_spread rfl (fun f cdv A outer s H E hr => b_spread T G_choose_row hr) hg
/-! ### together_in -/
abbrev s_together_in : Stmt := topS 12
def N_together_in : List Str := [("one" : Str), ("other" : Str), ("most" : Str), ("heaps" : Str), ("k" : Str), ("names" : Str)]
theorem sc_together_in : FnScope N_together_in [("one" : Str), ("other" : Str), ("most" : Str)] (defScope s_together_in) := ⟨rfl, rfl, rfl, by decide +kernel, rfl, by decide +kernel, by decide +kernel⟩
def pb_together_in : List Bool := [false, false, false]
def m_together_in (g_spread : Dl.Env → Out Cn) : MS := xSeq (xSet 3 (xFz (xCall 2 g_spread [none, none] (aVal (xfr 1) (aVal (xfr 2) (aNil))))))
    (xSeq (xRetE (xUn dTup (xFz (xLc [5] (xRng2 (xk (.int 1)) (xBinV dAdd 2 (xk (.int 1)))) (gNm 5) (xYes) (xUn dSum (xFz (xLc [4] (xRng2 (xk (.int 1)) (xBinV dAdd 5 (xk (.int 1)))) (gNm 4) (xYes) (xBin dMul (xBinV dIdx 0 (xBinV dSub 4 (xk (.int 1)))) (xBin dIdx (xBinV dIdx 3 (xp 4)) (xp 5))))))))))
    (xNx))
theorem b_together_in {P : Program} {w : World} {K : PySem.W.Frag} {mg : Str → Option Value} {base : Heap} {kk : Nat} (T : Fx K mg) {g_spread : Dl.Env → Out Cn} (G_spread : Pr P w K mg base kk "spread" s_spread [("row" : Str), ("most" : Str)] g_spread) {f : Addr} {cdv : Value} {A : Around} {outer : List PySem.Env} {s : Shared} {H : Hp} {E : XK} (hr : Room kk (A.deeper (envOfC "together_in" (defScope s_together_in) s.heap.objs.size f cdv))) :
    SSs (cxOf (L2.CX P w) P w K mg base N_together_in "together_in" (defScope s_together_in) f cdv A outer s H E) pb_together_in (defBody s_together_in) (m_together_in g_spread) := by
  exact sss_cons (ss_set 3 sc_together_in.nd (se_fz (sn_callP G_spread hr (Nat.le_refl _) (by rfl) (sx_val (se_frz (pv 1)) (sx_val (se_frz (pv 2)) (sx_nil))))))
    (sss_cons (ss_retE (se_callT1 cr_tupD rc_tup (SE.sb (se_fz (sn_lc (own := [(("names" : Str), 5)]) rfl sc_together_in.nd (si_range2 (by rfl) T.b_range (se_int) (se_binV op_addA rop_add (pv 2) (SE.sb (se_int)))) (blkOk_by (by rfl)) (by decide) (fun _ _ _ _ _ => sg_name sc_together_in.nd) (fun _ _ _ _ _ => sc_nil) (fun _ _ _ _ _ => se_call1 (cr_sum rfl) rc_sum (SE.sb (se_fz (sn_lc (own := [(("k" : Str), 4)]) rfl sc_together_in.nd (si_range2 (by rfl) T.b_range (se_int) (se_binV op_addA rop_add (pv 5) (SE.sb (se_int)))) (blkOk_by (by rfl)) (by decide) (fun _ _ _ _ _ => sg_name sc_together_in.nd) (fun _ _ _ _ _ => sc_nil) (fun _ _ _ _ _ => se_bin op_mulA rop_mul (se_ixV ix_seq rop_ix (pv 0) (SE.sb (se_binV op_sub rop_sub (pv 4) (SE.sb (se_int)))) (fun _ _ => rfl)) (SE.sb (se_ix ix_seq rop_ix (se_ixV ix_seq rop_ix (pv 3) (sb_var 4) (fun _ _ => rfl)) (sb_var 5) (fun _ _ => rfl))))))) (by rfl) T.b_sum boot_sum)))) (by rfl) T.b_tuple boot_tuple))
    (sss_nil))
theorem p_together_in {P : Program} {w : World} {K : PySem.W.Frag} {mg : Str → Option Value} {base : Heap} {kk : Nat} (T : Fx K mg) (D : Df K mg "together_in" s_together_in [("one" : Str), ("other" : Str), ("most" : Str)]) {g_spread : Dl.Env → Out Cn} (G_spread : Pr P w K mg base kk "spread" s_spread [("row" : Str), ("most" : Str)] g_spread) {g : Dl.Env → Out Cn} (hg : ∀ env : Dl.Env, env.length = 3 → g env = .no ∨ runB pb_together_in 3 (m_together_in g_spread) env = g env) : Pr P w K mg base (kk + 1) "together_in" s_together_in [("one" : Str), ("other" : Str), ("most" : Str)] g :=
  pr_of D sc_together_in rfl (fun f cdv A outer s H E hr => b_together_in T G_spread hr) hg
/-! ### put_together -/
abbrev s_put_together : Stmt := topS 13
def N_put_together : List Str := [("one" : Str), ("other" : Str), ("near" : Str), ("far" : Str), ("most" : Str)]
theorem sc_put_together : FnScope N_put_together [("one" : Str), ("other" : Str)] (defScope s_put_together) := ⟨rfl, rfl, rfl, by decide +kernel, rfl, by decide +kernel, by decide +kernel⟩
def pb_put_together : List Bool := [false, false]
def m_put_together (g_sure_row g_together_in : Dl.Env → Out Cn) : MS := xSeq (xPar 2 3 (aVal (xFz (xCall 1 g_sure_row [none] (aVal (xfr 0) (aNil)))) (aVal (xFz (xCall 1 g_sure_row [none] (aVal (xfr 1) (aNil)))) (aNil))))
    (xSeq (xSet 4 (xBin dMin (xUn dLen (xp 2)) (xUn dLen (xp 3))))
    (xSeq (xRetE (xFz (xCall 3 g_together_in [none, none, none] (aVal (xSlV dSl 2 (oNo) (oSo (xp 4))) (aVal (xSlV dSl 3 (oNo) (oSo (xp 4))) (aVal (xfr 4) (aNil)))))))
    (xNx)))
theorem b_put_together {P : Program} {w : World} {K : PySem.W.Frag} {mg : Str → Option Value} {base : Heap} {kk : Nat} (T : Fx K mg) {g_sure_row g_together_in : Dl.Env → Out Cn} (G_sure_row : Pr P w K mg base kk "sure_row" s_sure_row [("value" : Str)] g_sure_row) (G_together_in : Pr P w K mg base kk "together_in" s_together_in [("one" : Str), ("other" : Str), ("most" : Str)] g_together_in) {f : Addr} {cdv : Value} {A : Around} {outer : List PySem.Env} {s : Shared} {H : Hp} {E : XK} (hr : Room kk (A.deeper (envOfC "put_together" (defScope s_put_together) s.heap.objs.size f cdv))) :
    SSs (cxOf (L2.CX P w) P w K mg base N_put_together "put_together" (defScope s_put_together) f cdv A outer s H E) pb_put_together (defBody s_put_together) (m_put_together g_sure_row g_together_in) := by
  exact sss_cons (ss_par 2 3 rfl sc_put_together.nd (sx_val (se_fz (sn_callP G_sure_row hr (Nat.le_refl _) (by rfl) (sx_val (se_frz (pv 0)) (sx_nil)))) (sx_val (se_fz (sn_callP G_sure_row hr (Nat.le_refl _) (by rfl) (sx_val (se_frz (pv 1)) (sx_nil)))) (sx_nil))))
    (sss_cons (ss_set 4 sc_put_together.nd (se_call2 (call_min2 rfl) rc_min (se_call1 call_len rc_len (sb_var 2) (by rfl) T.b_len boot_len) (SE.sb (se_call1 call_len rc_len (sb_var 3) (by rfl) T.b_len boot_len)) (by rfl) T.b_min boot_min))
    (sss_cons (ss_retE (se_fz (sn_callP G_together_in hr (Nat.le_refl _) (by rfl) (sx_val (se_slV sl_D rsl_D (pv 2) (so_none) (so_some (sb_var 4))) (sx_val (se_slV sl_D rsl_D (pv 3) (so_none) (so_some (sb_var 4))) (sx_val (se_frz (pv 4)) (sx_nil)))))))
    (sss_nil)))
theorem p_put_together {P : Program} {w : World} {K : PySem.W.Frag} {mg : Str → Option Value} {base : Heap} {kk : Nat} (T : Fx K mg) (D : Df K mg "put_together" s_put_together [("one" : Str), ("other" : Str)]) {g_sure_row g_together_in : Dl.Env → Out Cn} (G_sure_row : Pr P w K mg base kk "sure_row" s_sure_row [("value" : Str)] g_sure_row) (G_together_in : Pr P w K mg base kk "together_in" s_together_in [("one" : Str), ("other" : Str), ("most" : Str)] g_together_in) {g : Dl.Env → Out Cn} (hg : ∀ env : Dl.Env, env.length = 2 → g env = .no ∨ runB pb_put_together 3 (m_put_together g_sure_row g_together_in) env = g env) : Pr P w K mg base (kk + 1) "put_together" s_put_together [("one" : Str), ("other" : Str)] g :=
  pr_of D sc_put_together rfl (fun f cdv A outer s H E hr => b_put_together T G_sure_row G_together_in hr) hg
/-! ### signed -/
abbrev s_signed : Stmt := topS 14
def N_signed : List Str := [("row" : Str), ("place" : Str), ("own" : Str)]
theorem sc_signed : FnScope N_signed [("row" : Str)] (defScope s_signed) := ⟨rfl, rfl, rfl, by decide +kernel, rfl, by decide +kernel, by decide +kernel⟩
def pb_signed : List Bool := [false]
def m_signed : MS := xSeq (xRetE (xUn dTup (xFz (xLc [1, 2] (xIt (fun d => (asSeq d).map numbered) (xfr 0)) (gTp (gsCons (gNm 1) (gsCons (gNm 2) (gsNil)))) (xYes) (xIf (toB (xBin dEq (xBinV dMod 1 (xk (.int 2))) (xk (.int 0)))) (xfr 2) (xUn dNeg (xp 2)))))))
    (xNx)
theorem b_signed {P : Program} {w : World} {K : PySem.W.Frag} {mg : Str → Option Value} {base : Heap} {kk : Nat} (T : Fx K mg)  {f : Addr} {cdv : Value} {A : Around} {outer : List PySem.Env} {s : Shared} {H : Hp} {E : XK} (hr : Room kk (A.deeper (envOfC "signed" (defScope s_signed) s.heap.objs.size f cdv))) :
    SSs (cxOf (L2.CX P w) P w K mg base N_signed "signed" (defScope s_signed) f cdv A outer s H E) pb_signed (defBody s_signed) (m_signed) := by
  exact sss_cons (ss_retE (se_callT1 cr_tupD rc_tup (SE.sb (se_fz (sn_lc (own := [(("place" : Str), 1), (("own" : Str), 2)]) rfl sc_signed.nd (si_enumA (by rfl) T.b_enumerate (se_frz (pv 0))) (blkOk_by (by rfl)) (by decide) (fun _ _ _ _ _ => sg_tup (n := 2) rfl (sgs_cons (sg_name sc_signed.nd) (sgs_cons (sg_name sc_signed.nd) (sgs_nil))) (hlen := gl2)) (fun _ _ _ _ _ => sc_nil) (fun _ _ _ _ _ => se_if (st_cmp (op_eqD (hu64 hr)) rop_eq (se_binV op_mod rop_mod (pv 1) (SE.sb (se_int))) (SE.sb (se_int)) (nomark _)) (se_frz (pv 2)) (se_un un_neg run_neg (sb_var 2)))))) (by rfl) T.b_tuple boot_tuple))
    (sss_nil)
theorem p_signed {P : Program} {w : World} {K : PySem.W.Frag} {mg : Str → Option Value} {base : Heap} {kk : Nat} (T : Fx K mg) (D : Df K mg "signed" s_signed [("row" : Str)])  {g : Dl.Env → Out Cn} (hg : ∀ env : Dl.Env, env.length = 1 → g env = .no ∨ runB pb_signed 2 (m_signed) env = g env) : Pr P w K mg base (kk + 1) "signed" s_signed [("row" : Str)] g :=
  pr_of D sc_signed rfl (fun f cdv A outer s H E hr => b_signed T  hr) hg
/-! ### turned_row -/
abbrev s_turned_row : Stmt := topS 15
def N_turned_row : List Str := [("row" : Str)]
theorem sc_turned_row : FnScope N_turned_row [("row" : Str)] (defScope s_turned_row) := ⟨rfl, rfl, rfl, by decide +kernel, rfl, by decide +kernel, by decide +kernel⟩
def pb_turned_row : List Bool := [false]
def m_turned_row (g_sure_row g_signed : Dl.Env → Out Cn) : MS := xSeq (xRetE (xFz (xCall 1 g_signed [none] (aVal (xFz (xCall 1 g_sure_row [none] (aVal (xfr 0) (aNil)))) (aNil)))))
    (xNx)
theorem b_turned_row {P : Program} {w : World} {K : PySem.W.Frag} {mg : Str → Option Value} {base : Heap} {kk : Nat} (T : Fx K mg) {g_sure_row g_signed : Dl.Env → Out Cn} (G_sure_row : Pr P w K mg base kk "sure_row" s_sure_row [("value" : Str)] g_sure_row) (G_signed : Pr P w K mg base kk "signed" s_signed [("row" : Str)] g_signed) {f : Addr} {cdv : Value} {A : Around} {outer : List PySem.Env} {s : Shared} {H : Hp} {E : XK} (hr : Room kk (A.deeper (envOfC "turned_row" (defScope s_turned_row) s.heap.objs.size f cdv))) :
    SSs (cxOf (L2.CX P w) P w K mg base N_turned_row "turned_row" (defScope s_turned_row) f cdv A outer s H E) pb_turned_row (defBody s_turned_row) (m_turned_row g_sure_row g_signed) := by
  exact sss_cons (ss_retE (se_fz (sn_callP G_signed hr (Nat.le_refl _) (by rfl) (sx_val (se_fz (sn_callP G_sure_row hr (Nat.le_refl _) (by rfl) (sx_val (se_frz (pv 0)) (sx_nil)))) (sx_nil)))))
    (sss_nil)
theorem p_turned_row {P : Program} {w : World} {K : PySem.W.Frag} {mg : Str → Option Value} {base : Heap} {kk : Nat} (T : Fx K mg) (D : Df K mg "turned_row" s_turned_row [("row" : Str)]) {g_sure_row g_signed : Dl.Env → Out Cn} (G_sure_row : Pr P w K mg base kk "sure_row" s_sure_row [("value" : Str)] g_sure_row) (G_signed : Pr P w K mg base kk "signed" s_signed [("row" : Str)] g_signed) {g : Dl.Env → Out Cn} (hg : ∀ env : Dl.Env, env.length = 1 → g env = .no ∨ runB pb_turned_row 0 (m_turned_row g_sure_row g_signed) env = g env) : Pr P w K mg base (kk + 1) "turned_row" s_turned_row [("row" : Str)] g :=
  pr_of D sc_turned_row rfl (fun f cdv A outer s H E hr => b_turned_row T G_sure_row G_signed hr) hg
/-! ### contrary_row -/
abbrev s_contrary_row : Stmt := topS 16
def N_contrary_row : List Str := [("row" : Str), ("own" : Str), ("found" : Str), ("many" : Str), ("trial" : Str)]
theorem sc_contrary_row : FnScope N_contrary_row [("row" : Str)] (defScope s_contrary_row) := ⟨rfl, rfl, rfl, by decide +kernel, rfl, by decide +kernel, by decide +kernel⟩
def pb_contrary_row : List Bool := [false]
def m_contrary_row (g_sure_row g_together_in : Dl.Env → Out Cn) : MS := xSeq (xSet 1 (xFz (xCall 1 g_sure_row [none] (aVal (xfr 0) (aNil)))))
    (xSeq (xIfS (toB (xBin dNe (xBinV dIdx 1 (xk (.int 0))) (xk (.int 1)))) (xSeq (xRaise (.plain ("CanNot" : Str)))
    (xNx)) (xNx))
    (xSeq (xSetN 2 (xLst (xCons (xk (.int 1)) (xNil))))
    (xSeq (xFor (xRng2 (xk (.int 2)) (xBin dAdd (xUn dLen (xp 1)) (xk (.int 1)))) (gNm 3) (xSeq (xSet 4 (xFz (xCall 3 g_together_in [none, none, none] (aVal (xSlV dSl 1 (oNo) (oSo (xp 3))) (aVal (xBin dAdd (xUn dTup (xp 2)) (xTup (xCons (xk (.int 0)) (xNil)))) (aVal (xfr 3) (aNil)))))))
    (xSeq (xEx (xMu mAppend 2 (xCons (xUn dNeg (xBinV dIdx 4 (xUn dNeg (xk (.int 1))))) (xNil))))
    (xNx))))
    (xSeq (xRetE (xUn dTup (xp 2)))
    (xNx)))))
theorem b_contrary_row {P : Program} {w : World} {K : PySem.W.Frag} {mg : Str → Option Value} {base : Heap} {kk : Nat} (T : Fx K mg) {g_sure_row g_together_in : Dl.Env → Out Cn} (G_sure_row : Pr P w K mg base kk "sure_row" s_sure_row [("value" : Str)] g_sure_row) (G_together_in : Pr P w K mg base kk "together_in" s_together_in [("one" : Str), ("other" : Str), ("most" : Str)] g_together_in) {f : Addr} {cdv : Value} {A : Around} {outer : List PySem.Env} {s : Shared} {H : Hp} {E : XK} (hr : Room kk (A.deeper (envOfC "contrary_row" (defScope s_contrary_row) s.heap.objs.size f cdv))) :
    SSs (cxOf (L2.CX P w) P w K mg base N_contrary_row "contrary_row" (defScope s_contrary_row) f cdv A outer s H E) pb_contrary_row (defBody s_contrary_row) (m_contrary_row g_sure_row g_together_in) := by
  obtain ⟨CX_CanNot, E_CanNot, M_CanNot, H_CanNot⟩ := T.x_CanNot
  exact sss_cons (ss_set 1 sc_contrary_row.nd (se_fz (sn_callP G_sure_row hr (Nat.le_refl _) (by rfl) (sx_val (se_frz (pv 0)) (sx_nil)))))
    (sss_cons (ss_if (st_cmp (op_neD (hu64 hr)) rop_ne (se_ixV ix_seq rop_ix (pv 1) (SE.sb (se_int)) (fun _ _ => rfl)) (SE.sb (se_int)) (nomark _)) (sss_cons (ss_raise0 rfl E_CanNot M_CanNot (by rfl))
    (sss_nil)) (sss_nil))
    (sss_cons (ss_setN 2 sc_contrary_row.nd (sn_lst (sa_cons (se_int) (sa_nil))))
    (sss_cons (ss_for rfl (si_range2 (by rfl) T.b_range (se_int) (se_bin op_addA rop_add (se_call1 call_len rc_len (sb_var 1) (by rfl) T.b_len boot_len) (SE.sb (se_int)))) (sg_name sc_contrary_row.nd) (sss_cons (ss_set 4 sc_contrary_row.nd (se_fz (sn_callP G_together_in hr (Nat.le_refl _) (by rfl) (sx_val (se_slV sl_D rsl_D (pv 1) (so_none) (so_some (sb_var 3))) (sx_val (se_bin op_addA rop_add (se_callT1 cr_tupD rc_tup (sb_var 2) (by rfl) T.b_tuple boot_tuple) (SE.sb (se_tup (sa_cons (se_int) (sa_nil))))) (sx_val (se_frz (pv 3)) (sx_nil)))))))
    (sss_cons (ss_expr (se_mu PySem.F.plainAttrs_list PySem.F.slot_list_append PySem.F.type_list_append mt_append rmu_append (pv 2) (sa_cons (se_un un_neg run_neg (SE.sb (se_ixV ix_seq rop_ix (pv 4) (SE.sb (se_un un_neg run_neg (SE.sb (se_int)))) (fun _ _ => rfl)))) (sa_nil))))
    (sss_nil))))
    (sss_cons (ss_retE (se_callT1 cr_tupD rc_tup (sb_var 2) (by rfl) T.b_tuple boot_tuple))
    (sss_nil)))))
theorem p_contrary_row {P : Program} {w : World} {K : PySem.W.Frag} {mg : Str → Option Value} {base : Heap} {kk : Nat} (T : Fx K mg) (D : Df K mg "contrary_row" s_contrary_row [("row" : Str)]) {g_sure_row g_together_in : Dl.Env → Out Cn} (G_sure_row : Pr P w K mg base kk "sure_row" s_sure_row [("value" : Str)] g_sure_row) (G_together_in : Pr P w K mg base kk "together_in" s_together_in [("one" : Str), ("other" : Str), ("most" : Str)] g_together_in) {g : Dl.Env → Out Cn} (hg : ∀ env : Dl.Env, env.length = 1 → g env = .no ∨ runB pb_contrary_row 4 (m_contrary_row g_sure_row g_together_in) env = g env) : Pr P w K mg base (kk + 1) "contrary_row" s_contrary_row [("row" : Str)] g :=
  pr_of D sc_contrary_row rfl (fun f cdv A outer s H E hr => b_contrary_row T G_sure_row G_together_in hr) hg
/-! ### first_unfit -/
abbrev s_first_unfit : Stmt := topS 17
def N_first_unfit : List Str := [("one" : Str), ("other" : Str), ("most" : Str), ("made" : Str), ("place" : Str), ("own" : Str)]
theorem sc_first_unfit : FnScope N_first_unfit [("one" : Str), ("other" : Str)] (defScope s_first_unfit) := ⟨rfl, rfl, rfl, by decide +kernel, rfl, by decide +kernel, by decide +kernel⟩
def pb_first_unfit : List Bool := [false, false]
def m_first_unfit (g_together_in g_signed : Dl.Env → Out Cn) : MS := xSeq (xSet 2 (xBin dMin (xUn dLen (xp 0)) (xUn dLen (xp 1))))
    (xSeq (xSet 3 (xFz (xCall 3 g_together_in [none, none, none] (aVal (xSlV dSl 0 (oNo) (oSo (xp 2))) (aVal (xFz (xCall 1 g_signed [none] (aVal (xSlV dSl 1 (oNo) (oSo (xp 2))) (aNil)))) (aVal (xfr 2) (aNil)))))))
    (xSeq (xFor (xIt (fun d => (asSeq d).map numbered) (xfr 3)) (gTp (gsCons (gNm 4) (gsCons (gNm 5) (gsNil)))) (xSeq (xIfS (toB (xBinV dNe 5 (xUn dInt (xBinV dEq 4 (xk (.int 0)))))) (xSeq (xRetE (xBinV dAdd 4 (xk (.int 1))))
    (xNx)) (xNx))
    (xNx)))
    (xSeq (xRetE (xk .none))
    (xNx))))
theorem b_first_unfit {P : Program} {w : World} {K : PySem.W.Frag} {mg : Str → Option Value} {base : Heap} {kk : Nat} (T : Fx K mg) {g_together_in g_signed : Dl.Env → Out Cn} (G_together_in : Pr P w K mg base kk "together_in" s_together_in [("one" : Str), ("other" : Str), ("most" : Str)] g_together_in) (G_signed : Pr P w K mg base kk "signed" s_signed [("row" : Str)] g_signed) {f : Addr} {cdv : Value} {A : Around} {outer : List PySem.Env} {s : Shared} {H : Hp} {E : XK} (hr : Room kk (A.deeper (envOfC "first_unfit" (defScope s_first_unfit) s.heap.objs.size f cdv))) :
    SSs (cxOf (L2.CX P w) P w K mg base N_first_unfit "first_unfit" (defScope s_first_unfit) f cdv A outer s H E) pb_first_unfit (defBody s_first_unfit) (m_first_unfit g_together_in g_signed) := by
  exact sss_cons (ss_set 2 sc_first_unfit.nd (se_call2 (call_min2 rfl) rc_min (se_call1 call_len rc_len (sb_var 0) (by rfl) T.b_len boot_len) (SE.sb (se_call1 call_len rc_len (sb_var 1) (by rfl) T.b_len boot_len)) (by rfl) T.b_min boot_min))
    (sss_cons (ss_set 3 sc_first_unfit.nd (se_fz (sn_callP G_together_in hr (Nat.le_refl _) (by rfl) (sx_val (se_slV sl_D rsl_D (pv 0) (so_none) (so_some (sb_var 2))) (sx_val (se_fz (sn_callP G_signed hr (Nat.le_refl _) (by rfl) (sx_val (se_slV sl_D rsl_D (pv 1) (so_none) (so_some (sb_var 2))) (sx_nil)))) (sx_val (se_frz (pv 2)) (sx_nil)))))))
    (sss_cons (ss_for rfl (si_enumA (by rfl) T.b_enumerate (se_frz (pv 3))) (sg_tup (n := 2) rfl (sgs_cons (sg_name sc_first_unfit.nd) (sgs_cons (sg_name sc_first_unfit.nd) (sgs_nil))) (hlen := gl2)) (sss_cons (ss_if (st_cmpV (op_neD (hu64 hr)) rop_ne (pv 5) (SE.sb (se_callT1 call_int1 rc_int (SE.sb (se_cmpV (op_eqD (hu64 hr)) rop_eq (pv 4) (SE.sb (se_int)) (nomark _))) (by rfl) T.b_int boot_int)) (nomark _)) (sss_cons (ss_retE (se_binV op_addA rop_add (pv 4) (SE.sb (se_int))))
    (sss_nil)) (sss_nil))
    (sss_nil)))
    (sss_cons (ss_retE (se_non))
    (sss_nil))))
theorem p_first_unfit {P : Program} {w : World} {K : PySem.W.Frag} {mg : Str → Option Value} {base : Heap} {kk : Nat} (T : Fx K mg) (D : Df K mg "first_unfit" s_first_unfit [("one" : Str), ("other" : Str)]) {g_together_in g_signed : Dl.Env → Out Cn} (G_together_in : Pr P w K mg base kk "together_in" s_together_in [("one" : Str), ("other" : Str), ("most" : Str)] g_together_in) (G_signed : Pr P w K mg base kk "signed" s_signed [("row" : Str)] g_signed) {g : Dl.Env → Out Cn} (hg : ∀ env : Dl.Env, env.length = 2 → g env = .no ∨ runB pb_first_unfit 4 (m_first_unfit g_together_in g_signed) env = g env) : Pr P w K mg base (kk + 1) "first_unfit" s_first_unfit [("one" : Str), ("other" : Str)] g :=
  pr_of D sc_first_unfit rfl (fun f cdv A outer s H E hr => b_first_unfit T G_together_in G_signed hr) hg
/-! ### do_match -/
abbrev s_do_match : Stmt := topS 18
def N_do_match : List Str := [("one" : Str), ("other" : Str), ("near" : Str), ("far" : Str)]
theorem sc_do_match : FnScope N_do_match [("one" : Str), ("other" : Str)] (defScope s_do_match) := ⟨rfl, rfl, rfl, by decide +kernel, rfl, by decide +kernel, by decide +kernel⟩
def pb_do_match : List Bool := [false, false]
def m_do_match (g_sure_row g_first_unfit : Dl.Env → Out Cn) : MS := xSeq (xPar 2 3 (aVal (xFz (xCall 1 g_sure_row [none] (aVal (xfr 0) (aNil)))) (aVal (xFz (xCall 1 g_sure_row [none] (aVal (xfr 1) (aNil)))) (aNil))))
    (xSeq (xRetE (xBin dIs (xFz (xCall 2 g_first_unfit [none, none] (aVal (xfr 2) (aVal (xfr 3) (aNil))))) (xk .none)))
    (xNx))
theorem b_do_match {P : Program} {w : World} {K : PySem.W.Frag} {mg : Str → Option Value} {base : Heap} {kk : Nat} (T : Fx K mg) {g_sure_row g_first_unfit : Dl.Env → Out Cn} (G_sure_row : Pr P w K mg base kk "sure_row" s_sure_row [("value" : Str)] g_sure_row) (G_first_unfit : Pr P w K mg base kk "first_unfit" s_first_unfit [("one" : Str), ("other" : Str)] g_first_unfit) {f : Addr} {cdv : Value} {A : Around} {outer : List PySem.Env} {s : Shared} {H : Hp} {E : XK} (hr : Room kk (A.deeper (envOfC "do_match" (defScope s_do_match) s.heap.objs.size f cdv))) :
    SSs (cxOf (L2.CX P w) P w K mg base N_do_match "do_match" (defScope s_do_match) f cdv A outer s H E) pb_do_match (defBody s_do_match) (m_do_match g_sure_row g_first_unfit) := by
  exact sss_cons (ss_par 2 3 rfl sc_do_match.nd (sx_val (se_fz (sn_callP G_sure_row hr (Nat.le_refl _) (by rfl) (sx_val (se_frz (pv 0)) (sx_nil)))) (sx_val (se_fz (sn_callP G_sure_row hr (Nat.le_refl _) (by rfl) (sx_val (se_frz (pv 1)) (sx_nil)))) (sx_nil))))
    (sss_cons (ss_retE (se_cmp op_isN rop_is (se_fz (sn_callP G_first_unfit hr (Nat.le_refl _) (by rfl) (sx_val (se_frz (pv 2)) (sx_val (se_frz (pv 3)) (sx_nil))))) (SE.sb (se_non)) (nomark _)))
    (sss_nil))
theorem p_do_match {P : Program} {w : World} {K : PySem.W.Frag} {mg : Str → Option Value} {base : Heap} {kk : Nat} (T : Fx K mg) (D : Df K mg "do_match" s_do_match [("one" : Str), ("other" : Str)]) {g_sure_row g_first_unfit : Dl.Env → Out Cn} (G_sure_row : Pr P w K mg base kk "sure_row" s_sure_row [("value" : Str)] g_sure_row) (G_first_unfit : Pr P w K mg base kk "first_unfit" s_first_unfit [("one" : Str), ("other" : Str)] g_first_unfit) {g : Dl.Env → Out Cn} (hg : ∀ env : Dl.Env, env.length = 2 → g env = .no ∨ runB pb_do_match 2 (m_do_match g_sure_row g_first_unfit) env = g env) : Pr P w K mg base (kk + 1) "do_match" s_do_match [("one" : Str), ("other" : Str)] g :=
  pr_of D sc_do_match rfl (fun f cdv A outer s H E hr => b_do_match T G_sure_row G_first_unfit hr) hg
/-! ### first_apart -/
abbrev s_first_apart : Stmt := topS 19
def N_first_apart : List Str := [("one" : Str), ("other" : Str), ("near" : Str), ("far" : Str)]
theorem sc_first_apart : FnScope N_first_apart [("one" : Str), ("other" : Str)] (defScope s_first_apart) := ⟨rfl, rfl, rfl, by decide +kernel, rfl, by decide +kernel, by decide +kernel⟩
def pb_first_apart : List Bool := [false, false]
def m_first_apart (g_sure_row g_first_unfit : Dl.Env → Out Cn) : MS := xSeq (xPar 2 3 (aVal (xFz (xCall 1 g_sure_row [none] (aVal (xfr 0) (aNil)))) (aVal (xFz (xCall 1 g_sure_row [none] (aVal (xfr 1) (aNil)))) (aNil))))
    (xSeq (xRetE (xFz (xCall 2 g_first_unfit [none, none] (aVal (xfr 2) (aVal (xfr 3) (aNil))))))
    (xNx))
theorem b_first_apart {P : Program} {w : World} {K : PySem.W.Frag} {mg : Str → Option Value} {base : Heap} {kk : Nat} (T : Fx K mg) {g_sure_row g_first_unfit : Dl.Env → Out Cn} (G_sure_row : Pr P w K mg base kk "sure_row" s_sure_row [("value" : Str)] g_sure_row) (G_first_unfit : Pr P w K mg base kk "first_unfit" s_first_unfit [("one" : Str), ("other" : Str)] g_first_unfit) {f : Addr} {cdv : Value} {A : Around} {outer : List PySem.Env} {s : Shared} {H : Hp} {E : XK} (hr : Room kk (A.deeper (envOfC "first_apart" (defScope s_first_apart) s.heap.objs.size f cdv))) :
    SSs (cxOf (L2.CX P w) P w K mg base N_first_apart "first_apart" (defScope s_first_apart) f cdv A outer s H E) pb_first_apart (defBody s_first_apart) (m_first_apart g_sure_row g_first_unfit) := by
  exact sss_cons (ss_par 2 3 rfl sc_first_apart.nd (sx_val (se_fz (sn_callP G_sure_row hr (Nat.le_refl _) (by rfl) (sx_val (se_frz (pv 0)) (sx_nil)))) (sx_val (se_fz (sn_callP G_sure_row hr (Nat.le_refl _) (by rfl) (sx_val (se_frz (pv 1)) (sx_nil)))) (sx_nil))))
    (sss_cons (ss_retE (se_fz (sn_callP G_first_unfit hr (Nat.le_refl _) (by rfl) (sx_val (se_frz (pv 2)) (sx_val (se_frz (pv 3)) (sx_nil))))))
    (sss_nil))
theorem p_first_apart {P : Program} {w : World} {K : PySem.W.Frag} {mg : Str → Option Value} {base : Heap} {kk : Nat} (T : Fx K mg) (D : Df K mg "first_apart" s_first_apart [("one" : Str), ("other" : Str)]) {g_sure_row g_first_unfit : Dl.Env → Out Cn} (G_sure_row : Pr P w K mg base kk "sure_row" s_sure_row [("value" : Str)] g_sure_row) (G_first_unfit : Pr P w K mg base kk "first_unfit" s_first_unfit [("one" : Str), ("other" : Str)] g_first_unfit) {g : Dl.Env → Out Cn} (hg : ∀ env : Dl.Env, env.length = 2 → g env = .no ∨ runB pb_first_apart 2 (m_first_apart g_sure_row g_first_unfit) env = g env) : Pr P w K mg base (kk + 1) "first_apart" s_first_apart [("one" : Str), ("other" : Str)] g :=
  pr_of D sc_first_apart rfl (fun f cdv A outer s H E hr => b_first_apart T G_sure_row G_first_unfit hr) hg
/-! ### _law_box -/
abbrev s__law_box : Stmt := topS 21
def N__law_box : List Str := [("script" : Str), ("k" : Str), ("bit_so" : Str)]
theorem sc__law_box : FnScope N__law_box [("script" : Str), ("k" : Str)] (defScope s__law_box) := ⟨rfl, rfl, rfl, by decide +kernel, rfl, by decide +kernel, by decide +kernel⟩
def pb__law_box : List Bool := [false, false]
def m__law_box : MS := xSeq (xSet 2 (xIf (toB (xBinV dLt 1 (xUn dLen (xp 0)))) (xBinV dIdx 0 (xp 1)) (xk (.int 0))))
    (xSeq (xRet (xLst (xCons (xBin dMul (xUn dAbs (xp 2)) (xUn dInt (xBin dGe (xUn dAbs (xp 2)) (xBin dPow (xk (.int 10)) (xk (.int 18)))))) (xCons (xBin dAdd (xBin dAdd (xBin dMod (xUn dInt (xp 2)) (xk (.int 2305843009213693951))) (xBin dMul (xk (.int 39373)) (xp 1))) (xk (.int 8900000))) (xCons (xk (.int 0)) (xNil))))))
    (xNx))
theorem b__law_box {P : Program} {w : World} {K : PySem.W.Frag} {mg : Str → Option Value} {base : Heap} {kk : Nat} (T : Fx K mg)  {f : Addr} {cdv : Value} {A : Around} {outer : List PySem.Env} {s : Shared} {H : Hp} {E : XK} (hr : Room kk (A.deeper (envOfC "_law_box" (defScope s__law_box) s.heap.objs.size f cdv))) :
    SSs (cxOf (L2.CX P w) P w K mg base N__law_box "_law_box" (defScope s__law_box) f cdv A outer s H E) pb__law_box (defBody s__law_box) (m__law_box) := by
  exact sss_cons (ss_set 2 sc__law_box.nd (se_if (st_cmpV op_lt rop_lt (pv 1) (SE.sb (se_call1 call_len rc_len (sb_var 0) (by rfl) T.b_len boot_len)) (nomark _)) (se_ixV ix_seq rop_ix (pv 0) (sb_var 1) (fun _ _ => rfl)) (se_int)))
    (sss_cons (ss_ret (sn_lst (sa_cons (se_bin op_mulA rop_mul (se_call1 call_abs rc_abs (sb_var 2) (by rfl) T.b_abs boot_abs) (SE.sb (se_callT1 call_int1 rc_int (SE.sb (se_cmp op_ge rop_ge (se_call1 call_abs rc_abs (sb_var 2) (by rfl) T.b_abs boot_abs) (SE.sb (se_bin op_pow rop_pow (se_int) (SE.sb (se_int)))) (nomark _))) (by rfl) T.b_int boot_int))) (sa_cons (se_bin op_addA rop_add (se_bin op_addA rop_add (se_bin op_mod rop_mod (se_callT1 call_int1 rc_int (sb_var 2) (by rfl) T.b_int boot_int) (SE.sb (se_int))) (SE.sb (se_bin op_mulA rop_mul (se_int) (sb_var 1)))) (SE.sb (se_int))) (sa_cons (se_int) (sa_nil))))))
    (sss_nil))
theorem p__law_box {P : Program} {w : World} {K : PySem.W.Frag} {mg : Str → Option Value} {base : Heap} {kk : Nat} (T : Fx K mg) (D : Df K mg "_law_box" s__law_box [("script" : Str), ("k" : Str)])  {g : Dl.Env → Out Cn} (hg : ∀ env : Dl.Env, env.length = 2 → g env = .no ∨ runB pb__law_box 1 (m__law_box) env = g env) : Pr P w K mg base (kk + 1) "_law_box" s__law_box [("script" : Str), ("k" : Str)] g :=
  pr_of D sc__law_box rfl (fun f cdv A outer s H E hr => b__law_box T  hr) hg
/-! ### _law_take -/
abbrev s__law_take : Stmt := topS 22
def N__law_take : List Str := [("tin" : Str), ("below_so" : Str), ("drawn_so" : Str), ("once_so" : Str), ("wide_so" : Str), ("twice_so" : Str)]
theorem sc__law_take : FnScope N__law_take [("tin" : Str), ("below_so" : Str)] (defScope s__law_take) := ⟨rfl, rfl, rfl, by decide +kernel, rfl, by decide +kernel, by decide +kernel⟩
def pb__law_take : List Bool := [true, false]
def m__law_take : MS := xSeq (xIfS (toB (xBin dGt (xBinV dIdx 0 (xk (.int 0))) (xk (.int 0)))) (xSeq (xSet 2 (xBin dMod (xUn dInt (xBinV dIdx 0 (xk (.int 0)))) (xp 1)))
    (xSeq (xSub 0 (xBin dFdv (xBinV dIdx 0 (xk (.int 0))) (xp 1)) (xk (.int 0)))
    (xSeq (xRetE (xfr 2))
    (xNx)))) (xNx))
    (xSeq (xSub 0 (xBin dAdd (xBinV dIdx 0 (xk (.int 2))) (xk (.int 1))) (xk (.int 2)))
    (xSeq (xSet 3 (xBin dMod (xUn dInt (xBin dMul (xBin dAdd (xBinV dIdx 0 (xk (.int 1))) (xBin dMul (xk (.int 48271)) (xBinV dIdx 0 (xk (.int 2))))) (xBin dAdd (xk (.int 39373)) (xBinV dIdx 0 (xk (.int 2)))))) (xk (.int 2147483647))))
    (xSeq (xSet 4 (xBin dAdd (xBin dMod (xUn dInt (xp 3)) (xk (.int 40009))) (xk (.int 7))))
    (xSeq (xSet 5 (xBin dMod (xUn dInt (xBin dMul (xBin dAdd (xBinV dAdd 3 (xBinV dIdx 0 (xk (.int 2)))) (xBin dFdv (xBinV dIdx 0 (xk (.int 1))) (xk (.int 1000003)))) (xp 4))) (xk (.int 2147483629))))
    (xSeq (xRetE (xBin dMod (xUn dInt (xBin dFdv (xBin dMod (xUn dInt (xBin dAdd (xBinV dMul 5 (xk (.int 48271))) (xp 3))) (xk (.int 2147483587))) (xk (.int 64)))) (xp 1)))
    (xNx))))))
theorem b__law_take {P : Program} {w : World} {K : PySem.W.Frag} {mg : Str → Option Value} {base : Heap} {kk : Nat} (T : Fx K mg)  {f : Addr} {cdv : Value} {A : Around} {outer : List PySem.Env} {s : Shared} {H : Hp} {E : XK} (hr : Room kk (A.deeper (envOfC "_law_take" (defScope s__law_take) s.heap.objs.size f cdv))) :
    SSs (cxOf (L2.CX P w) P w K mg base N__law_take "_law_take" (defScope s__law_take) f cdv A outer s H E) pb__law_take (defBody s__law_take) (m__law_take) := by
  exact sss_cons (ss_if (st_cmp op_gt rop_gt (se_ixV ix_seq rop_ix (pv 0) (SE.sb (se_int)) (fun _ _ => rfl)) (SE.sb (se_int)) (nomark _)) (sss_cons (ss_set 2 sc__law_take.nd (se_bin op_mod rop_mod (se_callT1 call_int1 rc_int (SE.sb (se_ixV ix_seq rop_ix (pv 0) (SE.sb (se_int)) (fun _ _ => rfl))) (by rfl) T.b_int boot_int) (sb_var 1)))
    (sss_cons (ss_sub 0 (pv 0) (se_bin op_fdivW rop_fdv (se_ixV ix_seq rop_ix (pv 0) (SE.sb (se_int)) (fun _ _ => rfl)) (sb_var 1)) (se_int))
    (sss_cons (ss_retE (se_frz (pv 2)))
    (sss_nil)))) (sss_nil))
    (sss_cons (ss_sub 0 (pv 0) (se_bin op_addA rop_add (se_ixV ix_seq rop_ix (pv 0) (SE.sb (se_int)) (fun _ _ => rfl)) (SE.sb (se_int))) (se_int))
    (sss_cons (ss_set 3 sc__law_take.nd (se_bin op_mod rop_mod (se_callT1 call_int1 rc_int (SE.sb (se_bin op_mulA rop_mul (se_bin op_addA rop_add (se_ixV ix_seq rop_ix (pv 0) (SE.sb (se_int)) (fun _ _ => rfl)) (SE.sb (se_bin op_mulA rop_mul (se_int) (SE.sb (se_ixV ix_seq rop_ix (pv 0) (SE.sb (se_int)) (fun _ _ => rfl)))))) (SE.sb (se_bin op_addA rop_add (se_int) (SE.sb (se_ixV ix_seq rop_ix (pv 0) (SE.sb (se_int)) (fun _ _ => rfl))))))) (by rfl) T.b_int boot_int) (SE.sb (se_int))))
    (sss_cons (ss_set 4 sc__law_take.nd (se_bin op_addA rop_add (se_bin op_mod rop_mod (se_callT1 call_int1 rc_int (sb_var 3) (by rfl) T.b_int boot_int) (SE.sb (se_int))) (SE.sb (se_int))))
    (sss_cons (ss_set 5 sc__law_take.nd (se_bin op_mod rop_mod (se_callT1 call_int1 rc_int (SE.sb (se_bin op_mulA rop_mul (se_bin op_addA rop_add (se_binV op_addA rop_add (pv 3) (SE.sb (se_ixV ix_seq rop_ix (pv 0) (SE.sb (se_int)) (fun _ _ => rfl)))) (SE.sb (se_bin op_fdivW rop_fdv (se_ixV ix_seq rop_ix (pv 0) (SE.sb (se_int)) (fun _ _ => rfl)) (SE.sb (se_int))))) (sb_var 4))) (by rfl) T.b_int boot_int) (SE.sb (se_int))))
    (sss_cons (ss_retE (se_bin op_mod rop_mod (se_callT1 call_int1 rc_int (SE.sb (se_bin op_fdivW rop_fdv (se_bin op_mod rop_mod (se_callT1 call_int1 rc_int (SE.sb (se_bin op_addA rop_add (se_binV op_mulA rop_mul (pv 5) (SE.sb (se_int))) (sb_var 3))) (by rfl) T.b_int boot_int) (SE.sb (se_int))) (SE.sb (se_int)))) (by rfl) T.b_int boot_int) (sb_var 1)))
    (sss_nil))))))
theorem p__law_take {P : Program} {w : World} {K : PySem.W.Frag} {mg : Str → Option Value} {base : Heap} {kk : Nat} (T : Fx K mg) (D : Df K mg "_law_take" s__law_take [("tin" : Str), ("below_so" : Str)])  {g : Dl.Env → Out Cn} (hg : ∀ env : Dl.Env, env.length = 2 → g env = .no ∨ runB pb__law_take 4 (m__law_take) env = g env) : Pr P w K mg base (kk + 1) "_law_take" s__law_take [("tin" : Str), ("below_so" : Str)] g :=
  pr_of D sc__law_take rfl (fun f cdv A outer s H E hr => b__law_take T  hr) hg
/-! ### _law_cells -/
abbrev s__law_cells : Stmt := topS 23
def N__law_cells : List Str := [("script" : Str), ("most_so" : Str), ("cells_so" : Str), ("k" : Str), ("bit_so" : Str), ("at_so" : Str)]
theorem sc__law_cells : FnScope N__law_cells [("script" : Str), ("most_so" : Str)] (defScope s__law_cells) := ⟨rfl, rfl, rfl, by decide +kernel, rfl, by decide +kernel, by decide +kernel⟩
def pb__law_cells : List Bool := [true, false]
def m__law_cells : MS := xSeq (xSetN 2 (xOrN (xUnN lList (xRoSl 0 (oNo) (oSo (xp 1)))) (xLst (xCons (xk (.int 0)) (xNil)))))
    (xSeq (xFor (xIt (fun d => (asSeq d).map numbered) (xRoSl 0 (oSo (xp 1)) (oSo (xk (.int 63))))) (gTp (gsCons (gNm 3) (gsCons (gNm 4) (gsNil)))) (xSeq (xSet 5 (xBin dMod (xUn dInt (xp 3)) (xp 1)))
    (xSeq (xSub 2 (xBin dAdd (xBinV dIdx 2 (xp 5)) (xBinV dMul 4 (xBinV dAdd 3 (xk (.int 2))))) (xfr 5))
    (xNx))))
    (xSeq (xRet (xmv 2))
    (xNx)))
theorem b__law_cells {P : Program} {w : World} {K : PySem.W.Frag} {mg : Str → Option Value} {base : Heap} {kk : Nat} (T : Fx K mg)  {f : Addr} {cdv : Value} {A : Around} {outer : List PySem.Env} {s : Shared} {H : Hp} {E : XK} (hr : Room kk (A.deeper (envOfC "_law_cells" (defScope s__law_cells) s.heap.objs.size f cdv))) :
    SSs (cxOf (L2.CX P w) P w K mg base N__law_cells "_law_cells" (defScope s__law_cells) f cdv A outer s H E) pb__law_cells (defBody s__law_cells) (m__law_cells) := by
  exact sss_cons (ss_setN 2 sc__law_cells.nd (sn_or (sn_callT1 call_list_of rcn_list (SE.sb (se_roSl (pv 0) (so_none) (so_some (sb_var 1)))) (by rfl) T.b_list boot_list) (sn_one (sn_lst (sa_cons (se_int) (sa_nil))))))
    (sss_cons (ss_for rfl (si_enumA (by rfl) T.b_enumerate (se_roSl (pv 0) (so_some (sb_var 1)) (so_some (SE.sb (se_int))))) (sg_tup (n := 2) rfl (sgs_cons (sg_name sc__law_cells.nd) (sgs_cons (sg_name sc__law_cells.nd) (sgs_nil))) (hlen := gl2)) (sss_cons (ss_set 5 sc__law_cells.nd (se_bin op_mod rop_mod (se_callT1 call_int1 rc_int (sb_var 3) (by rfl) T.b_int boot_int) (sb_var 1)))
    (sss_cons (ss_sub 2 (pv 2) (se_bin op_addA rop_add (se_ixV ix_seq rop_ix (pv 2) (sb_var 5) (fun _ _ => rfl)) (SE.sb (se_binV op_mulA rop_mul (pv 4) (SE.sb (se_binV op_addA rop_add (pv 3) (SE.sb (se_int))))))) (se_frz (pv 5)))
    (sss_nil))))
    (sss_cons (ss_ret (sn_mv (pv 2)))
    (sss_nil)))
theorem p__law_cells {P : Program} {w : World} {K : PySem.W.Frag} {mg : Str → Option Value} {base : Heap} {kk : Nat} (T : Fx K mg) (D : Df K mg "_law_cells" s__law_cells [("script" : Str), ("most_so" : Str)])  {g : Dl.Env → Out Cn} (hg : ∀ env : Dl.Env, env.length = 2 → g env = .no ∨ runB pb__law_cells 4 (m__law_cells) env = g env) : Pr P w K mg base (kk + 1) "_law_cells" s__law_cells [("script" : Str), ("most_so" : Str)] g :=
  pr_of D sc__law_cells rfl (fun f cdv A outer s H E hr => b__law_cells T  hr) hg
/-! ### _law_mixed -/
abbrev s__law_mixed : Stmt := topS 24
def N__law_mixed : List Str := [("tin" : Str), ("matter" : Str), ("row_so" : Str), ("bit" : Str)]
theorem sc__law_mixed : FnScope N__law_mixed [("tin" : Str), ("matter" : Str)] (defScope s__law_mixed) := ⟨rfl, rfl, rfl, by decide +kernel, rfl, by decide +kernel, by decide +kernel⟩
def pb__law_mixed : List Bool := [true, false]
def m__law_mixed (g__law_take g__law_mixed : Dl.Env → Out Cn) : MS := xSeq (xIfS (xNot (toB (xUn (dIsis ["list", "tuple"]) (xp 1)))) (xSeq (xRetE (xfr 1))
    (xNx)) (xNx))
    (xSeq (xSetN 2 (xLc [3] (xIt asSeq (xfr 1)) (gNm 3) (xYes) (xFz (xCall 2 g__law_mixed [some 0, none] (aIoL 0 (aVal (xfr 3) (aNil)))))))
    (xSeq (xRetE (xIf (toB (xBin dEq (xFz (xCall 2 g__law_take [some 0, none] (aIoL 0 (aVal (xk (.int 2)) (aNil))))) (xk (.int 0)))) (xfr 2) (xUn dTup (xp 2))))
    (xNx)))
theorem b__law_mixed {P : Program} {w : World} {K : PySem.W.Frag} {mg : Str → Option Value} {base : Heap} {kk : Nat} (T : Fx K mg) {g__law_take g__law_mixed : Dl.Env → Out Cn} (G__law_take : Pr P w K mg base kk "_law_take" s__law_take [("tin" : Str), ("below_so" : Str)] g__law_take) (G__law_mixed : Pr P w K mg base kk "_law_mixed" s__law_mixed [("tin" : Str), ("matter" : Str)] g__law_mixed) {f : Addr} {cdv : Value} {A : Around} {outer : List PySem.Env} {s : Shared} {H : Hp} {E : XK} (hr : Room kk (A.deeper (envOfC "_law_mixed" (defScope s__law_mixed) s.heap.objs.size f cdv))) :
    SSs (cxOf (L2.CX P w) P w K mg base N__law_mixed "_law_mixed" (defScope s__law_mixed) f cdv A outer s H E) pb__law_mixed (defBody s__law_mixed) (m__law_mixed g__law_take g__law_mixed) := by
  exact sss_cons (ss_if (st_not (st_val (SE.sb (se_isis (Ts := ["list", "tuple"]) (sb_var 1) (pa_cons (pe_bltn (v := .ty "list") (by rfl) T.b_list boot_list rfl) (pa_cons (pe_bltn (v := .ty "tuple") (by rfl) T.b_tuple boot_tuple rfl) (pa_nil))) (fun _ _ _ h => h) (by decide) (by rfl) T.b_isinstance)))) (sss_cons (ss_retE (se_frz (pv 1)))
    (sss_nil)) (sss_nil))
    (sss_cons (ss_setLc 2 (own := [(("bit" : Str), 3)]) rfl sc__law_mixed.nd (si_seq (se_frz (pv 1))) (blkOk_by (by rfl)) (by decide) (fun _ _ _ _ _ => sg_name sc__law_mixed.nd) (fun _ _ _ _ _ => sc_nil) (fun _ _ _ _ _ => se_fz (sn_callP G__law_mixed hr (Nat.le_refl _) (by rfl) (sx_ioL (pv 0) (sx_val (se_frz (pv 3)) (sx_nil))))))
    (sss_cons (ss_retE (se_if (st_cmp (op_eqD (hu64 hr)) rop_eq (se_fz (sn_callP G__law_take hr (Nat.le_refl _) (by rfl) (sx_ioL (pv 0) (sx_val (se_int) (sx_nil))))) (SE.sb (se_int)) (nomark _)) (se_frz (pv 2)) (se_callT1 cr_tupD rc_tup (sb_var 2) (by rfl) T.b_tuple boot_tuple)))
    (sss_nil)))
theorem p__law_mixed {P : Program} {w : World} {K : PySem.W.Frag} {mg : Str → Option Value} {base : Heap} {kk : Nat} (T : Fx K mg) (D : Df K mg "_law_mixed" s__law_mixed [("tin" : Str), ("matter" : Str)]) {g__law_take g__law_mixed : Dl.Env → Out Cn} (G__law_take : Pr P w K mg base kk "_law_take" s__law_take [("tin" : Str), ("below_so" : Str)] g__law_take) (G__law_mixed : Pr P w K mg base kk "_law_mixed" s__law_mixed [("tin" : Str), ("matter" : Str)] g__law_mixed) {g : Dl.Env → Out Cn} (hg : ∀ env : Dl.Env, env.length = 2 → g env = .no ∨ runB pb__law_mixed 2 (m__law_mixed g__law_take g__law_mixed) env = g env) : Pr P w K mg base (kk + 1) "_law_mixed" s__law_mixed [("tin" : Str), ("matter" : Str)] g :=
  pr_of D sc__law_mixed rfl (fun f cdv A outer s H E hr => b__law_mixed T G__law_take G__law_mixed hr) hg
/-! ### _law_same -/
abbrev s__law_same : Stmt := topS 25
def N__law_same : List Str := [("got" : Str), ("due" : Str), ("mine" : Str), ("its" : Str)]
theorem sc__law_same : FnScope N__law_same [("got" : Str), ("due" : Str)] (defScope s__law_same) := ⟨rfl, rfl, rfl, by decide +kernel, rfl, by decide +kernel, by decide +kernel⟩
def pb__law_same : List Bool := [false, false]
def m__law_same (g__law_same : Dl.Env → Out Cn) : MS := xSeq (xIfS (toB (xUn (dIsis ["list", "tuple"]) (xp 1))) (xSeq (xIfS (xOr (toB (xBin dNe (xUn (dIsi "list") (xp 0)) (xUn (dIsi "list") (xp 1)))) (toB (xBin dNe (xUn (dIsi "tuple") (xp 0)) (xUn (dIsi "tuple") (xp 1))))) (xSeq (xRetE (xk (.bool false)))
    (xNx)) (xNx))
    (xSeq (xRetE (xAndV (xBin dEq (xUn dLen (xp 0)) (xUn dLen (xp 1))) (xUn dAll (xFz (xLc [2, 3] (xZip (xfr 0) (xfr 1)) (gTp (gsCons (gNm 2) (gsCons (gNm 3) (gsNil)))) (xYes) (xFz (xCall 2 g__law_same [none, none] (aVal (xfr 2) (aVal (xfr 3) (aNil))))))))))
    (xNx))) (xNx))
    (xSeq (xIfS (toB (xBinV dIs 1 (xk .none))) (xSeq (xRetE (xBinV dIs 0 (xk .none)))
    (xNx)) (xNx))
    (xSeq (xIfS (toB (xUn (dIsis ["bool", "str"]) (xp 1))) (xSeq (xRetE (xAndV (xBin dEq (xUn (dIsi "bool") (xp 0)) (xUn (dIsi "bool") (xp 1))) (xAndV (xBin dEq (xUn (dIsi "str") (xp 0)) (xUn (dIsi "str") (xp 1))) (xBinV dEq 0 (xp 1)))))
    (xNx)) (xNx))
    (xSeq (xRetE (xAndV (xUn (dIsi "int") (xp 0)) (xAndV (ofB (xNot (toB (xUn (dIsi "bool") (xp 0))))) (xBinV dEq 0 (xp 1)))))
    (xNx))))
theorem b__law_same {P : Program} {w : World} {K : PySem.W.Frag} {mg : Str → Option Value} {base : Heap} {kk : Nat} (T : Fx K mg) {g__law_same : Dl.Env → Out Cn} (G__law_same : Pr P w K mg base kk "_law_same" s__law_same [("got" : Str), ("due" : Str)] g__law_same) {f : Addr} {cdv : Value} {A : Around} {outer : List PySem.Env} {s : Shared} {H : Hp} {E : XK} (hr : Room kk (A.deeper (envOfC "_law_same" (defScope s__law_same) s.heap.objs.size f cdv))) :
    SSs (cxOf (L2.CX P w) P w K mg base N__law_same "_law_same" (defScope s__law_same) f cdv A outer s H E) pb__law_same (defBody s__law_same) (m__law_same g__law_same) := by
  exact sss_cons (ss_if (st_val (SE.sb (se_isis (Ts := ["list", "tuple"]) (sb_var 1) (pa_cons (pe_bltn (v := .ty "list") (by rfl) T.b_list boot_list rfl) (pa_cons (pe_bltn (v := .ty "tuple") (by rfl) T.b_tuple boot_tuple rfl) (pa_nil))) (fun _ _ _ h => h) (by decide) (by rfl) T.b_isinstance))) (sss_cons (ss_if (SW.st (sw_or (st_cmp (op_neD (hu64 hr)) rop_ne (se_isi1 call_isi run_isi (sb_var 0) (pe_bltn (v := .ty "list") (by rfl) T.b_list boot_list rfl) (by rfl) T.b_isinstance boot_isinstance) (SE.sb (se_isi1 call_isi run_isi (sb_var 1) (pe_bltn (v := .ty "list") (by rfl) T.b_list boot_list rfl) (by rfl) T.b_isinstance boot_isinstance)) (nomark _)) (sw_or1 (st_cmp (op_neD (hu64 hr)) rop_ne (se_isi1 call_isi run_isi (sb_var 0) (pe_bltn (v := .ty "tuple") (by rfl) T.b_tuple boot_tuple rfl) (by rfl) T.b_isinstance boot_isinstance) (SE.sb (se_isi1 call_isi run_isi (sb_var 1) (pe_bltn (v := .ty "tuple") (by rfl) T.b_tuple boot_tuple rfl) (by rfl) T.b_isinstance boot_isinstance)) (nomark _))))) (sss_cons (ss_retE (se_bl))
    (sss_nil)) (sss_nil))
    (sss_cons (ss_retE (se_and (se_cmp (op_eqD (hu64 hr)) rop_eq (se_call1 call_len rc_len (sb_var 0) (by rfl) T.b_len boot_len) (SE.sb (se_call1 call_len rc_len (sb_var 1) (by rfl) T.b_len boot_len)) (nomark _)) (se_one (se_call1 (cr_all rfl) rc_all (SE.sb (se_fz (sn_lc (own := [(("mine" : Str), 2), (("its" : Str), 3)]) rfl sc__law_same.nd (si_zip (by rfl) T.b_zip (se_frz (pv 0)) (se_frz (pv 1)) (hpi := fun ta h => RZ.pi_zipA (by rfl) T.b_zip h)) (blkOk_by (by rfl)) (by decide) (fun _ _ _ _ _ => sg_tup (n := 2) rfl (sgs_cons (sg_name sc__law_same.nd) (sgs_cons (sg_name sc__law_same.nd) (sgs_nil))) (hlen := gl2)) (fun _ _ _ _ _ => sc_nil) (fun _ _ _ _ _ => se_fz (sn_callP G__law_same hr (Nat.le_refl _) (by rfl) (sx_val (se_frz (pv 2)) (sx_val (se_frz (pv 3)) (sx_nil)))))))) (by rfl) T.b_all boot_all))))
    (sss_nil))) (sss_nil))
    (sss_cons (ss_if (st_cmpV op_isN rop_is (pv 1) (SE.sb (se_non)) (nomark _)) (sss_cons (ss_retE (se_cmpV op_isN rop_is (pv 0) (SE.sb (se_non)) (nomark _)))
    (sss_nil)) (sss_nil))
    (sss_cons (ss_if (st_val (SE.sb (se_isis (Ts := ["bool", "str"]) (sb_var 1) (pa_cons (pe_bltn (v := .ty "bool") (by rfl) T.b_bool boot_bool rfl) (pa_cons (pe_bltn (v := .ty "str") (by rfl) T.b_str boot_str rfl) (pa_nil))) (fun _ _ _ h => h) (by decide) (by rfl) T.b_isinstance))) (sss_cons (ss_retE (se_and (se_cmp (op_eqD (hu64 hr)) rop_eq (se_isi1 call_isi run_isi (sb_var 0) (pe_bltn (v := .ty "bool") (by rfl) T.b_bool boot_bool rfl) (by rfl) T.b_isinstance boot_isinstance) (SE.sb (se_isi1 call_isi run_isi (sb_var 1) (pe_bltn (v := .ty "bool") (by rfl) T.b_bool boot_bool rfl) (by rfl) T.b_isinstance boot_isinstance)) (nomark _)) (se_and (se_cmp (op_eqD (hu64 hr)) rop_eq (se_isi1 call_isi run_isi (sb_var 0) (pe_bltn (v := .ty "str") (by rfl) T.b_str boot_str rfl) (by rfl) T.b_isinstance boot_isinstance) (SE.sb (se_isi1 call_isi run_isi (sb_var 1) (pe_bltn (v := .ty "str") (by rfl) T.b_str boot_str rfl) (by rfl) T.b_isinstance boot_isinstance)) (nomark _)) (se_one (se_cmpV (op_eqD (hu64 hr)) rop_eq (pv 0) (sb_var 1) (nomark _))))))
    (sss_nil)) (sss_nil))
    (sss_cons (ss_retE (se_and (se_isi1 call_isi run_isi (sb_var 0) (pe_bltn (v := .ty "int") (by rfl) T.b_int boot_int rfl) (by rfl) T.b_isinstance boot_isinstance) (se_and (se_not (se_isi1 call_isi run_isi (sb_var 0) (pe_bltn (v := .ty "bool") (by rfl) T.b_bool boot_bool rfl) (by rfl) T.b_isinstance boot_isinstance)) (se_one (se_cmpV (op_eqD (hu64 hr)) rop_eq (pv 0) (sb_var 1) (nomark _))))))
    (sss_nil))))
theorem p__law_same {P : Program} {w : World} {K : PySem.W.Frag} {mg : Str → Option Value} {base : Heap} {kk : Nat} (T : Fx K mg) (D : Df K mg "_law_same" s__law_same [("got" : Str), ("due" : Str)]) {g__law_same : Dl.Env → Out Cn} (G__law_same : Pr P w K mg base kk "_law_same" s__law_same [("got" : Str), ("due" : Str)] g__law_same) {g : Dl.Env → Out Cn} (hg : ∀ env : Dl.Env, env.length = 2 → g env = .no ∨ runB pb__law_same 2 (m__law_same g__law_same) env = g env) : Pr P w K mg base (kk + 1) "_law_same" s__law_same [("got" : Str), ("due" : Str)] g :=
  pr_of D sc__law_same rfl (fun f cdv A outer s H E hr => b__law_same T G__law_same hr) hg
/-! ### _law_unmarked -/
abbrev s__law_unmarked : Stmt := topS 26
def N__law_unmarked : List Str := [("told_so" : Str)]
theorem sc__law_unmarked : FnScope N__law_unmarked [("told_so" : Str)] (defScope s__law_unmarked) := ⟨rfl, rfl, rfl, by decide +kernel, rfl, by decide +kernel, by decide +kernel⟩
def pb__law_unmarked : List Bool := [false]
def m__law_unmarked : MS := xSeq (xIfS (xAnd (toB (xUn (dIsi "list") (xp 0))) (xAnd (toB (xBin dGt (xUn dLen (xp 0)) (xk (.int 0)))) (toB (xUn (dIsi "str") (xBinV dIdx 0 (xk (.int 0))))))) (xSeq (xRetE (xFz (xLst (xCons (xk (.str ("told" : Str))) (xCons (xk (.str ("a mark" : Str))) (xNil))))))
    (xNx)) (xNx))
    (xSeq (xRetE (xfr 0))
    (xNx))
theorem b__law_unmarked {P : Program} {w : World} {K : PySem.W.Frag} {mg : Str → Option Value} {base : Heap} {kk : Nat} (T : Fx K mg)  {f : Addr} {cdv : Value} {A : Around} {outer : List PySem.Env} {s : Shared} {H : Hp} {E : XK} (hr : Room kk (A.deeper (envOfC "_law_unmarked" (defScope s__law_unmarked) s.heap.objs.size f cdv))) :
    SSs (cxOf (L2.CX P w) P w K mg base N__law_unmarked "_law_unmarked" (defScope s__law_unmarked) f cdv A outer s H E) pb__law_unmarked (defBody s__law_unmarked) (m__law_unmarked) := by
  exact sss_cons (ss_if (SW.st (sw_and (st_val (SE.sb (se_isi1 call_isi run_isi (sb_var 0) (pe_bltn (v := .ty "list") (by rfl) T.b_list boot_list rfl) (by rfl) T.b_isinstance boot_isinstance))) (sw_and (st_cmp op_gt rop_gt (se_call1 call_len rc_len (sb_var 0) (by rfl) T.b_len boot_len) (SE.sb (se_int)) (nomark _)) (sw_and1 (st_val (SE.sb (se_isi1 call_isi run_isi (SE.sb (se_ixV ix_seq rop_ix (pv 0) (SE.sb (se_int)) (fun _ _ => rfl))) (pe_bltn (v := .ty "str") (by rfl) T.b_str boot_str rfl) (by rfl) T.b_isinstance boot_isinstance))))))) (sss_cons (ss_retE (se_fz (sn_lst (sa_cons (se_str) (sa_cons (se_str) (sa_nil))))))
    (sss_nil)) (sss_nil))
    (sss_cons (ss_retE (se_frz (pv 0)))
    (sss_nil))
theorem p__law_unmarked {P : Program} {w : World} {K : PySem.W.Frag} {mg : Str → Option Value} {base : Heap} {kk : Nat} (T : Fx K mg) (D : Df K mg "_law_unmarked" s__law_unmarked [("told_so" : Str)])  {g : Dl.Env → Out Cn} (hg : ∀ env : Dl.Env, env.length = 1 → g env = .no ∨ runB pb__law_unmarked 0 (m__law_unmarked) env = g env) : Pr P w K mg base (kk + 1) "_law_unmarked" s__law_unmarked [("told_so" : Str)] g :=
  pr_of D sc__law_unmarked rfl (fun f cdv A outer s H E hr => b__law_unmarked T  hr) hg
/-! ### _law_heaps -/
abbrev s__law_heaps : Stmt := topS 27
def N__law_heaps : List Str := [("many_so" : Str), ("found" : Str), ("k" : Str), ("later_so" : Str), ("own" : Str), ("j" : Str)]
theorem sc__law_heaps : FnScope N__law_heaps [("many_so" : Str)] (defScope s__law_heaps) := ⟨rfl, rfl, rfl, by decide +kernel, rfl, by decide +kernel, by decide +kernel⟩
def pb__law_heaps : List Bool := [false]
def m__law_heaps : MS := xSeq (xSet 1 (xFz (xLst (xCons (xFz (xLst (xNil))) (xNil)))))
    (xSeq (xFor (xRng1 (xfr 0)) (gNm 2) (xSeq (xSetN 3 (xLst (xNil)))
    (xSeq (xFor (xIt asSeq (xfr 1)) (gNm 4) (xSeq (xEx (xMu mAppend 3 (xCons (xBinV dAdd 4 (xFz (xLst (xCons (xk (.int 1)) (xNil))))) (xNil))))
    (xSeq (xEx (xMu mExtend 3 (xCons (xFz (xLc [5] (xRng1 (xUn dLen (xp 4))) (gNm 5) (xYes) (xBin dAdd (xBin dAdd (xSlV dSl 4 (oNo) (oSo (xp 5))) (xFz (xLst (xCons (xBin dAdd (xBinV dIdx 4 (xp 5)) (xk (.int 1))) (xNil))))) (xSlV dSl 4 (oSo (xBinV dAdd 5 (xk (.int 1)))) (oNo))))) (xNil))))
    (xNx))))
    (xSeq (xSet 1 (xfr 3))
    (xNx)))))
    (xSeq (xRetE (xfr 1))
    (xNx)))
theorem b__law_heaps {P : Program} {w : World} {K : PySem.W.Frag} {mg : Str → Option Value} {base : Heap} {kk : Nat} (T : Fx K mg)  {f : Addr} {cdv : Value} {A : Around} {outer : List PySem.Env} {s : Shared} {H : Hp} {E : XK} (hr : Room kk (A.deeper (envOfC "_law_heaps" (defScope s__law_heaps) s.heap.objs.size f cdv))) :
    SSs (cxOf (L2.CX P w) P w K mg base N__law_heaps "_law_heaps" (defScope s__law_heaps) f cdv A outer s H E) pb__law_heaps (defBody s__law_heaps) (m__law_heaps) := by
  exact sss_cons (ss_set 1 sc__law_heaps.nd (se_fz (sn_lst (sa_cons (se_fz (sn_lst (sa_nil))) (sa_nil)))))
    (sss_cons (ss_for rfl (si_range1 (by rfl) T.b_range (se_frz (pv 0))) (sg_name sc__law_heaps.nd) (sss_cons (ss_setN 3 sc__law_heaps.nd (sn_lst (sa_nil)))
    (sss_cons (ss_for rfl (si_seq (se_frz (pv 1))) (sg_name sc__law_heaps.nd) (sss_cons (ss_expr (se_mu PySem.F.plainAttrs_list PySem.F.slot_list_append PySem.F.type_list_append mt_append rmu_append (pv 3) (sa_cons (se_binV op_addA rop_add (pv 4) (SE.sb (se_fz (sn_lst (sa_cons (se_int) (sa_nil)))))) (sa_nil))))
    (sss_cons (ss_expr (se_mu PySem.F.plainAttrs_list PySem.F.slot_list_extend PySem.F.type_list_extend mt_extend rmu_extend (pv 3) (sa_cons (se_fz (sn_lc (own := [(("j" : Str), 5)]) rfl sc__law_heaps.nd (si_range1 (by rfl) T.b_range (se_call1 call_len rc_len (sb_var 4) (by rfl) T.b_len boot_len)) (blkOk_by (by rfl)) (by decide) (fun _ _ _ _ _ => sg_name sc__law_heaps.nd) (fun _ _ _ _ _ => sc_nil) (fun _ _ _ _ _ => se_bin op_addA rop_add (se_bin op_addA rop_add (se_slV sl_D rsl_D (pv 4) (so_none) (so_some (sb_var 5))) (SE.sb (se_fz (sn_lst (sa_cons (se_bin op_addA rop_add (se_ixV ix_seq rop_ix (pv 4) (sb_var 5) (fun _ _ => rfl)) (SE.sb (se_int))) (sa_nil)))))) (SE.sb (se_slV sl_D rsl_D (pv 4) (so_some (SE.sb (se_binV op_addA rop_add (pv 5) (SE.sb (se_int))))) (so_none)))))) (sa_nil))))
    (sss_nil))))
    (sss_cons (ss_set 1 sc__law_heaps.nd (se_frz (pv 3)))
    (sss_nil)))))
    (sss_cons (ss_retE (se_frz (pv 1)))
    (sss_nil)))
theorem p__law_heaps {P : Program} {w : World} {K : PySem.W.Frag} {mg : Str → Option Value} {base : Heap} {kk : Nat} (T : Fx K mg) (D : Df K mg "_law_heaps" s__law_heaps [("many_so" : Str)])  {g : Dl.Env → Out Cn} (hg : ∀ env : Dl.Env, env.length = 1 → g env = .no ∨ runB pb__law_heaps 5 (m__law_heaps) env = g env) : Pr P w K mg base (kk + 1) "_law_heaps" s__law_heaps [("many_so" : Str)] g :=
  pr_of D sc__law_heaps rfl (fun f cdv A outer s H E hr => b__law_heaps T  hr) hg
/-! ### _law_together -/
abbrev s__law_together : Stmt := topS 28
def N__law_together : List Str := [("one" : Str), ("two" : Str), ("found" : Str), ("n" : Str), ("total_so" : Str), ("own" : Str), ("share_so" : Str), ("its" : Str)]
theorem sc__law_together : FnScope N__law_together [("one" : Str), ("two" : Str)] (defScope s__law_together) := ⟨rfl, rfl, rfl, by decide +kernel, rfl, by decide +kernel, by decide +kernel⟩
def pb__law_together : List Bool := [false, false]
def m__law_together (g__law_heaps : Dl.Env → Out Cn) : MS := xSeq (xSetN 2 (xLst (xNil)))
    (xSeq (xFor (xRng2 (xk (.int 1)) (xBin dAdd (xBin dMin (xUn dLen (xp 0)) (xUn dLen (xp 1))) (xk (.int 1)))) (gNm 3) (xSeq (xSet 4 (xk (.int 0)))
    (xSeq (xFor (xIt asSeq (xFz (xCall 1 g__law_heaps [none] (aVal (xfr 3) (aNil))))) (gNm 5) (xSeq (xSet 6 (xBinV dIdx 0 (xBin dSub (xUn dLen (xp 5)) (xk (.int 1)))))
    (xSeq (xFor (xIt asSeq (xfr 5)) (gNm 7) (xSeq (xSet 6 (xBinV dMul 6 (xBinV dIdx 1 (xBinV dSub 7 (xk (.int 1))))))
    (xNx)))
    (xSeq (xSet 4 (xBinV dAdd 4 (xp 6)))
    (xNx)))))
    (xSeq (xEx (xMu mAppend 2 (xCons (xfr 4) (xNil))))
    (xNx)))))
    (xSeq (xRetE (xUn dTup (xp 2)))
    (xNx)))
theorem b__law_together {P : Program} {w : World} {K : PySem.W.Frag} {mg : Str → Option Value} {base : Heap} {kk : Nat} (T : Fx K mg) {g__law_heaps : Dl.Env → Out Cn} (G__law_heaps : Pr P w K mg base kk "_law_heaps" s__law_heaps [("many_so" : Str)] g__law_heaps) {f : Addr} {cdv : Value} {A : Around} {outer : List PySem.Env} {s : Shared} {H : Hp} {E : XK} (hr : Room kk (A.deeper (envOfC "_law_together" (defScope s__law_together) s.heap.objs.size f cdv))) :
    SSs (cxOf (L2.CX P w) P w K mg base N__law_together "_law_together" (defScope s__law_together) f cdv A outer s H E) pb__law_together (defBody s__law_together) (m__law_together g__law_heaps) := by
  exact sss_cons (ss_setN 2 sc__law_together.nd (sn_lst (sa_nil)))
    (sss_cons (ss_for rfl (si_range2 (by rfl) T.b_range (se_int) (se_bin op_addA rop_add (se_call2 (call_min2 rfl) rc_min (se_call1 call_len rc_len (sb_var 0) (by rfl) T.b_len boot_len) (SE.sb (se_call1 call_len rc_len (sb_var 1) (by rfl) T.b_len boot_len)) (by rfl) T.b_min boot_min) (SE.sb (se_int)))) (sg_name sc__law_together.nd) (sss_cons (ss_set 4 sc__law_together.nd (se_int))
    (sss_cons (ss_for rfl (si_seq (se_fz (sn_callP G__law_heaps hr (Nat.le_refl _) (by rfl) (sx_val (se_frz (pv 3)) (sx_nil))))) (sg_name sc__law_together.nd) (sss_cons (ss_set 6 sc__law_together.nd (se_ixV ix_seq rop_ix (pv 0) (SE.sb (se_bin op_sub rop_sub (se_call1 call_len rc_len (sb_var 5) (by rfl) T.b_len boot_len) (SE.sb (se_int)))) (fun _ _ => rfl)))
    (sss_cons (ss_for rfl (si_seq (se_frz (pv 5))) (sg_name sc__law_together.nd) (sss_cons (ss_set 6 sc__law_together.nd (se_binV op_mulA rop_mul (pv 6) (SE.sb (se_ixV ix_seq rop_ix (pv 1) (SE.sb (se_binV op_sub rop_sub (pv 7) (SE.sb (se_int)))) (fun _ _ => rfl)))))
    (sss_nil)))
    (sss_cons (ss_set 4 sc__law_together.nd (se_binV op_addA rop_add (pv 4) (sb_var 6)))
    (sss_nil)))))
    (sss_cons (ss_expr (se_mu PySem.F.plainAttrs_list PySem.F.slot_list_append PySem.F.type_list_append mt_append rmu_append (pv 2) (sa_cons (se_frz (pv 4)) (sa_nil))))
    (sss_nil)))))
    (sss_cons (ss_retE (se_callT1 cr_tupD rc_tup (sb_var 2) (by rfl) T.b_tuple boot_tuple))
    (sss_nil)))
theorem p__law_together {P : Program} {w : World} {K : PySem.W.Frag} {mg : Str → Option Value} {base : Heap} {kk : Nat} (T : Fx K mg) (D : Df K mg "_law_together" s__law_together [("one" : Str), ("two" : Str)]) {g__law_heaps : Dl.Env → Out Cn} (G__law_heaps : Pr P w K mg base kk "_law_heaps" s__law_heaps [("many_so" : Str)] g__law_heaps) {g : Dl.Env → Out Cn} (hg : ∀ env : Dl.Env, env.length = 2 → g env = .no ∨ runB pb__law_together 6 (m__law_together g__law_heaps) env = g env) : Pr P w K mg base (kk + 1) "_law_together" s__law_together [("one" : Str), ("two" : Str)] g :=
  pr_of D sc__law_together rfl (fun f cdv A outer s H E hr => b__law_together T G__law_heaps hr) hg
/-! ### _law_heard -/
abbrev s__law_heard : Stmt := topS 29
def N__law_heard : List Str := [("row_so" : Str), ("slip_so" : Str)]
theorem sc__law_heard : FnScope N__law_heard [("row_so" : Str)] (defScope s__law_heard) := ⟨rfl, rfl, rfl, by decide +kernel, rfl, by decide +kernel, by decide +kernel⟩
def pb__law_heard : List Bool := [false]
def m__law_heard (g_contrary_row g__law_unmarked : Dl.Env → Out Cn) : MS := xSeq (xTry (ctOf ("CanNot" : Str)) 1 (xSeq (xRetE (xFz (xCall 1 g__law_unmarked [none] (aVal (xFz (xCall 1 g_contrary_row [none] (aVal (xfr 0) (aNil)))) (aNil)))))
    (xNx)) (fun a => xSeq (xRetE (xFz (xLst (xCons (xk (.str ("cannot" : Str))) (xCons (xIsE 1 a true) (xNil))))))
    (xNx)))
    (xNx)
theorem b__law_heard {P : Program} {w : World} {K : PySem.W.Frag} {mg : Str → Option Value} {base : Heap} {kk : Nat} (T : Fx K mg) {g_contrary_row g__law_unmarked : Dl.Env → Out Cn} (G_contrary_row : Pr P w K mg base kk "contrary_row" s_contrary_row [("row" : Str)] g_contrary_row) (G__law_unmarked : Pr P w K mg base kk "_law_unmarked" s__law_unmarked [("told_so" : Str)] g__law_unmarked) {f : Addr} {cdv : Value} {A : Around} {outer : List PySem.Env} {s : Shared} {H : Hp} {E : XK} (hr : Room kk (A.deeper (envOfC "_law_heard" (defScope s__law_heard) s.heap.objs.size f cdv))) :
    SSs (cxOf (L2.CX P w) P w K mg base N__law_heard "_law_heard" (defScope s__law_heard) f cdv A outer s H E) pb__law_heard (defBody s__law_heard) (m__law_heard g_contrary_row g__law_unmarked) := by
  obtain ⟨CX_CanNot, E_CanNot, M_CanNot, H_CanNot⟩ := T.x_CanNot
  exact sss_cons (ss_try 1 (ctOf ("CanNot" : Str)) rfl rfl sc__law_heard.nd ⟨by rfl, by decide, .inl M_CanNot⟩ (fun pn xe => sss_cons (ss_retE (se_fz (sn_callP G__law_unmarked hr (Nat.le_refl _) (by rfl) (sx_val (se_fz (sn_callP G_contrary_row hr (Nat.le_refl _) (by rfl) (sx_val (se_frz (pv 0)) (sx_nil)))) (sx_nil)))))
    (sss_nil)) (ctOf_ok E_CanNot H_CanNot M_CanNot) (fun a oe cls dd pn F H xc hxc hisx hz hv => sss_cons (ss_retE (se_fz (sn_lst (sa_cons (se_str) (sa_cons (se_isE 1 H_CanNot.c (ctOf_is M_CanNot hxc hisx).2.1 (ctOf_is M_CanNot hxc hisx).2.2 hz hv (pv 1) (pe_bltn (v := .ty "ValueError") (by rfl) T.b_ValueError boot_ValueError rfl) (fun _ h => h) H_CanNot.v (by rfl) T.b_isinstance) (sa_nil))))))
    (sss_nil)) (by intro a e; by_cases hl : 1 < e.length <;> simp [finE, xSeq, xNx, xRetE, xFz, xLst, xTup, xCons, xNil, xk, xIsE_set, hl, toD, cap]))
    (sss_nil)
theorem p__law_heard {P : Program} {w : World} {K : PySem.W.Frag} {mg : Str → Option Value} {base : Heap} {kk : Nat} (T : Fx K mg) (D : Df K mg "_law_heard" s__law_heard [("row_so" : Str)]) {g_contrary_row g__law_unmarked : Dl.Env → Out Cn} (G_contrary_row : Pr P w K mg base kk "contrary_row" s_contrary_row [("row" : Str)] g_contrary_row) (G__law_unmarked : Pr P w K mg base kk "_law_unmarked" s__law_unmarked [("told_so" : Str)] g__law_unmarked) {g : Dl.Env → Out Cn} (hg : ∀ env : Dl.Env, env.length = 1 → g env = .no ∨ runB pb__law_heard 1 (m__law_heard g_contrary_row g__law_unmarked) env = g env) : Pr P w K mg base (kk + 1) "_law_heard" s__law_heard [("row_so" : Str)] g :=
  pr_of D sc__law_heard rfl (fun f cdv A outer s H E hr => b__law_heard T G_contrary_row G__law_unmarked hr) hg
/-! ### _law_some -/
abbrev s__law_some : Stmt := topS 30
def N__law_some : List Str := [("tin" : Str), ("long_so" : Str), ("k" : Str)]
theorem sc__law_some : FnScope N__law_some [("tin" : Str), ("long_so" : Str)] (defScope s__law_some) := ⟨rfl, rfl, rfl, by decide +kernel, rfl, by decide +kernel, by decide +kernel⟩
def pb__law_some : List Bool := [true, false]
def m__law_some (g__law_take : Dl.Env → Out Cn) : MS := xSeq (xRetE (xUn dTup (xFz (xLc [2] (xRng1 (xfr 1)) (gNm 2) (xYes) (xBin dSub (xFz (xCall 2 g__law_take [some 0, none] (aIoL 0 (aVal (xk (.int 9)) (aNil))))) (xk (.int 3)))))))
    (xNx)
theorem b__law_some {P : Program} {w : World} {K : PySem.W.Frag} {mg : Str → Option Value} {base : Heap} {kk : Nat} (T : Fx K mg) {g__law_take : Dl.Env → Out Cn} (G__law_take : Pr P w K mg base kk "_law_take" s__law_take [("tin" : Str), ("below_so" : Str)] g__law_take) {f : Addr} {cdv : Value} {A : Around} {outer : List PySem.Env} {s : Shared} {H : Hp} {E : XK} (hr : Room kk (A.deeper (envOfC "_law_some" (defScope s__law_some) s.heap.objs.size f cdv))) :
    SSs (cxOf (L2.CX P w) P w K mg base N__law_some "_law_some" (defScope s__law_some) f cdv A outer s H E) pb__law_some (defBody s__law_some) (m__law_some g__law_take) := by
  exact sss_cons (ss_retE (se_callT1 cr_tupD rc_tup (SE.sb (se_fz (sn_lc (own := [(("k" : Str), 2)]) rfl sc__law_some.nd (si_range1 (by rfl) T.b_range (se_frz (pv 1))) (blkOk_by (by rfl)) (by decide) (fun _ _ _ _ _ => sg_name sc__law_some.nd) (fun _ _ _ _ _ => sc_nil) (fun _ _ _ _ _ => se_bin op_sub rop_sub (se_fz (sn_callP G__law_take hr (Nat.le_refl _) (by rfl) (sx_ioL (pv 0) (sx_val (se_int) (sx_nil))))) (SE.sb (se_int)))))) (by rfl) T.b_tuple boot_tuple))
    (sss_nil)
theorem p__law_some {P : Program} {w : World} {K : PySem.W.Frag} {mg : Str → Option Value} {base : Heap} {kk : Nat} (T : Fx K mg) (D : Df K mg "_law_some" s__law_some [("tin" : Str), ("long_so" : Str)]) {g__law_take : Dl.Env → Out Cn} (G__law_take : Pr P w K mg base kk "_law_take" s__law_take [("tin" : Str), ("below_so" : Str)] g__law_take) {g : Dl.Env → Out Cn} (hg : ∀ env : Dl.Env, env.length = 2 → g env = .no ∨ runB pb__law_some 1 (m__law_some g__law_take) env = g env) : Pr P w K mg base (kk + 1) "_law_some" s__law_some [("tin" : Str), ("long_so" : Str)] g :=
  pr_of D sc__law_some rfl (fun f cdv A outer s H E hr => b__law_some T G__law_take hr) hg
/-! ### _law_right -/
abbrev s__law_right : Stmt := topS 31
def N__law_right : List Str := [("tin" : Str), ("one" : Str), ("two" : Str), ("due" : Str), ("signs_so" : Str), ("k" : Str), ("own" : Str), ("got" : Str), ("made_so" : Str), ("bads_so" : Str), ("long_so" : Str), ("three" : Str), ("lap" : Str), ("lone_so" : Str), ("back_so" : Str), ("mate_so" : Str), ("bent_so" : Str), ("things_so" : Str)]
theorem sc__law_right : FnScope N__law_right [("tin" : Str)] (defScope s__law_right) := ⟨rfl, rfl, rfl, by decide +kernel, rfl, by decide +kernel, by decide +kernel⟩
def pb__law_right : List Bool := [true]
def m__law_right (g_is_row g_put_together g_turned_row g_contrary_row g_do_match g_first_apart g__law_take g__law_mixed g__law_same g__law_together g__law_heard g__law_some : Dl.Env → Out Cn) : MS := xSeq (xPar 1 2 (aVal (xFz (xCall 2 g__law_some [some 0, none] (aIoL 0 (aVal (xBin dAdd (xk (.int 1)) (xFz (xCall 2 g__law_take [some 0, none] (aIoL 0 (aVal (xk (.int 6)) (aNil)))))) (aNil))))) (aVal (xFz (xCall 2 g__law_some [some 0, none] (aIoL 0 (aVal (xBin dAdd (xk (.int 1)) (xFz (xCall 2 g__law_take [some 0, none] (aIoL 0 (aVal (xk (.int 6)) (aNil)))))) (aNil))))) (aNil))))
    (xSeq (xSet 3 (xFz (xCall 2 g__law_together [none, none] (aVal (xfr 1) (aVal (xfr 2) (aNil))))))
    (xSeq (xSet 4 (xUn dTup (xFz (xLc [5, 6] (xIt (fun d => (asSeq d).map numbered) (xfr 2)) (gTp (gsCons (gNm 5) (gsCons (gNm 6) (gsNil)))) (xYes) (xIf (toB (xBin dEq (xBinV dMod 5 (xk (.int 2))) (xk (.int 0)))) (xfr 6) (xBin dSub (xk (.int 0)) (xp 6)))))))
    (xSeq (xSet 7 (xFz (xLst (xCons (xFz (xCall 2 g_put_together [none, none] (aVal (xFz (xCall 2 g__law_mixed [some 0, none] (aIoL 0 (aVal (xfr 1) (aNil))))) (aVal (xfr 2) (aNil))))) (xCons (xFz (xCallK 2 0 2 g_put_together (permIx [1, 0]) xNil (xCons (xFz (xUnN lList (xp 2))) (xCons (xfr 1) (xNil))))) (xCons (xFz (xCallK 1 0 1 g_turned_row (permIx [0]) xNil (xCons (xfr 2) (xNil)))) (xCons (xFz (xCall 1 g_turned_row [none] (aVal (xFz (xCall 1 g_turned_row [none] (aVal (xfr 1) (aNil)))) (aNil)))) (xNil))))))))
    (xSeq (xIfS (xNot (toB (xFz (xCall 2 g__law_same [none, none] (aVal (xfr 7) (aVal (xFz (xLst (xCons (xfr 3) (xCons (xfr 3) (xCons (xfr 4) (xCons (xfr 1) (xNil))))))) (aNil))))))) (xSeq (xRetE (xk (.bool false)))
    (xNx)) (xNx))
    (xSeq (xSet 8 (xFz (xCall 2 g__law_together [none, none] (aVal (xfr 1) (aVal (xfr 4) (aNil))))))
    (xSeq (xSetN 9 (xLc [5, 6] (xIt (fun d => (asSeq d).map numbered) (xfr 8)) (gTp (gsCons (gNm 5) (gsCons (gNm 6) (gsNil)))) (toB (xBinV dNe 6 (xUn dInt (xBinV dEq 5 (xk (.int 0)))))) (xBinV dAdd 5 (xk (.int 1)))))
    (xSeq (xIfS (xNot (toB (xFz (xCall 2 g__law_same [none, none] (aVal (xFz (xLst (xCons (xFz (xCall 2 g_first_apart [none, none] (aVal (xfr 1) (aVal (xfr 2) (aNil))))) (xCons (xFz (xCallK 2 0 2 g_do_match (permIx [1, 0]) xNil (xCons (xfr 2) (xCons (xfr 1) (xNil))))) (xNil))))) (aVal (xFz (xLst (xCons (xIf (toB (xBinV dNe 9 (xFz (xLst (xNil))))) (xBinV dIdx 9 (xk (.int 0))) (xk .none)) (xCons (xBinV dEq 9 (xFz (xLst (xNil)))) (xNil))))) (aNil))))))) (xSeq (xRetE (xk (.bool false)))
    (xNx)) (xNx))
    (xSeq (xSet 10 (xBin dAdd (xk (.int 8)) (xFz (xCall 2 g__law_take [some 0, none] (aIoL 0 (aVal (xk (.int 13)) (aNil)))))))
    (xSeq (xAsg (xFz (xLc [12] (xRng1 (xk (.int 3))) (gNm 12) (xYes) (xFz (xCall 2 g__law_some [some 0, none] (aIoL 0 (aVal (xfr 10) (aNil))))))) (gUl (gsCons (gNm 1) (gsCons (gNm 2) (gsCons (gNm 11) (gsNil))))))
    (xSeq (xIfS (toB (xBin dNe (xFz (xCall 2 g_put_together [none, none] (aVal (xFz (xCall 2 g_put_together [none, none] (aVal (xfr 1) (aVal (xfr 2) (aNil))))) (aVal (xfr 11) (aNil))))) (xFz (xCall 2 g_put_together [none, none] (aVal (xfr 1) (aVal (xFz (xCall 2 g_put_together [none, none] (aVal (xfr 2) (aVal (xfr 11) (aNil))))) (aNil))))))) (xSeq (xRetE (xk (.bool false)))
    (xNx)) (xNx))
    (xSeq (xSet 13 (xBin dAdd (xTup (xCons (xk (.int 1)) (xNil))) (xBin dMul (xTup (xCons (xk (.int 0)) (xNil))) (xBinV dSub 10 (xk (.int 1))))))
    (xSeq (xIfS (xNot (toB (xFz (xCall 2 g__law_same [none, none] (aVal (xFz (xLst (xCons (xFz (xCall 2 g_put_together [none, none] (aVal (xfr 1) (aVal (xfr 13) (aNil))))) (xCons (xFz (xCall 2 g_put_together [none, none] (aVal (xfr 13) (aVal (xfr 1) (aNil))))) (xCons (xBin dEq (xFz (xCall 1 g__law_heard [none] (aVal (xfr 1) (aNil)))) (xFz (xLst (xCons (xk (.str ("cannot" : Str))) (xCons (xk (.bool true)) (xNil)))))) (xNil)))))) (aVal (xFz (xLst (xCons (xfr 1) (xCons (xfr 1) (xCons (xBin dNe (xBinV dIdx 1 (xk (.int 0))) (xk (.int 1))) (xNil)))))) (aNil))))))) (xSeq (xRetE (xk (.bool false)))
    (xNx)) (xNx))
    (xSeq (xSet 1 (xBin dAdd (xTup (xCons (xk (.int 1)) (xNil))) (xSlV dSl 1 (oSo (xk (.int 1))) (oNo))))
    (xSeq (xSet 14 (xFz (xCall 1 g__law_heard [none] (aVal (xFz (xCall 2 g__law_mixed [some 0, none] (aIoL 0 (aVal (xfr 1) (aNil))))) (aNil)))))
    (xSeq (xIfS (xNot (toB (xFz (xCall 2 g__law_same [none, none] (aVal (xFz (xLst (xCons (xFz (xCall 2 g_put_together [none, none] (aVal (xfr 1) (aVal (xfr 14) (aNil))))) (xCons (xFz (xCall 2 g_put_together [none, none] (aVal (xfr 14) (aVal (xfr 1) (aNil))))) (xCons (xFz (xCall 1 g_contrary_row [none] (aVal (xfr 14) (aNil)))) (xNil)))))) (aVal (xFz (xLst (xCons (xfr 13) (xCons (xfr 13) (xCons (xfr 1) (xNil)))))) (aNil))))))) (xSeq (xRetE (xk (.bool false)))
    (xNx)) (xNx))
    (xSeq (xSet 15 (xFz (xCall 1 g_contrary_row [none] (aVal (xFz (xCall 1 g_turned_row [none] (aVal (xfr 1) (aNil)))) (aNil)))))
    (xSeq (xSet 5 (xBin dAdd (xk (.int 1)) (xFz (xCall 2 g__law_take [some 0, none] (aIoL 0 (aVal (xBinV dSub 10 (xk (.int 1))) (aNil)))))))
    (xSeq (xSet 16 (xBin dAdd (xBin dAdd (xSlV dSl 15 (oNo) (oSo (xp 5))) (xTup (xCons (xBin dAdd (xBin dAdd (xBinV dIdx 15 (xp 5)) (xk (.int 1))) (xFz (xCall 2 g__law_take [some 0, none] (aIoL 0 (aVal (xk (.int 3)) (aNil)))))) (xNil)))) (xSlV dSl 15 (oSo (xBinV dAdd 5 (xk (.int 1)))) (oNo))))
    (xSeq (xSet 7 (xFz (xLst (xCons (xFz (xCall 2 g_do_match [none, none] (aVal (xfr 15) (aVal (xfr 1) (aNil))))) (xCons (xFz (xCall 2 g_do_match [none, none] (aVal (xfr 1) (aVal (xfr 15) (aNil))))) (xCons (xFz (xCall 2 g_first_apart [none, none] (aVal (xfr 16) (aVal (xfr 1) (aNil))))) (xCons (xFz (xCall 2 g_first_apart [none, none] (aVal (xfr 1) (aVal (xfr 16) (aNil))))) (xCons (xFz (xCall 2 g_first_apart [none, none] (aVal (xfr 15) (aVal (xfr 1) (aNil))))) (xNil)))))))))
    (xSeq (xIfS (xNot (toB (xFz (xCall 2 g__law_same [none, none] (aVal (xfr 7) (aVal (xFz (xLst (xCons (xk (.bool true)) (xCons (xk (.bool true)) (xCons (xBinV dAdd 5 (xk (.int 1))) (xCons (xBinV dAdd 5 (xk (.int 1))) (xCons (xk .none) (xNil)))))))) (aNil))))))) (xSeq (xRetE (xk (.bool false)))
    (xNx)) (xNx))
    (xSeq (xSet 17 (xFz (xLst (xCons (xTup (xNil)) (xCons (xFz (xUnN lList (xp 1))) (xCons (xTup (xCons (xk (.int 1)) (xCons (xk .none) (xNil)))) (xCons (xTup (xCons (xk (.bool true)) (xNil))) (xCons (xk (.int 3)) (xCons (xk (.str ("1" : Str))) (xCons (xBin dMul (xTup (xCons (xk (.int 0)) (xNil))) (xk (.int 41))) (xCons (xk .none) (xNil))))))))))))
    (xSeq (xRetE (xFz (xCall 2 g__law_same [none, none] (aVal (xBin dAdd (xFz (xLc [6] (xIt asSeq (xfr 17)) (gNm 6) (xYes) (xFz (xCall 1 g_is_row [none] (aVal (xfr 6) (aNil)))))) (xFz (xLst (xCons (xFz (xCall 1 g_is_row [none] (aVal (xBin dMul (xTup (xCons (xk (.int 0)) (xNil))) (xk (.int 40))) (aNil)))) (xCons (xFz (xCall 1 g_is_row [none] (aVal (xfr 1) (aNil)))) (xNil)))))) (aVal (xBin dAdd (xBin dMul (xFz (xLst (xCons (xk (.bool false)) (xNil)))) (xk (.int 8))) (xFz (xLst (xCons (xk (.bool true)) (xCons (xk (.bool true)) (xNil)))))) (aNil))))))
    (xNx)))))))))))))))))))))))
theorem b__law_right {P : Program} {w : World} {K : PySem.W.Frag} {mg : Str → Option Value} {base : Heap} {kk : Nat} (T : Fx K mg) {g_is_row g_put_together g_turned_row g_contrary_row g_do_match g_first_apart g__law_take g__law_mixed g__law_same g__law_together g__law_heard g__law_some : Dl.Env → Out Cn} (G_is_row : Pr P w K mg base kk "is_row" s_is_row [("thing" : Str)] g_is_row) (G_put_together : Pr P w K mg base kk "put_together" s_put_together [("one" : Str), ("other" : Str)] g_put_together) (G_turned_row : Pr P w K mg base kk "turned_row" s_turned_row [("row" : Str)] g_turned_row) (G_contrary_row : Pr P w K mg base kk "contrary_row" s_contrary_row [("row" : Str)] g_contrary_row) (G_do_match : Pr P w K mg base kk "do_match" s_do_match [("one" : Str), ("other" : Str)] g_do_match) (G_first_apart : Pr P w K mg base kk "first_apart" s_first_apart [("one" : Str), ("other" : Str)] g_first_apart) (G__law_take : Pr P w K mg base kk "_law_take" s__law_take [("tin" : Str), ("below_so" : Str)] g__law_take) (G__law_mixed : Pr P w K mg base kk "_law_mixed" s__law_mixed [("tin" : Str), ("matter" : Str)] g__law_mixed) (G__law_same : Pr P w K mg base kk "_law_same" s__law_same [("got" : Str), ("due" : Str)] g__law_same) (G__law_together : Pr P w K mg base kk "_law_together" s__law_together [("one" : Str), ("two" : Str)] g__law_together) (G__law_heard : Pr P w K mg base kk "_law_heard" s__law_heard [("row_so" : Str)] g__law_heard) (G__law_some : Pr P w K mg base kk "_law_some" s__law_some [("tin" : Str), ("long_so" : Str)] g__law_some) {f : Addr} {cdv : Value} {A : Around} {outer : List PySem.Env} {s : Shared} {H : Hp} {E : XK} (hr : Room kk (A.deeper (envOfC "_law_right" (defScope s__law_right) s.heap.objs.size f cdv))) :
    SSs (cxOf (L2.CX P w) P w K mg base N__law_right "_law_right" (defScope s__law_right) f cdv A outer s H E) pb__law_right (defBody s__law_right) (m__law_right g_is_row g_put_together g_turned_row g_contrary_row g_do_match g_first_apart g__law_take g__law_mixed g__law_same g__law_together g__law_heard g__law_some) := by
  exact sss_cons (ss_par 1 2 rfl sc__law_right.nd (sx_val (se_fz (sn_callP G__law_some hr (Nat.le_refl _) (by rfl) (sx_ioL (pv 0) (sx_val (se_bin op_addA rop_add (se_int) (SE.sb (se_fz (sn_callP G__law_take hr (Nat.le_refl _) (by rfl) (sx_ioL (pv 0) (sx_val (se_int) (sx_nil))))))) (sx_nil))))) (sx_val (se_fz (sn_callP G__law_some hr (Nat.le_refl _) (by rfl) (sx_ioL (pv 0) (sx_val (se_bin op_addA rop_add (se_int) (SE.sb (se_fz (sn_callP G__law_take hr (Nat.le_refl _) (by rfl) (sx_ioL (pv 0) (sx_val (se_int) (sx_nil))))))) (sx_nil))))) (sx_nil))))
    (sss_cons (ss_set 3 sc__law_right.nd (se_fz (sn_callP G__law_together hr (Nat.le_refl _) (by rfl) (sx_val (se_frz (pv 1)) (sx_val (se_frz (pv 2)) (sx_nil))))))
    (sss_cons (ss_set 4 sc__law_right.nd (se_callT1 cr_tupD rc_tup (SE.sb (se_fz (sn_lc (own := [(("k" : Str), 5), (("own" : Str), 6)]) rfl sc__law_right.nd (si_enumA (by rfl) T.b_enumerate (se_frz (pv 2))) (blkOk_by (by rfl)) (by decide) (fun _ _ _ _ _ => sg_tup (n := 2) rfl (sgs_cons (sg_name sc__law_right.nd) (sgs_cons (sg_name sc__law_right.nd) (sgs_nil))) (hlen := gl2)) (fun _ _ _ _ _ => sc_nil) (fun _ _ _ _ _ => se_if (st_cmp (op_eqD (hu64 hr)) rop_eq (se_binV op_mod rop_mod (pv 5) (SE.sb (se_int))) (SE.sb (se_int)) (nomark _)) (se_frz (pv 6)) (se_bin op_sub rop_sub (se_int) (sb_var 6)))))) (by rfl) T.b_tuple boot_tuple))
    (sss_cons (ss_set 7 sc__law_right.nd (se_fz (sn_lst (sa_cons (se_fz (sn_callP G_put_together hr (Nat.le_refl _) (by rfl) (sx_val (se_fz (sn_callP G__law_mixed hr (Nat.le_refl _) (by rfl) (sx_ioL (pv 0) (sx_val (se_frz (pv 1)) (sx_nil))))) (sx_val (se_frz (pv 2)) (sx_nil))))) (sa_cons (se_fz (sn_callPK0 (ks := [("other" : Str), ("one" : Str)]) G_put_together hr (Nat.le_refl _) (by rfl) (fun _ _ _ _ _ _ us ws h1 h2 => match us, ws, h1, h2 with | [], [_, _], _, _ => rfl) (permIx_ok _) (sk_cons (se_fz (sn_callT1 call_list_of rcn_list (sb_var 2) (by rfl) T.b_list boot_list)) (sk_cons (se_frz (pv 1)) (sk_nil))))) (sa_cons (se_fz (sn_callPK0 (ks := [("row" : Str)]) G_turned_row hr (Nat.le_refl _) (by rfl) (fun _ _ _ _ _ _ us ws h1 h2 => match us, ws, h1, h2 with | [], [_], _, _ => rfl) (permIx_ok _) (sk_cons (se_frz (pv 2)) (sk_nil)))) (sa_cons (se_fz (sn_callP G_turned_row hr (Nat.le_refl _) (by rfl) (sx_val (se_fz (sn_callP G_turned_row hr (Nat.le_refl _) (by rfl) (sx_val (se_frz (pv 1)) (sx_nil)))) (sx_nil)))) (sa_nil))))))))
    (sss_cons (ss_if (st_not (st_val (SE.sb (se_fz (sn_callP G__law_same hr (Nat.le_refl _) (by rfl) (sx_val (se_frz (pv 7)) (sx_val (se_fz (sn_lst (sa_cons (se_frz (pv 3)) (sa_cons (se_frz (pv 3)) (sa_cons (se_frz (pv 4)) (sa_cons (se_frz (pv 1)) (sa_nil))))))) (sx_nil)))))))) (sss_cons (ss_retE (se_bl))
    (sss_nil)) (sss_nil))
    (sss_cons (ss_set 8 sc__law_right.nd (se_fz (sn_callP G__law_together hr (Nat.le_refl _) (by rfl) (sx_val (se_frz (pv 1)) (sx_val (se_frz (pv 4)) (sx_nil))))))
    (sss_cons (ss_setLc 9 (own := [(("k" : Str), 5), (("own" : Str), 6)]) rfl sc__law_right.nd (si_enumA (by rfl) T.b_enumerate (se_frz (pv 8))) (blkOk_by (by rfl)) (by decide) (fun _ _ _ _ _ => sg_tup (n := 2) rfl (sgs_cons (sg_name sc__law_right.nd) (sgs_cons (sg_name sc__law_right.nd) (sgs_nil))) (hlen := gl2)) (fun _ _ _ _ _ => sc_one (st_cmpV (op_neD (hu64 hr)) rop_ne (pv 6) (SE.sb (se_callT1 call_int1 rc_int (SE.sb (se_cmpV (op_eqD (hu64 hr)) rop_eq (pv 5) (SE.sb (se_int)) (nomark _))) (by rfl) T.b_int boot_int)) (nomark _))) (fun _ _ _ _ _ => se_binV op_addA rop_add (pv 5) (SE.sb (se_int))))
    (sss_cons (ss_if (st_not (st_val (SE.sb (se_fz (sn_callP G__law_same hr (Nat.le_refl _) (by rfl) (sx_val (se_fz (sn_lst (sa_cons (se_fz (sn_callP G_first_apart hr (Nat.le_refl _) (by rfl) (sx_val (se_frz (pv 1)) (sx_val (se_frz (pv 2)) (sx_nil))))) (sa_cons (se_fz (sn_callPK0 (ks := [("other" : Str), ("one" : Str)]) G_do_match hr (Nat.le_refl _) (by rfl) (fun _ _ _ _ _ _ us ws h1 h2 => match us, ws, h1, h2 with | [], [_, _], _, _ => rfl) (permIx_ok _) (sk_cons (se_frz (pv 2)) (sk_cons (se_frz (pv 1)) (sk_nil))))) (sa_nil))))) (sx_val (se_fz (sn_lst (sa_cons (se_if (st_cmpV (op_neD (hu64 hr)) rop_ne (pv 9) (SE.sb (se_fz (sn_lst (sa_nil)))) (nomark _)) (se_ixV ix_seq rop_ix (pv 9) (SE.sb (se_int)) (fun _ _ => rfl)) (se_non)) (sa_cons (se_cmpV (op_eqD (hu64 hr)) rop_eq (pv 9) (SE.sb (se_fz (sn_lst (sa_nil)))) (nomark _)) (sa_nil))))) (sx_nil)))))))) (sss_cons (ss_retE (se_bl))
    (sss_nil)) (sss_nil))
    (sss_cons (ss_set 10 sc__law_right.nd (se_bin op_addA rop_add (se_int) (SE.sb (se_fz (sn_callP G__law_take hr (Nat.le_refl _) (by rfl) (sx_ioL (pv 0) (sx_val (se_int) (sx_nil))))))))
    (sss_cons (ss_asg (se_fz (sn_lc (own := [(("lap" : Str), 12)]) rfl sc__law_right.nd (si_range1 (by rfl) T.b_range (se_int)) (blkOk_by (by rfl)) (by decide) (fun _ _ _ _ _ => sg_name sc__law_right.nd) (fun _ _ _ _ _ => sc_nil) (fun _ _ _ _ _ => se_fz (sn_callP G__law_some hr (Nat.le_refl _) (by rfl) (sx_ioL (pv 0) (sx_val (se_frz (pv 10)) (sx_nil))))))) (sg_unl (n := 3) rfl (sgs_cons (sg_name sc__law_right.nd) (sgs_cons (sg_name sc__law_right.nd) (sgs_cons (sg_name sc__law_right.nd) (sgs_nil)))) (hlen := gl3)))
    (sss_cons (ss_if (st_cmp (op_neD (hu64 hr)) rop_ne (se_fz (sn_callP G_put_together hr (Nat.le_refl _) (by rfl) (sx_val (se_fz (sn_callP G_put_together hr (Nat.le_refl _) (by rfl) (sx_val (se_frz (pv 1)) (sx_val (se_frz (pv 2)) (sx_nil))))) (sx_val (se_frz (pv 11)) (sx_nil))))) (SE.sb (se_fz (sn_callP G_put_together hr (Nat.le_refl _) (by rfl) (sx_val (se_frz (pv 1)) (sx_val (se_fz (sn_callP G_put_together hr (Nat.le_refl _) (by rfl) (sx_val (se_frz (pv 2)) (sx_val (se_frz (pv 11)) (sx_nil))))) (sx_nil)))))) (nomark _)) (sss_cons (ss_retE (se_bl))
    (sss_nil)) (sss_nil))
    (sss_cons (ss_set 13 sc__law_right.nd (se_bin op_addA rop_add (se_tup (sa_cons (se_int) (sa_nil))) (SE.sb (se_bin op_mulA rop_mul (se_tup (sa_cons (se_int) (sa_nil))) (SE.sb (se_binV op_sub rop_sub (pv 10) (SE.sb (se_int))))))))
    (sss_cons (ss_if (st_not (st_val (SE.sb (se_fz (sn_callP G__law_same hr (Nat.le_refl _) (by rfl) (sx_val (se_fz (sn_lst (sa_cons (se_fz (sn_callP G_put_together hr (Nat.le_refl _) (by rfl) (sx_val (se_frz (pv 1)) (sx_val (se_frz (pv 13)) (sx_nil))))) (sa_cons (se_fz (sn_callP G_put_together hr (Nat.le_refl _) (by rfl) (sx_val (se_frz (pv 13)) (sx_val (se_frz (pv 1)) (sx_nil))))) (sa_cons (se_cmp (op_eqD (hu64 hr)) rop_eq (se_fz (sn_callP G__law_heard hr (Nat.le_refl _) (by rfl) (sx_val (se_frz (pv 1)) (sx_nil)))) (SE.sb (se_fz (sn_lst (sa_cons (se_str) (sa_cons (se_bl) (sa_nil)))))) (nomark _)) (sa_nil)))))) (sx_val (se_fz (sn_lst (sa_cons (se_frz (pv 1)) (sa_cons (se_frz (pv 1)) (sa_cons (se_cmp (op_neD (hu64 hr)) rop_ne (se_ixV ix_seq rop_ix (pv 1) (SE.sb (se_int)) (fun _ _ => rfl)) (SE.sb (se_int)) (nomark _)) (sa_nil)))))) (sx_nil)))))))) (sss_cons (ss_retE (se_bl))
    (sss_nil)) (sss_nil))
    (sss_cons (ss_set 1 sc__law_right.nd (se_bin op_addA rop_add (se_tup (sa_cons (se_int) (sa_nil))) (SE.sb (se_slV sl_D rsl_D (pv 1) (so_some (SE.sb (se_int))) (so_none)))))
    (sss_cons (ss_set 14 sc__law_right.nd (se_fz (sn_callP G__law_heard hr (Nat.le_refl _) (by rfl) (sx_val (se_fz (sn_callP G__law_mixed hr (Nat.le_refl _) (by rfl) (sx_ioL (pv 0) (sx_val (se_frz (pv 1)) (sx_nil))))) (sx_nil)))))
    (sss_cons (ss_if (st_not (st_val (SE.sb (se_fz (sn_callP G__law_same hr (Nat.le_refl _) (by rfl) (sx_val (se_fz (sn_lst (sa_cons (se_fz (sn_callP G_put_together hr (Nat.le_refl _) (by rfl) (sx_val (se_frz (pv 1)) (sx_val (se_frz (pv 14)) (sx_nil))))) (sa_cons (se_fz (sn_callP G_put_together hr (Nat.le_refl _) (by rfl) (sx_val (se_frz (pv 14)) (sx_val (se_frz (pv 1)) (sx_nil))))) (sa_cons (se_fz (sn_callP G_contrary_row hr (Nat.le_refl _) (by rfl) (sx_val (se_frz (pv 14)) (sx_nil)))) (sa_nil)))))) (sx_val (se_fz (sn_lst (sa_cons (se_frz (pv 13)) (sa_cons (se_frz (pv 13)) (sa_cons (se_frz (pv 1)) (sa_nil)))))) (sx_nil)))))))) (sss_cons (ss_retE (se_bl))
    (sss_nil)) (sss_nil))
    (sss_cons (ss_set 15 sc__law_right.nd (se_fz (sn_callP G_contrary_row hr (Nat.le_refl _) (by rfl) (sx_val (se_fz (sn_callP G_turned_row hr (Nat.le_refl _) (by rfl) (sx_val (se_frz (pv 1)) (sx_nil)))) (sx_nil)))))
    (sss_cons (ss_set 5 sc__law_right.nd (se_bin op_addA rop_add (se_int) (SE.sb (se_fz (sn_callP G__law_take hr (Nat.le_refl _) (by rfl) (sx_ioL (pv 0) (sx_val (se_binV op_sub rop_sub (pv 10) (SE.sb (se_int))) (sx_nil))))))))
    (sss_cons (ss_set 16 sc__law_right.nd (se_bin op_addA rop_add (se_bin op_addA rop_add (se_slV sl_D rsl_D (pv 15) (so_none) (so_some (sb_var 5))) (SE.sb (se_tup (sa_cons (se_bin op_addA rop_add (se_bin op_addA rop_add (se_ixV ix_seq rop_ix (pv 15) (sb_var 5) (fun _ _ => rfl)) (SE.sb (se_int))) (SE.sb (se_fz (sn_callP G__law_take hr (Nat.le_refl _) (by rfl) (sx_ioL (pv 0) (sx_val (se_int) (sx_nil))))))) (sa_nil))))) (SE.sb (se_slV sl_D rsl_D (pv 15) (so_some (SE.sb (se_binV op_addA rop_add (pv 5) (SE.sb (se_int))))) (so_none)))))
    (sss_cons (ss_set 7 sc__law_right.nd (se_fz (sn_lst (sa_cons (se_fz (sn_callP G_do_match hr (Nat.le_refl _) (by rfl) (sx_val (se_frz (pv 15)) (sx_val (se_frz (pv 1)) (sx_nil))))) (sa_cons (se_fz (sn_callP G_do_match hr (Nat.le_refl _) (by rfl) (sx_val (se_frz (pv 1)) (sx_val (se_frz (pv 15)) (sx_nil))))) (sa_cons (se_fz (sn_callP G_first_apart hr (Nat.le_refl _) (by rfl) (sx_val (se_frz (pv 16)) (sx_val (se_frz (pv 1)) (sx_nil))))) (sa_cons (se_fz (sn_callP G_first_apart hr (Nat.le_refl _) (by rfl) (sx_val (se_frz (pv 1)) (sx_val (se_frz (pv 16)) (sx_nil))))) (sa_cons (se_fz (sn_callP G_first_apart hr (Nat.le_refl _) (by rfl) (sx_val (se_frz (pv 15)) (sx_val (se_frz (pv 1)) (sx_nil))))) (sa_nil)))))))))
    (sss_cons (ss_if (st_not (st_val (SE.sb (se_fz (sn_callP G__law_same hr (Nat.le_refl _) (by rfl) (sx_val (se_frz (pv 7)) (sx_val (se_fz (sn_lst (sa_cons (se_bl) (sa_cons (se_bl) (sa_cons (se_binV op_addA rop_add (pv 5) (SE.sb (se_int))) (sa_cons (se_binV op_addA rop_add (pv 5) (SE.sb (se_int))) (sa_cons (se_non) (sa_nil)))))))) (sx_nil)))))))) (sss_cons (ss_retE (se_bl))
    (sss_nil)) (sss_nil))
    (sss_cons (ss_set 17 sc__law_right.nd (se_fz (sn_lst (sa_cons (se_tup (sa_nil)) (sa_cons (se_fz (sn_callT1 call_list_of rcn_list (sb_var 1) (by rfl) T.b_list boot_list)) (sa_cons (se_tup (sa_cons (se_int) (sa_cons (se_non) (sa_nil)))) (sa_cons (se_tup (sa_cons (se_bl) (sa_nil))) (sa_cons (se_int) (sa_cons (se_str) (sa_cons (se_bin op_mulA rop_mul (se_tup (sa_cons (se_int) (sa_nil))) (SE.sb (se_int))) (sa_cons (se_non) (sa_nil))))))))))))
    (sss_cons (ss_retE (se_fz (sn_callP G__law_same hr (Nat.le_refl _) (by rfl) (sx_val (se_bin op_addA rop_add (se_fz (sn_lc (own := [(("own" : Str), 6)]) rfl sc__law_right.nd (si_seq (se_frz (pv 17))) (blkOk_by (by rfl)) (by decide) (fun _ _ _ _ _ => sg_name sc__law_right.nd) (fun _ _ _ _ _ => sc_nil) (fun _ _ _ _ _ => se_fz (sn_callP G_is_row hr (Nat.le_refl _) (by rfl) (sx_val (se_frz (pv 6)) (sx_nil)))))) (SE.sb (se_fz (sn_lst (sa_cons (se_fz (sn_callP G_is_row hr (Nat.le_refl _) (by rfl) (sx_val (se_bin op_mulA rop_mul (se_tup (sa_cons (se_int) (sa_nil))) (SE.sb (se_int))) (sx_nil)))) (sa_cons (se_fz (sn_callP G_is_row hr (Nat.le_refl _) (by rfl) (sx_val (se_frz (pv 1)) (sx_nil)))) (sa_nil))))))) (sx_val (se_bin op_addA rop_add (se_bin op_mulA rop_mul (se_fz (sn_lst (sa_cons (se_bl) (sa_nil)))) (SE.sb (se_int))) (SE.sb (se_fz (sn_lst (sa_cons (se_bl) (sa_cons (se_bl) (sa_nil))))))) (sx_nil))))))
    (sss_nil)))))))))))))))))))))))
theorem p__law_right {P : Program} {w : World} {K : PySem.W.Frag} {mg : Str → Option Value} {base : Heap} {kk : Nat} (T : Fx K mg) (D : Df K mg "_law_right" s__law_right [("tin" : Str)]) {g_is_row g_put_together g_turned_row g_contrary_row g_do_match g_first_apart g__law_take g__law_mixed g__law_same g__law_together g__law_heard g__law_some : Dl.Env → Out Cn} (G_is_row : Pr P w K mg base kk "is_row" s_is_row [("thing" : Str)] g_is_row) (G_put_together : Pr P w K mg base kk "put_together" s_put_together [("one" : Str), ("other" : Str)] g_put_together) (G_turned_row : Pr P w K mg base kk "turned_row" s_turned_row [("row" : Str)] g_turned_row) (G_contrary_row : Pr P w K mg base kk "contrary_row" s_contrary_row [("row" : Str)] g_contrary_row) (G_do_match : Pr P w K mg base kk "do_match" s_do_match [("one" : Str), ("other" : Str)] g_do_match) (G_first_apart : Pr P w K mg base kk "first_apart" s_first_apart [("one" : Str), ("other" : Str)] g_first_apart) (G__law_take : Pr P w K mg base kk "_law_take" s__law_take [("tin" : Str), ("below_so" : Str)] g__law_take) (G__law_mixed : Pr P w K mg base kk "_law_mixed" s__law_mixed [("tin" : Str), ("matter" : Str)] g__law_mixed) (G__law_same : Pr P w K mg base kk "_law_same" s__law_same [("got" : Str), ("due" : Str)] g__law_same) (G__law_together : Pr P w K mg base kk "_law_together" s__law_together [("one" : Str), ("two" : Str)] g__law_together) (G__law_heard : Pr P w K mg base kk "_law_heard" s__law_heard [("row_so" : Str)] g__law_heard) (G__law_some : Pr P w K mg base kk "_law_some" s__law_some [("tin" : Str), ("long_so" : Str)] g__law_some) {g : Dl.Env → Out Cn} (hg : ∀ env : Dl.Env, env.length = 1 → g env = .no ∨ runB pb__law_right 17 (m__law_right g_is_row g_put_together g_turned_row g_contrary_row g_do_match g_first_apart g__law_take g__law_mixed g__law_same g__law_together g__law_heard g__law_some) env = g env) : Pr P w K mg base (kk + 1) "_law_right" s__law_right [("tin" : Str)] g :=
  pr_of D sc__law_right rfl (fun f cdv A outer s H E hr => b__law_right T G_is_row G_put_together G_turned_row G_contrary_row G_do_match G_first_apart G__law_take G__law_mixed G__law_same G__law_together G__law_heard G__law_some hr) hg
/-! ### law -/
abbrev s_law : Stmt := topS 32
def N_law : List Str := [("script" : Str), ("cells_so" : Str), ("k" : Str)]
theorem sc_law : FnScope N_law [("script" : Str)] (defScope s_law) := ⟨rfl, rfl, rfl, by decide +kernel, rfl, by decide +kernel, by decide +kernel⟩
def pb_law : List Bool := [true]
def m_law (g__law_box g__law_cells g__law_right : Dl.Env → Out Cn) : MS := xSeq (xSet 1 (xFz (xCall 2 g__law_cells [some 0, none] (aIoL 0 (aVal (xk (.int 1)) (aNil))))))
    (xSeq (xRetE (xUn dAll (xFz (xLc [2] (xRng1 (xUn dLen (xp 1))) (gNm 2) (xYes) (xFz (xCall 1 g__law_right [none] (aNew (xCall 2 g__law_box [none, none] (aVal (xfr 1) (aVal (xfr 2) (aNil)))) (aNil))))))))
    (xNx))
theorem b_law {P : Program} {w : World} {K : PySem.W.Frag} {mg : Str → Option Value} {base : Heap} {kk : Nat} (T : Fx K mg) {g__law_box g__law_cells g__law_right : Dl.Env → Out Cn} (G__law_box : Pr P w K mg base kk "_law_box" s__law_box [("script" : Str), ("k" : Str)] g__law_box) (G__law_cells : Pr P w K mg base kk "_law_cells" s__law_cells [("script" : Str), ("most_so" : Str)] g__law_cells) (G__law_right : Pr P w K mg base kk "_law_right" s__law_right [("tin" : Str)] g__law_right) {f : Addr} {cdv : Value} {A : Around} {outer : List PySem.Env} {s : Shared} {H : Hp} {E : XK} (hr : Room kk (A.deeper (envOfC "law" (defScope s_law) s.heap.objs.size f cdv))) :
    SSs (cxOf (L2.CX P w) P w K mg base N_law "law" (defScope s_law) f cdv A outer s H E) pb_law (defBody s_law) (m_law g__law_box g__law_cells g__law_right) := by
  exact sss_cons (ss_set 1 sc_law.nd (se_fz (sn_callP G__law_cells hr (Nat.le_refl _) (by rfl) (sx_ioL (pv 0) (sx_val (se_int) (sx_nil))))))
    (sss_cons (ss_retE (se_call1 (cr_all rfl) rc_all (SE.sb (se_fz (sn_lc (own := [(("k" : Str), 2)]) rfl sc_law.nd (si_range1 (by rfl) T.b_range (se_call1 call_len rc_len (sb_var 1) (by rfl) T.b_len boot_len)) (blkOk_by (by rfl)) (by decide) (fun _ _ _ _ _ => sg_name sc_law.nd) (fun _ _ _ _ _ => sc_nil) (fun _ _ _ _ _ => se_fz (sn_callP G__law_right hr (Nat.le_refl _) (by rfl) (sx_new (sn_callP G__law_box hr (Nat.le_refl _) (by rfl) (sx_val (se_frz (pv 1)) (sx_val (se_frz (pv 2)) (sx_nil)))) (sx_nil))))))) (by rfl) T.b_all boot_all))
    (sss_nil))
theorem p_law {P : Program} {w : World} {K : PySem.W.Frag} {mg : Str → Option Value} {base : Heap} {kk : Nat} (T : Fx K mg) (D : Df K mg "law" s_law [("script" : Str)]) {g__law_box g__law_cells g__law_right : Dl.Env → Out Cn} (G__law_box : Pr P w K mg base kk "_law_box" s__law_box [("script" : Str), ("k" : Str)] g__law_box) (G__law_cells : Pr P w K mg base kk "_law_cells" s__law_cells [("script" : Str), ("most_so" : Str)] g__law_cells) (G__law_right : Pr P w K mg base kk "_law_right" s__law_right [("tin" : Str)] g__law_right) {g : Dl.Env → Out Cn} (hg : ∀ env : Dl.Env, env.length = 1 → g env = .no ∨ runB pb_law 2 (m_law g__law_box g__law_cells g__law_right) env = g env) : Pr P w K mg base (kk + 1) "law" s_law [("script" : Str)] g :=
  pr_of D sc_law rfl (fun f cdv A outer s H E hr => b_law T G__law_box G__law_cells G__law_right hr) hg
/-! ### the promises -/
structure Ds (K : PySem.W.Frag) (mg : Str → Option Value) : Prop where
  d_is_number : Df K mg "is_number" s_is_number [("thing" : Str)]
  d_tupled : Df K mg "tupled" s_tupled [("value" : Str)]
  d_is_row : Df K mg "is_row" s_is_row [("thing" : Str)]
  d_sure_row : Df K mg "sure_row" s_sure_row [("value" : Str)]
  d_choose_row : Df K mg "choose_row" s_choose_row [("most" : Str)]
  d_spread : Df K mg "spread" s_spread [("row" : Str), ("most" : Str)]
  d_together_in : Df K mg "together_in" s_together_in [("one" : Str), ("other" : Str), ("most" : Str)]
  d_put_together : Df K mg "put_together" s_put_together [("one" : Str), ("other" : Str)]
  d_signed : Df K mg "signed" s_signed [("row" : Str)]
  d_turned_row : Df K mg "turned_row" s_turned_row [("row" : Str)]
  d_contrary_row : Df K mg "contrary_row" s_contrary_row [("row" : Str)]
  d_first_unfit : Df K mg "first_unfit" s_first_unfit [("one" : Str), ("other" : Str)]
  d_do_match : Df K mg "do_match" s_do_match [("one" : Str), ("other" : Str)]
  d_first_apart : Df K mg "first_apart" s_first_apart [("one" : Str), ("other" : Str)]
  d__law_box : Df K mg "_law_box" s__law_box [("script" : Str), ("k" : Str)]
  d__law_take : Df K mg "_law_take" s__law_take [("tin" : Str), ("below_so" : Str)]
  d__law_cells : Df K mg "_law_cells" s__law_cells [("script" : Str), ("most_so" : Str)]
  d__law_mixed : Df K mg "_law_mixed" s__law_mixed [("tin" : Str), ("matter" : Str)]
  d__law_same : Df K mg "_law_same" s__law_same [("got" : Str), ("due" : Str)]
  d__law_unmarked : Df K mg "_law_unmarked" s__law_unmarked [("told_so" : Str)]
  d__law_heaps : Df K mg "_law_heaps" s__law_heaps [("many_so" : Str)]
  d__law_together : Df K mg "_law_together" s__law_together [("one" : Str), ("two" : Str)]
  d__law_heard : Df K mg "_law_heard" s__law_heard [("row_so" : Str)]
  d__law_some : Df K mg "_law_some" s__law_some [("tin" : Str), ("long_so" : Str)]
  d__law_right : Df K mg "_law_right" s__law_right [("tin" : Str)]
  d_law : Df K mg "law" s_law [("script" : Str)]
def g_is_number : Dl.Env → Out Cn := runB pb_is_number 0 (m_is_number )
theorem P_is_number {P : Program} {w : World} {K : PySem.W.Frag} {mg : Str → Option Value} {base : Heap} (T : Fx K mg) (D : Ds K mg) : Pr P w K mg base 1 "is_number" s_is_number [("thing" : Str)] g_is_number := p_is_number (kk := 0) T D.d_is_number  (fun _ _ => .inr rfl)
def gl_tupled : Nat → Dl.Env → Out Cn
  | 0 => fun _ => .no
  | n + 1 => runB pb_tupled 1 (m_tupled (gl_tupled n))
def g_tupled : Dl.Env → Out Cn := gl_tupled 12
theorem PL_tupled {P : Program} {w : World} {K : PySem.W.Frag} {mg : Str → Option Value} {base : Heap} (T : Fx K mg) (D : Ds K mg) : ∀ n : Nat, Pr P w K mg base (0 + n) "tupled" s_tupled [("value" : Str)] (gl_tupled n)
  | 0 => pr_no D.d_tupled
  | n + 1 => p_tupled T D.d_tupled (PL_tupled T D n) (fun _ _ => .inr rfl)
theorem P_tupled {P : Program} {w : World} {K : PySem.W.Frag} {mg : Str → Option Value} {base : Heap} (T : Fx K mg) (D : Ds K mg) : Pr P w K mg base 12 "tupled" s_tupled [("value" : Str)] g_tupled := PL_tupled T D 12
def g_is_row : Dl.Env → Out Cn := runB pb_is_row 1 (m_is_row g_is_number)
theorem P_is_row {P : Program} {w : World} {K : PySem.W.Frag} {mg : Str → Option Value} {base : Heap} (T : Fx K mg) (D : Ds K mg) : Pr P w K mg base 2 "is_row" s_is_row [("thing" : Str)] g_is_row := p_is_row (kk := 1) T D.d_is_row ((P_is_number T D).mono (by decide)) (fun _ _ => .inr rfl)
def g_sure_row : Dl.Env → Out Cn := runB pb_sure_row 1 (m_sure_row g_tupled g_is_row)
theorem P_sure_row {P : Program} {w : World} {K : PySem.W.Frag} {mg : Str → Option Value} {base : Heap} (T : Fx K mg) (D : Ds K mg) : Pr P w K mg base 13 "sure_row" s_sure_row [("value" : Str)] g_sure_row := p_sure_row (kk := 12) T D.d_sure_row ((P_tupled T D).mono (by decide)) ((P_is_row T D).mono (by decide)) (fun _ _ => .inr rfl)
def g_choose_row : Dl.Env → Out Cn := runB pb_choose_row 4 (m_choose_row )
theorem P_choose_row {P : Program} {w : World} {K : PySem.W.Frag} {mg : Str → Option Value} {base : Heap} (T : Fx K mg) (D : Ds K mg) : Pr P w K mg base 1 "choose_row" s_choose_row [("most" : Str)] g_choose_row := p_choose_row (kk := 0) T D.d_choose_row  (fun _ _ => .inr rfl)
def g_spread : Dl.Env → Out Cn := runB pb_spread 8 (m_spread g_choose_row)
theorem P_spread {P : Program} {w : World} {K : PySem.W.Frag} {mg : Str → Option Value} {base : Heap} (T : Fx K mg) (D : Ds K mg) : Pr P w K mg base 2 "spread" s_spread [("row" : Str), ("most" : Str)] g_spread := p_spread (kk := 1) T D.d_spread ((P_choose_row T D).mono (by decide)) (fun _ _ => .inr rfl)
def g_together_in : Dl.Env → Out Cn := runB pb_together_in 3 (m_together_in g_spread)
theorem P_together_in {P : Program} {w : World} {K : PySem.W.Frag} {mg : Str → Option Value} {base : Heap} (T : Fx K mg) (D : Ds K mg) : Pr P w K mg base 3 "together_in" s_together_in [("one" : Str), ("other" : Str), ("most" : Str)] g_together_in := p_together_in (kk := 2) T D.d_together_in ((P_spread T D).mono (by decide)) (fun _ _ => .inr rfl)
def g_put_together : Dl.Env → Out Cn := runB pb_put_together 3 (m_put_together g_sure_row g_together_in)
theorem P_put_together {P : Program} {w : World} {K : PySem.W.Frag} {mg : Str → Option Value} {base : Heap} (T : Fx K mg) (D : Ds K mg) : Pr P w K mg base 14 "put_together" s_put_together [("one" : Str), ("other" : Str)] g_put_together := p_put_together (kk := 13) T D.d_put_together ((P_sure_row T D).mono (by decide)) ((P_together_in T D).mono (by decide)) (fun _ _ => .inr rfl)
def g_signed : Dl.Env → Out Cn := runB pb_signed 2 (m_signed )
theorem P_signed {P : Program} {w : World} {K : PySem.W.Frag} {mg : Str → Option Value} {base : Heap} (T : Fx K mg) (D : Ds K mg) : Pr P w K mg base 1 "signed" s_signed [("row" : Str)] g_signed := p_signed (kk := 0) T D.d_signed  (fun _ _ => .inr rfl)
def g_turned_row : Dl.Env → Out Cn := runB pb_turned_row 0 (m_turned_row g_sure_row g_signed)
theorem P_turned_row {P : Program} {w : World} {K : PySem.W.Frag} {mg : Str → Option Value} {base : Heap} (T : Fx K mg) (D : Ds K mg) : Pr P w K mg base 14 "turned_row" s_turned_row [("row" : Str)] g_turned_row := p_turned_row (kk := 13) T D.d_turned_row ((P_sure_row T D).mono (by decide)) ((P_signed T D).mono (by decide)) (fun _ _ => .inr rfl)
def g_contrary_row : Dl.Env → Out Cn := runB pb_contrary_row 4 (m_contrary_row g_sure_row g_together_in)
theorem P_contrary_row {P : Program} {w : World} {K : PySem.W.Frag} {mg : Str → Option Value} {base : Heap} (T : Fx K mg) (D : Ds K mg) : Pr P w K mg base 14 "contrary_row" s_contrary_row [("row" : Str)] g_contrary_row := p_contrary_row (kk := 13) T D.d_contrary_row ((P_sure_row T D).mono (by decide)) ((P_together_in T D).mono (by decide)) (fun _ _ => .inr rfl)
def g_first_unfit : Dl.Env → Out Cn := runB pb_first_unfit 4 (m_first_unfit g_together_in g_signed)
theorem P_first_unfit {P : Program} {w : World} {K : PySem.W.Frag} {mg : Str → Option Value} {base : Heap} (T : Fx K mg) (D : Ds K mg) : Pr P w K mg base 4 "first_unfit" s_first_unfit [("one" : Str), ("other" : Str)] g_first_unfit := p_first_unfit (kk := 3) T D.d_first_unfit ((P_together_in T D).mono (by decide)) ((P_signed T D).mono (by decide)) (fun _ _ => .inr rfl)
def g_do_match : Dl.Env → Out Cn := runB pb_do_match 2 (m_do_match g_sure_row g_first_unfit)
theorem P_do_match {P : Program} {w : World} {K : PySem.W.Frag} {mg : Str → Option Value} {base : Heap} (T : Fx K mg) (D : Ds K mg) : Pr P w K mg base 14 "do_match" s_do_match [("one" : Str), ("other" : Str)] g_do_match := p_do_match (kk := 13) T D.d_do_match ((P_sure_row T D).mono (by decide)) ((P_first_unfit T D).mono (by decide)) (fun _ _ => .inr rfl)
def g_first_apart : Dl.Env → Out Cn := runB pb_first_apart 2 (m_first_apart g_sure_row g_first_unfit)
theorem P_first_apart {P : Program} {w : World} {K : PySem.W.Frag} {mg : Str → Option Value} {base : Heap} (T : Fx K mg) (D : Ds K mg) : Pr P w K mg base 14 "first_apart" s_first_apart [("one" : Str), ("other" : Str)] g_first_apart := p_first_apart (kk := 13) T D.d_first_apart ((P_sure_row T D).mono (by decide)) ((P_first_unfit T D).mono (by decide)) (fun _ _ => .inr rfl)
def g__law_box : Dl.Env → Out Cn := runB pb__law_box 1 (m__law_box )
theorem P__law_box {P : Program} {w : World} {K : PySem.W.Frag} {mg : Str → Option Value} {base : Heap} (T : Fx K mg) (D : Ds K mg) : Pr P w K mg base 1 "_law_box" s__law_box [("script" : Str), ("k" : Str)] g__law_box := p__law_box (kk := 0) T D.d__law_box  (fun _ _ => .inr rfl)
def g__law_take : Dl.Env → Out Cn := runB pb__law_take 4 (m__law_take )
theorem P__law_take {P : Program} {w : World} {K : PySem.W.Frag} {mg : Str → Option Value} {base : Heap} (T : Fx K mg) (D : Ds K mg) : Pr P w K mg base 1 "_law_take" s__law_take [("tin" : Str), ("below_so" : Str)] g__law_take := p__law_take (kk := 0) T D.d__law_take  (fun _ _ => .inr rfl)
def g__law_cells : Dl.Env → Out Cn := runB pb__law_cells 4 (m__law_cells )
theorem P__law_cells {P : Program} {w : World} {K : PySem.W.Frag} {mg : Str → Option Value} {base : Heap} (T : Fx K mg) (D : Ds K mg) : Pr P w K mg base 1 "_law_cells" s__law_cells [("script" : Str), ("most_so" : Str)] g__law_cells := p__law_cells (kk := 0) T D.d__law_cells  (fun _ _ => .inr rfl)
def gl__law_mixed : Nat → Dl.Env → Out Cn
  | 0 => fun _ => .no
  | n + 1 => runB pb__law_mixed 2 (m__law_mixed g__law_take (gl__law_mixed n))
def g__law_mixed : Dl.Env → Out Cn := gl__law_mixed 12
theorem PL__law_mixed {P : Program} {w : World} {K : PySem.W.Frag} {mg : Str → Option Value} {base : Heap} (T : Fx K mg) (D : Ds K mg) : ∀ n : Nat, Pr P w K mg base (1 + n) "_law_mixed" s__law_mixed [("tin" : Str), ("matter" : Str)] (gl__law_mixed n)
  | 0 => pr_no D.d__law_mixed
  | n + 1 => p__law_mixed T D.d__law_mixed ((P__law_take T D).mono (by omega)) (PL__law_mixed T D n) (fun _ _ => .inr rfl)
theorem P__law_mixed {P : Program} {w : World} {K : PySem.W.Frag} {mg : Str → Option Value} {base : Heap} (T : Fx K mg) (D : Ds K mg) : Pr P w K mg base 13 "_law_mixed" s__law_mixed [("tin" : Str), ("matter" : Str)] g__law_mixed := PL__law_mixed T D 12
def gl__law_same : Nat → Dl.Env → Out Cn
  | 0 => fun _ => .no
  | n + 1 => runB pb__law_same 2 (m__law_same (gl__law_same n))
def g__law_same : Dl.Env → Out Cn := gl__law_same 12
theorem PL__law_same {P : Program} {w : World} {K : PySem.W.Frag} {mg : Str → Option Value} {base : Heap} (T : Fx K mg) (D : Ds K mg) : ∀ n : Nat, Pr P w K mg base (0 + n) "_law_same" s__law_same [("got" : Str), ("due" : Str)] (gl__law_same n)
  | 0 => pr_no D.d__law_same
  | n + 1 => p__law_same T D.d__law_same (PL__law_same T D n) (fun _ _ => .inr rfl)
theorem P__law_same {P : Program} {w : World} {K : PySem.W.Frag} {mg : Str → Option Value} {base : Heap} (T : Fx K mg) (D : Ds K mg) : Pr P w K mg base 12 "_law_same" s__law_same [("got" : Str), ("due" : Str)] g__law_same := PL__law_same T D 12
def g__law_unmarked : Dl.Env → Out Cn := runB pb__law_unmarked 0 (m__law_unmarked )
theorem P__law_unmarked {P : Program} {w : World} {K : PySem.W.Frag} {mg : Str → Option Value} {base : Heap} (T : Fx K mg) (D : Ds K mg) : Pr P w K mg base 1 "_law_unmarked" s__law_unmarked [("told_so" : Str)] g__law_unmarked := p__law_unmarked (kk := 0) T D.d__law_unmarked  (fun _ _ => .inr rfl)
def g__law_heaps : Dl.Env → Out Cn := runB pb__law_heaps 5 (m__law_heaps )
theorem P__law_heaps {P : Program} {w : World} {K : PySem.W.Frag} {mg : Str → Option Value} {base : Heap} (T : Fx K mg) (D : Ds K mg) : Pr P w K mg base 1 "_law_heaps" s__law_heaps [("many_so" : Str)] g__law_heaps := p__law_heaps (kk := 0) T D.d__law_heaps  (fun _ _ => .inr rfl)
def g__law_together : Dl.Env → Out Cn := runB pb__law_together 6 (m__law_together g__law_heaps)
theorem P__law_together {P : Program} {w : World} {K : PySem.W.Frag} {mg : Str → Option Value} {base : Heap} (T : Fx K mg) (D : Ds K mg) : Pr P w K mg base 2 "_law_together" s__law_together [("one" : Str), ("two" : Str)] g__law_together := p__law_together (kk := 1) T D.d__law_together ((P__law_heaps T D).mono (by decide)) (fun _ _ => .inr rfl)
def g__law_heard : Dl.Env → Out Cn := runB pb__law_heard 1 (m__law_heard g_contrary_row g__law_unmarked)
theorem P__law_heard {P : Program} {w : World} {K : PySem.W.Frag} {mg : Str → Option Value} {base : Heap} (T : Fx K mg) (D : Ds K mg) : Pr P w K mg base 15 "_law_heard" s__law_heard [("row_so" : Str)] g__law_heard := p__law_heard (kk := 14) T D.d__law_heard ((P_contrary_row T D).mono (by decide)) ((P__law_unmarked T D).mono (by decide)) (fun _ _ => .inr rfl)
def g__law_some : Dl.Env → Out Cn := runB pb__law_some 1 (m__law_some g__law_take)
theorem P__law_some {P : Program} {w : World} {K : PySem.W.Frag} {mg : Str → Option Value} {base : Heap} (T : Fx K mg) (D : Ds K mg) : Pr P w K mg base 2 "_law_some" s__law_some [("tin" : Str), ("long_so" : Str)] g__law_some := p__law_some (kk := 1) T D.d__law_some ((P__law_take T D).mono (by decide)) (fun _ _ => .inr rfl)
def g__law_right : Dl.Env → Out Cn := runB pb__law_right 17 (m__law_right g_is_row g_put_together g_turned_row g_contrary_row g_do_match g_first_apart g__law_take g__law_mixed g__law_same g__law_together g__law_heard g__law_some)
theorem P__law_right {P : Program} {w : World} {K : PySem.W.Frag} {mg : Str → Option Value} {base : Heap} (T : Fx K mg) (D : Ds K mg) : Pr P w K mg base 16 "_law_right" s__law_right [("tin" : Str)] g__law_right := p__law_right (kk := 15) T D.d__law_right ((P_is_row T D).mono (by decide)) ((P_put_together T D).mono (by decide)) ((P_turned_row T D).mono (by decide)) ((P_contrary_row T D).mono (by decide)) ((P_do_match T D).mono (by decide)) ((P_first_apart T D).mono (by decide)) ((P__law_take T D).mono (by decide)) ((P__law_mixed T D).mono (by decide)) ((P__law_same T D).mono (by decide)) ((P__law_together T D).mono (by decide)) ((P__law_heard T D).mono (by decide)) ((P__law_some T D).mono (by decide)) (fun _ _ => .inr rfl)
def g_law : Dl.Env → Out Cn := runB pb_law 2 (m_law g__law_box g__law_cells g__law_right)
theorem P_law {P : Program} {w : World} {K : PySem.W.Frag} {mg : Str → Option Value} {base : Heap} (T : Fx K mg) (D : Ds K mg) : Pr P w K mg base 17 "law" s_law [("script" : Str)] g_law := p_law (kk := 16) T D.d_law ((P__law_box T D).mono (by decide)) ((P__law_cells T D).mono (by decide)) ((P__law_right T D).mono (by decide)) (fun _ _ => .inr rfl)
/-- the law for plain Lean -/
def LawTrue : Prop := ∀ ns : List Int, ns.length ≤ 63 → (∀ z ∈ ns, Builtin.Int.intBits z ≤ 1048576) → ∃ e, g_law [some (.ro (ns.map PyData.int))] = .ok (.val (.bool true)) e
theorem all_mk (hl : LawTrue) {w : World} {K : PySem.W.Frag} {h : Heap} {mg : Str → Option Value} {fa : Addr} (KX : K.In h) (G : h.Ns mainGlobals mg) (hfa : mg "law" = some (.ref fa))
    {f0 : Addr} {oc0 kV0 dc0 pm0 cd0 ct0 : Value} {od0 an0 : Option Addr} {sl0 : Array (Option Value)} (a0 : PySem.W.nsIn K mainGlobals "is_number" = some (some (.ref f0))) (l0 : K.lookup f0 = some ⟨oc0, od0, .func (PySem.W.fnOf "is_number" "is_number" (defArgs s_is_number) (defBody s_is_number) (defScope s_is_number) .none kV0 dc0 pm0 an0 cd0 ct0), sl0⟩) (c0 : PySem.W.codeIn K cd0 "is_number" = true) (k0 : PySem.W.keepIn K (.ref f0) = true)
    {f1 : Addr} {oc1 kV1 dc1 pm1 cd1 ct1 : Value} {od1 an1 : Option Addr} {sl1 : Array (Option Value)} (a1 : PySem.W.nsIn K mainGlobals "tupled" = some (some (.ref f1))) (l1 : K.lookup f1 = some ⟨oc1, od1, .func (PySem.W.fnOf "tupled" "tupled" (defArgs s_tupled) (defBody s_tupled) (defScope s_tupled) .none kV1 dc1 pm1 an1 cd1 ct1), sl1⟩) (c1 : PySem.W.codeIn K cd1 "tupled" = true) (k1 : PySem.W.keepIn K (.ref f1) = true)
    {f2 : Addr} {oc2 kV2 dc2 pm2 cd2 ct2 : Value} {od2 an2 : Option Addr} {sl2 : Array (Option Value)} (a2 : PySem.W.nsIn K mainGlobals "is_row" = some (some (.ref f2))) (l2 : K.lookup f2 = some ⟨oc2, od2, .func (PySem.W.fnOf "is_row" "is_row" (defArgs s_is_row) (defBody s_is_row) (defScope s_is_row) .none kV2 dc2 pm2 an2 cd2 ct2), sl2⟩) (c2 : PySem.W.codeIn K cd2 "is_row" = true) (k2 : PySem.W.keepIn K (.ref f2) = true)
    {f3 : Addr} {oc3 kV3 dc3 pm3 cd3 ct3 : Value} {od3 an3 : Option Addr} {sl3 : Array (Option Value)} (a3 : PySem.W.nsIn K mainGlobals "sure_row" = some (some (.ref f3))) (l3 : K.lookup f3 = some ⟨oc3, od3, .func (PySem.W.fnOf "sure_row" "sure_row" (defArgs s_sure_row) (defBody s_sure_row) (defScope s_sure_row) .none kV3 dc3 pm3 an3 cd3 ct3), sl3⟩) (c3 : PySem.W.codeIn K cd3 "sure_row" = true) (k3 : PySem.W.keepIn K (.ref f3) = true)
    {f4 : Addr} {oc4 kV4 dc4 pm4 cd4 ct4 : Value} {od4 an4 : Option Addr} {sl4 : Array (Option Value)} (a4 : PySem.W.nsIn K mainGlobals "choose_row" = some (some (.ref f4))) (l4 : K.lookup f4 = some ⟨oc4, od4, .func (PySem.W.fnOf "choose_row" "choose_row" (defArgs s_choose_row) (defBody s_choose_row) (defScope s_choose_row) .none kV4 dc4 pm4 an4 cd4 ct4), sl4⟩) (c4 : PySem.W.codeIn K cd4 "choose_row" = true) (k4 : PySem.W.keepIn K (.ref f4) = true)
    {f5 : Addr} {oc5 kV5 dc5 pm5 cd5 ct5 : Value} {od5 an5 : Option Addr} {sl5 : Array (Option Value)} (a5 : PySem.W.nsIn K mainGlobals "spread" = some (some (.ref f5))) (l5 : K.lookup f5 = some ⟨oc5, od5, .func (PySem.W.fnOf "spread" "spread" (defArgs s_spread) (defBody s_spread) (defScope s_spread) .none kV5 dc5 pm5 an5 cd5 ct5), sl5⟩) (c5 : PySem.W.codeIn K cd5 "spread" = true) (k5 : PySem.W.keepIn K (.ref f5) = true)
    {f6 : Addr} {oc6 kV6 dc6 pm6 cd6 ct6 : Value} {od6 an6 : Option Addr} {sl6 : Array (Option Value)} (a6 : PySem.W.nsIn K mainGlobals "together_in" = some (some (.ref f6))) (l6 : K.lookup f6 = some ⟨oc6, od6, .func (PySem.W.fnOf "together_in" "together_in" (defArgs s_together_in) (defBody s_together_in) (defScope s_together_in) .none kV6 dc6 pm6 an6 cd6 ct6), sl6⟩) (c6 : PySem.W.codeIn K cd6 "together_in" = true) (k6 : PySem.W.keepIn K (.ref f6) = true)
    {f7 : Addr} {oc7 kV7 dc7 pm7 cd7 ct7 : Value} {od7 an7 : Option Addr} {sl7 : Array (Option Value)} (a7 : PySem.W.nsIn K mainGlobals "put_together" = some (some (.ref f7))) (l7 : K.lookup f7 = some ⟨oc7, od7, .func (PySem.W.fnOf "put_together" "put_together" (defArgs s_put_together) (defBody s_put_together) (defScope s_put_together) .none kV7 dc7 pm7 an7 cd7 ct7), sl7⟩) (c7 : PySem.W.codeIn K cd7 "put_together" = true) (k7 : PySem.W.keepIn K (.ref f7) = true)
    {f8 : Addr} {oc8 kV8 dc8 pm8 cd8 ct8 : Value} {od8 an8 : Option Addr} {sl8 : Array (Option Value)} (a8 : PySem.W.nsIn K mainGlobals "signed" = some (some (.ref f8))) (l8 : K.lookup f8 = some ⟨oc8, od8, .func (PySem.W.fnOf "signed" "signed" (defArgs s_signed) (defBody s_signed) (defScope s_signed) .none kV8 dc8 pm8 an8 cd8 ct8), sl8⟩) (c8 : PySem.W.codeIn K cd8 "signed" = true) (k8 : PySem.W.keepIn K (.ref f8) = true)
    {f9 : Addr} {oc9 kV9 dc9 pm9 cd9 ct9 : Value} {od9 an9 : Option Addr} {sl9 : Array (Option Value)} (a9 : PySem.W.nsIn K mainGlobals "turned_row" = some (some (.ref f9))) (l9 : K.lookup f9 = some ⟨oc9, od9, .func (PySem.W.fnOf "turned_row" "turned_row" (defArgs s_turned_row) (defBody s_turned_row) (defScope s_turned_row) .none kV9 dc9 pm9 an9 cd9 ct9), sl9⟩) (c9 : PySem.W.codeIn K cd9 "turned_row" = true) (k9 : PySem.W.keepIn K (.ref f9) = true)
    {f10 : Addr} {oc10 kV10 dc10 pm10 cd10 ct10 : Value} {od10 an10 : Option Addr} {sl10 : Array (Option Value)} (a10 : PySem.W.nsIn K mainGlobals "contrary_row" = some (some (.ref f10))) (l10 : K.lookup f10 = some ⟨oc10, od10, .func (PySem.W.fnOf "contrary_row" "contrary_row" (defArgs s_contrary_row) (defBody s_contrary_row) (defScope s_contrary_row) .none kV10 dc10 pm10 an10 cd10 ct10), sl10⟩) (c10 : PySem.W.codeIn K cd10 "contrary_row" = true) (k10 : PySem.W.keepIn K (.ref f10) = true)
    {f11 : Addr} {oc11 kV11 dc11 pm11 cd11 ct11 : Value} {od11 an11 : Option Addr} {sl11 : Array (Option Value)} (a11 : PySem.W.nsIn K mainGlobals "first_unfit" = some (some (.ref f11))) (l11 : K.lookup f11 = some ⟨oc11, od11, .func (PySem.W.fnOf "first_unfit" "first_unfit" (defArgs s_first_unfit) (defBody s_first_unfit) (defScope s_first_unfit) .none kV11 dc11 pm11 an11 cd11 ct11), sl11⟩) (c11 : PySem.W.codeIn K cd11 "first_unfit" = true) (k11 : PySem.W.keepIn K (.ref f11) = true)
    {f12 : Addr} {oc12 kV12 dc12 pm12 cd12 ct12 : Value} {od12 an12 : Option Addr} {sl12 : Array (Option Value)} (a12 : PySem.W.nsIn K mainGlobals "do_match" = some (some (.ref f12))) (l12 : K.lookup f12 = some ⟨oc12, od12, .func (PySem.W.fnOf "do_match" "do_match" (defArgs s_do_match) (defBody s_do_match) (defScope s_do_match) .none kV12 dc12 pm12 an12 cd12 ct12), sl12⟩) (c12 : PySem.W.codeIn K cd12 "do_match" = true) (k12 : PySem.W.keepIn K (.ref f12) = true)
    {f13 : Addr} {oc13 kV13 dc13 pm13 cd13 ct13 : Value} {od13 an13 : Option Addr} {sl13 : Array (Option Value)} (a13 : PySem.W.nsIn K mainGlobals "first_apart" = some (some (.ref f13))) (l13 : K.lookup f13 = some ⟨oc13, od13, .func (PySem.W.fnOf "first_apart" "first_apart" (defArgs s_first_apart) (defBody s_first_apart) (defScope s_first_apart) .none kV13 dc13 pm13 an13 cd13 ct13), sl13⟩) (c13 : PySem.W.codeIn K cd13 "first_apart" = true) (k13 : PySem.W.keepIn K (.ref f13) = true)
    {f14 : Addr} {oc14 kV14 dc14 pm14 cd14 ct14 : Value} {od14 an14 : Option Addr} {sl14 : Array (Option Value)} (a14 : PySem.W.nsIn K mainGlobals "_law_box" = some (some (.ref f14))) (l14 : K.lookup f14 = some ⟨oc14, od14, .func (PySem.W.fnOf "_law_box" "_law_box" (defArgs s__law_box) (defBody s__law_box) (defScope s__law_box) .none kV14 dc14 pm14 an14 cd14 ct14), sl14⟩) (c14 : PySem.W.codeIn K cd14 "_law_box" = true) (k14 : PySem.W.keepIn K (.ref f14) = true)
    {f15 : Addr} {oc15 kV15 dc15 pm15 cd15 ct15 : Value} {od15 an15 : Option Addr} {sl15 : Array (Option Value)} (a15 : PySem.W.nsIn K mainGlobals "_law_take" = some (some (.ref f15))) (l15 : K.lookup f15 = some ⟨oc15, od15, .func (PySem.W.fnOf "_law_take" "_law_take" (defArgs s__law_take) (defBody s__law_take) (defScope s__law_take) .none kV15 dc15 pm15 an15 cd15 ct15), sl15⟩) (c15 : PySem.W.codeIn K cd15 "_law_take" = true) (k15 : PySem.W.keepIn K (.ref f15) = true)
    {f16 : Addr} {oc16 kV16 dc16 pm16 cd16 ct16 : Value} {od16 an16 : Option Addr} {sl16 : Array (Option Value)} (a16 : PySem.W.nsIn K mainGlobals "_law_cells" = some (some (.ref f16))) (l16 : K.lookup f16 = some ⟨oc16, od16, .func (PySem.W.fnOf "_law_cells" "_law_cells" (defArgs s__law_cells) (defBody s__law_cells) (defScope s__law_cells) .none kV16 dc16 pm16 an16 cd16 ct16), sl16⟩) (c16 : PySem.W.codeIn K cd16 "_law_cells" = true) (k16 : PySem.W.keepIn K (.ref f16) = true)
    {f17 : Addr} {oc17 kV17 dc17 pm17 cd17 ct17 : Value} {od17 an17 : Option Addr} {sl17 : Array (Option Value)} (a17 : PySem.W.nsIn K mainGlobals "_law_mixed" = some (some (.ref f17))) (l17 : K.lookup f17 = some ⟨oc17, od17, .func (PySem.W.fnOf "_law_mixed" "_law_mixed" (defArgs s__law_mixed) (defBody s__law_mixed) (defScope s__law_mixed) .none kV17 dc17 pm17 an17 cd17 ct17), sl17⟩) (c17 : PySem.W.codeIn K cd17 "_law_mixed" = true) (k17 : PySem.W.keepIn K (.ref f17) = true)
    {f18 : Addr} {oc18 kV18 dc18 pm18 cd18 ct18 : Value} {od18 an18 : Option Addr} {sl18 : Array (Option Value)} (a18 : PySem.W.nsIn K mainGlobals "_law_same" = some (some (.ref f18))) (l18 : K.lookup f18 = some ⟨oc18, od18, .func (PySem.W.fnOf "_law_same" "_law_same" (defArgs s__law_same) (defBody s__law_same) (defScope s__law_same) .none kV18 dc18 pm18 an18 cd18 ct18), sl18⟩) (c18 : PySem.W.codeIn K cd18 "_law_same" = true) (k18 : PySem.W.keepIn K (.ref f18) = true)
    {f19 : Addr} {oc19 kV19 dc19 pm19 cd19 ct19 : Value} {od19 an19 : Option Addr} {sl19 : Array (Option Value)} (a19 : PySem.W.nsIn K mainGlobals "_law_unmarked" = some (some (.ref f19))) (l19 : K.lookup f19 = some ⟨oc19, od19, .func (PySem.W.fnOf "_law_unmarked" "_law_unmarked" (defArgs s__law_unmarked) (defBody s__law_unmarked) (defScope s__law_unmarked) .none kV19 dc19 pm19 an19 cd19 ct19), sl19⟩) (c19 : PySem.W.codeIn K cd19 "_law_unmarked" = true) (k19 : PySem.W.keepIn K (.ref f19) = true)
    {f20 : Addr} {oc20 kV20 dc20 pm20 cd20 ct20 : Value} {od20 an20 : Option Addr} {sl20 : Array (Option Value)} (a20 : PySem.W.nsIn K mainGlobals "_law_heaps" = some (some (.ref f20))) (l20 : K.lookup f20 = some ⟨oc20, od20, .func (PySem.W.fnOf "_law_heaps" "_law_heaps" (defArgs s__law_heaps) (defBody s__law_heaps) (defScope s__law_heaps) .none kV20 dc20 pm20 an20 cd20 ct20), sl20⟩) (c20 : PySem.W.codeIn K cd20 "_law_heaps" = true) (k20 : PySem.W.keepIn K (.ref f20) = true)
    {f21 : Addr} {oc21 kV21 dc21 pm21 cd21 ct21 : Value} {od21 an21 : Option Addr} {sl21 : Array (Option Value)} (a21 : PySem.W.nsIn K mainGlobals "_law_together" = some (some (.ref f21))) (l21 : K.lookup f21 = some ⟨oc21, od21, .func (PySem.W.fnOf "_law_together" "_law_together" (defArgs s__law_together) (defBody s__law_together) (defScope s__law_together) .none kV21 dc21 pm21 an21 cd21 ct21), sl21⟩) (c21 : PySem.W.codeIn K cd21 "_law_together" = true) (k21 : PySem.W.keepIn K (.ref f21) = true)
    {f22 : Addr} {oc22 kV22 dc22 pm22 cd22 ct22 : Value} {od22 an22 : Option Addr} {sl22 : Array (Option Value)} (a22 : PySem.W.nsIn K mainGlobals "_law_heard" = some (some (.ref f22))) (l22 : K.lookup f22 = some ⟨oc22, od22, .func (PySem.W.fnOf "_law_heard" "_law_heard" (defArgs s__law_heard) (defBody s__law_heard) (defScope s__law_heard) .none kV22 dc22 pm22 an22 cd22 ct22), sl22⟩) (c22 : PySem.W.codeIn K cd22 "_law_heard" = true) (k22 : PySem.W.keepIn K (.ref f22) = true)
    {f23 : Addr} {oc23 kV23 dc23 pm23 cd23 ct23 : Value} {od23 an23 : Option Addr} {sl23 : Array (Option Value)} (a23 : PySem.W.nsIn K mainGlobals "_law_some" = some (some (.ref f23))) (l23 : K.lookup f23 = some ⟨oc23, od23, .func (PySem.W.fnOf "_law_some" "_law_some" (defArgs s__law_some) (defBody s__law_some) (defScope s__law_some) .none kV23 dc23 pm23 an23 cd23 ct23), sl23⟩) (c23 : PySem.W.codeIn K cd23 "_law_some" = true) (k23 : PySem.W.keepIn K (.ref f23) = true)
    {f24 : Addr} {oc24 kV24 dc24 pm24 cd24 ct24 : Value} {od24 an24 : Option Addr} {sl24 : Array (Option Value)} (a24 : PySem.W.nsIn K mainGlobals "_law_right" = some (some (.ref f24))) (l24 : K.lookup f24 = some ⟨oc24, od24, .func (PySem.W.fnOf "_law_right" "_law_right" (defArgs s__law_right) (defBody s__law_right) (defScope s__law_right) .none kV24 dc24 pm24 an24 cd24 ct24), sl24⟩) (c24 : PySem.W.codeIn K cd24 "_law_right" = true) (k24 : PySem.W.keepIn K (.ref f24) = true)
    {f25 : Addr} {oc25 kV25 dc25 pm25 cd25 ct25 : Value} {od25 an25 : Option Addr} {sl25 : Array (Option Value)} (a25 : PySem.W.nsIn K mainGlobals "law" = some (some (.ref f25))) (l25 : K.lookup f25 = some ⟨oc25, od25, .func (PySem.W.fnOf "law" "law" (defArgs s_law) (defBody s_law) (defScope s_law) .none kV25 dc25 pm25 an25 cd25 ct25), sl25⟩) (c25 : PySem.W.codeIn K cd25 "law" = true) (k25 : PySem.W.keepIn K (.ref f25) = true)
    (z_ValueError : PySem.W.nsIn K mainGlobals "ValueError" = some none)
    (z_abs : PySem.W.nsIn K mainGlobals "abs" = some none)
    (z_all : PySem.W.nsIn K mainGlobals "all" = some none)
    (z_bool : PySem.W.nsIn K mainGlobals "bool" = some none)
    (z_enumerate : PySem.W.nsIn K mainGlobals "enumerate" = some none)
    (z_int : PySem.W.nsIn K mainGlobals "int" = some none)
    (z_isinstance : PySem.W.nsIn K mainGlobals "isinstance" = some none)
    (z_len : PySem.W.nsIn K mainGlobals "len" = some none)
    (z_list : PySem.W.nsIn K mainGlobals "list" = some none)
    (z_min : PySem.W.nsIn K mainGlobals "min" = some none)
    (z_range : PySem.W.nsIn K mainGlobals "range" = some none)
    (z_str : PySem.W.nsIn K mainGlobals "str" = some none)
    (z_sum : PySem.W.nsIn K mainGlobals "sum" = some none)
    (z_tuple : PySem.W.nsIn K mainGlobals "tuple" = some none)
    (z_zip : PySem.W.nsIn K mainGlobals "zip" = some none)
    {t_MOST_ROW : Tok} (v_MOST_ROW : PySem.W.nsIn K mainGlobals "MOST_ROW" = some (some (.int 40 t_MOST_ROW)))
    {CCanNot : Addr} (xa_CanNot : PySem.W.nsIn K mainGlobals "CanNot" = some (some (.ref CCanNot))) (xx_CanNot : PySem.W.excIn K CCanNot [.type "ValueError", .type "Exception", .type "BaseException", .type "object"] "ValueError.__new__" = true) (xk_CanNot : PySem.W.keepIn K (.ref CCanNot) = true) (xb_CanNot : PySem.W.subIn K (.ref CCanNot) (.type "BaseException") = some true) (xt_CanNot : PySem.W.typeIn K (.ref CCanNot) = some (.type "type"))
    (hg_CanNot : PySem.W.findIn K (.ref CCanNot) "__getattribute__" = some (some (.builtin "BaseException.__getattribute__"))) (hk_CanNot : PySem.W.findIn K (.ref CCanNot) "__getattr__" = some none) (hd_CanNot : PySem.W.hasDictIn K CCanNot = true) (ha_CanNot : PySem.W.findIn K (.ref CCanNot) "__class__" = some (some (.builtin "object.__class__"))) (hn_CanNot : PySem.W.specialIn K (.builtin "object.__class__") "__get__" = some (some (.builtin "getset_descriptor.__get__"))) (ht_CanNot : PySem.W.takesIn K (.builtin "object.__class__") = some true) (hm_CanNot : PySem.W.mroIn K CCanNot (.type "object") = some true) (hs_CanNot : PySem.W.subIn K (.ref CCanNot) (.ref CCanNot) = some true) (hv_CanNot : PySem.W.subIn K (.ref CCanNot) (.type "ValueError") = some true)
    {CUnfit : Addr} (xa_Unfit : PySem.W.nsIn K mainGlobals "Unfit" = some (some (.ref CUnfit))) (xx_Unfit : PySem.W.excIn K CUnfit [.type "ValueError", .type "Exception", .type "BaseException", .type "object"] "ValueError.__new__" = true) (xk_Unfit : PySem.W.keepIn K (.ref CUnfit) = true) (xb_Unfit : PySem.W.subIn K (.ref CUnfit) (.type "BaseException") = some true) (xt_Unfit : PySem.W.typeIn K (.ref CUnfit) = some (.type "type")) :
    ∃ fd : FuncData, (∀ (s : Shared) (v : Value), BindsTo s fd ⟨[v], []⟩ [("script", v)]) ∧ ∀ base : Heap, K.In base → base.Ns mainGlobals mg → FnOk PySem.Challenge.pw_boughrules_k12_main_rows_put_together w K mg base (L2.CX PySem.Challenge.pw_boughrules_k12_main_rows_put_together w) 17 fa fd ["script"] (spLaw K) := by
  have T : Fx K mg := ⟨PySem.W.mg_none_of KX G z_ValueError, PySem.W.mg_none_of KX G z_abs, PySem.W.mg_none_of KX G z_all, PySem.W.mg_none_of KX G z_bool, PySem.W.mg_none_of KX G z_enumerate, PySem.W.mg_none_of KX G z_int, PySem.W.mg_none_of KX G z_isinstance, PySem.W.mg_none_of KX G z_len, PySem.W.mg_none_of KX G z_list, PySem.W.mg_none_of KX G z_min, PySem.W.mg_none_of KX G z_range, PySem.W.mg_none_of KX G z_str, PySem.W.mg_none_of KX G z_sum, PySem.W.mg_none_of KX G z_tuple, PySem.W.mg_none_of KX G z_zip, ⟨t_MOST_ROW, PySem.W.mg_of KX G v_MOST_ROW⟩, ⟨CCanNot, ⟨xx_CanNot, xk_CanNot, xb_CanNot, xt_CanNot⟩, PySem.W.mg_of KX G xa_CanNot, ⟨⟨hg_CanNot, hk_CanNot, xb_CanNot, hd_CanNot, ha_CanNot, hn_CanNot, ht_CanNot, hm_CanNot⟩, hs_CanNot, kit_VE hv_CanNot⟩⟩, ⟨CUnfit, ⟨xx_Unfit, xk_Unfit, xb_Unfit, xt_Unfit⟩, PySem.W.mg_of KX G xa_Unfit⟩⟩
  have D : Ds K mg := ⟨df_mk KX G a0 l0 c0 k0 fun _ _ _ _ _ _ us hl => match us, hl with | [_], _ => rfl,
    df_mk KX G a1 l1 c1 k1 fun _ _ _ _ _ _ us hl => match us, hl with | [_], _ => rfl,
    df_mk KX G a2 l2 c2 k2 fun _ _ _ _ _ _ us hl => match us, hl with | [_], _ => rfl,
    df_mk KX G a3 l3 c3 k3 fun _ _ _ _ _ _ us hl => match us, hl with | [_], _ => rfl,
    df_mk KX G a4 l4 c4 k4 fun _ _ _ _ _ _ us hl => match us, hl with | [_], _ => rfl,
    df_mk KX G a5 l5 c5 k5 fun _ _ _ _ _ _ us hl => match us, hl with | [_, _], _ => rfl,
    df_mk KX G a6 l6 c6 k6 fun _ _ _ _ _ _ us hl => match us, hl with | [_, _, _], _ => rfl,
    df_mk KX G a7 l7 c7 k7 fun _ _ _ _ _ _ us hl => match us, hl with | [_, _], _ => rfl,
    df_mk KX G a8 l8 c8 k8 fun _ _ _ _ _ _ us hl => match us, hl with | [_], _ => rfl,
    df_mk KX G a9 l9 c9 k9 fun _ _ _ _ _ _ us hl => match us, hl with | [_], _ => rfl,
    df_mk KX G a10 l10 c10 k10 fun _ _ _ _ _ _ us hl => match us, hl with | [_], _ => rfl,
    df_mk KX G a11 l11 c11 k11 fun _ _ _ _ _ _ us hl => match us, hl with | [_, _], _ => rfl,
    df_mk KX G a12 l12 c12 k12 fun _ _ _ _ _ _ us hl => match us, hl with | [_, _], _ => rfl,
    df_mk KX G a13 l13 c13 k13 fun _ _ _ _ _ _ us hl => match us, hl with | [_, _], _ => rfl,
    df_mk KX G a14 l14 c14 k14 fun _ _ _ _ _ _ us hl => match us, hl with | [_, _], _ => rfl,
    df_mk KX G a15 l15 c15 k15 fun _ _ _ _ _ _ us hl => match us, hl with | [_, _], _ => rfl,
    df_mk KX G a16 l16 c16 k16 fun _ _ _ _ _ _ us hl => match us, hl with | [_, _], _ => rfl,
    df_mk KX G a17 l17 c17 k17 fun _ _ _ _ _ _ us hl => match us, hl with | [_, _], _ => rfl,
    df_mk KX G a18 l18 c18 k18 fun _ _ _ _ _ _ us hl => match us, hl with | [_, _], _ => rfl,
    df_mk KX G a19 l19 c19 k19 fun _ _ _ _ _ _ us hl => match us, hl with | [_], _ => rfl,
    df_mk KX G a20 l20 c20 k20 fun _ _ _ _ _ _ us hl => match us, hl with | [_], _ => rfl,
    df_mk KX G a21 l21 c21 k21 fun _ _ _ _ _ _ us hl => match us, hl with | [_, _], _ => rfl,
    df_mk KX G a22 l22 c22 k22 fun _ _ _ _ _ _ us hl => match us, hl with | [_], _ => rfl,
    df_mk KX G a23 l23 c23 k23 fun _ _ _ _ _ _ us hl => match us, hl with | [_, _], _ => rfl,
    df_mk KX G a24 l24 c24 k24 fun _ _ _ _ _ _ us hl => match us, hl with | [_], _ => rfl,
    df_mk KX G a25 l25 c25 k25 fun _ _ _ _ _ _ us hl => match us, hl with | [_], _ => rfl⟩
  refine ⟨PySem.W.fnOf "law" "law" (defArgs s_law) (defBody s_law) (defScope s_law) .none kV25 dc25 pm25 an25 cd25 ct25, fun s v => .of_eq rfl, fun base _ _ => law_end hfa (P_law T D) hl fun f fd' Fu gm => ?_⟩
  rw [PySem.W.mg_of KX G a25] at gm
  cases gm
  obtain ⟨oc, od, kV, doc, pm, an, cdv, ct, osl, rfl, lk, hcd⟩ := Fu.ex
  rw [l25] at lk
  cases lk
  rfl
end
end K12

namespace K12
open PySem PySem.Spec PyProof.Rows L2 Dl
/-! ### rows of Pascal's numbers -/
def rowC (m : Nat) : D := .list ((List.range (m + 1)).map fun k => .int (Sq.ch m k))
theorem rowC_s (m : Nat) : [PyData.int 1] ++ (List.range m).map (fun k => PyData.int (Sq.ch m k + Sq.ch m (k + 1))) ++ [PyData.int 1] = (List.range (m + 2)).map fun k => PyData.int (Sq.ch (m + 1) k) := by
  rw [List.range_succ, List.map_append, List.range_succ_eq_map, List.map_cons, List.map_map]
  show _ = (PyData.int 1 :: _) ++ [PyData.int (Sq.ch m m + Sq.ch m (m + 1))]
  rw [Sq.ch_self, Sq.ch_over m (m + 1) (by omega)]
  rfl
theorem rowC_at (m : Nat) (z : Int) (k : Nat) (hz : z = (k : Nat)) (hk : k ≤ m) : atI ((List.range (m + 1)).map fun k => PyData.int (Sq.ch m k)) z = some (.int (Sq.ch m k)) := by
  subst hz
  refine atI_ok _ _ (Int.natCast_nonneg k) _ ?_
  rw [Int.toNat_natCast, List.getElem?_map, List.getElem?_range (by omega)] <;> rfl
def ec (m i : Nat) (x2 x3 x4 : Option Cn) : Dl.Env := [some (.val (.int (m : Nat))), some (.ls ((List.range (i + 1)).map rowC)), x2, x3, x4]
noncomputable def bodyC : MS := xSeq (xSet 3 (xBinV dIdx 1 (xUn dNeg (xk (.int 1))))) (xSeq (xEx (xMu mAppend 1 (xCons (xBin dAdd (xBin dAdd (xFz (xLst (xCons (xk (.int 1)) (xNil)))) (xFz (xLc [4] (xRng1 (xBinV dSub 2 (xk (.int 1)))) (gNm 4) (xYes) (xBin dAdd (xBinV dIdx 3 (xp 4)) (xBinV dIdx 3 (xBinV dAdd 4 (xk (.int 1)))))))) (xFz (xLst (xCons (xk (.int 1)) (xNil))))) (xNil)))) (xNx))
theorem bodyC_ok (m i : Nat) (hi : i < 1000) (x3 : Option Cn) : bodyC (ec m i (some (.val (.int (1 + (i : Nat))))) x3 none) = .ok .nx (ec m (i + 1) (some (.val (.int (1 + (i : Nat))))) (some (.val (rowC i))) none) := by
  have hlast : atI ((List.range (i + 1)).map rowC) (-1) = some (rowC i) := atI_neg1 _ _ (by rw [List.range_succ, List.map_append]; simp)
  have hr : ∀ e, kR1 (.int (1 + (i : Nat) - 1)) e = .ok (rangeD 0 i) e := fun e => by
    rw [kR1_i _ _ (by omega), show (1 + (i : Int) - 1).toNat = i by omega]
  have hc := kLc_range (own := [4]) (tg := gNm 4) (mc := xYes) (me := xBin dAdd (xBinV dIdx 3 (xp 4)) (xBinV dIdx 3 (xBinV dAdd 4 (xk (.int 1))))) (e1 := ec m i (some (.val (.int (1 + (i : Nat))))) (some (.val (rowC i))) none)
    (fun k => .int (Sq.ch i k + Sq.ch i (k + 1))) 0 i (by omega) (fun k hk => ⟨ec m i (some (.val (.int (1 + (i : Nat))))) (some (.val (rowC i))) (some (.val (.int (0 + (k : Nat))))), _, ec m i (some (.val (.int (1 + (i : Nat))))) (some (.val (rowC i))) (some (.val (.int (0 + (k : Nat))))), rfl, rfl, by
      have h1 := rowC_at i (0 + (k : Nat)) k (by omega) (by omega)
      have h2 := rowC_at i (0 + (k : Nat) + 1) (k + 1) (by omega) (by omega)
      simp only [Int.zero_add] at h1 h2
      simp [ec, rowC, h1, h2], rfl⟩)
  have ha : dAdd (.list [.int 1]) (.list ((List.range i).map fun k => .int (Sq.ch i k + Sq.ch i (k + 1)))) = some (.list (.int 1 :: (List.range i).map fun k => .int (Sq.ch i k + Sq.ch i (k + 1)))) := dAdd_l _ _ (le_cap (by simp; omega))
  have hb : dAdd (.list (.int 1 :: (List.range i).map fun k => .int (Sq.ch i k + Sq.ch i (k + 1)))) (.list [.int 1]) = some (rowC (i + 1)) := by
    rw [dAdd_l _ _ (le_cap (by simp; omega))]
    have := rowC_s i
    rw [show (PyData.int 1 :: (List.range i).map fun k => PyData.int (Sq.ch i k + Sq.ch i (k + 1))) ++ [PyData.int 1] = (List.range (i + 2)).map fun k => PyData.int (Sq.ch (i + 1) k) from this]
    rfl
  have hm2 : mAppend ((List.range (i + 1)).map rowC) [rowC (i + 1)] = some (.none, (List.range (i + 1 + 1)).map rowC) := by
    rw [mAppend_ev _ _ (lt_cap (by simp; omega)), List.range_succ (n := i + 1), List.map_append] <;> rfl
  simp only [ec] at hc
  simp [bodyC, ec, hlast, hr, hc, ha, hb, hm2]
theorem ev_choose_row (m : Nat) (hm : m ≤ 1000) : g_choose_row [some (.val (.int (m : Nat)))] = .ok (.val (.list ((List.range (m + 1)).map rowC))) [none] := by
  obtain ⟨e', h1, x2, x3, rfl⟩ := forGo_range (g := gNm 2) (mb := bodyC) (fun i e => ∃ x2 x3, e = ec m i x2 x3 none) 1 m (fun i hi e he => by
    obtain ⟨x2, x3, rfl⟩ := he
    exact ⟨_, _, rfl, bodyC_ok m i (by omega) x3, _, _, rfl⟩) (ec m 0 none none none) ⟨none, none, rfl⟩
  have hr : ∀ e, kR22 (.int 1) (.int ((m : Nat) + 1)) e = .ok (rangeD 1 m) e := fun e => by
    rw [kR22_i _ _ _ (by omega), show ((m : Int) + 1 - 1).toNat = m by omega]
  have h2 : forGo (gNm 2) bodyC (rangeD 1 m) [some (.val (.int (m : Nat))), some (.ls [.list [.int 1]]), none, none, none] = .ok .nx (ec m m x2 x3 none) := h1
  unfold bodyC at h2
  simp [g_choose_row, runB, m_choose_row, pb_choose_row, endE, hr, h2, ec]

/-! ### the parts of a row -/
def sq (xs : List Int) : Sq.S := fun n => if n = 0 then 0 else xs.getD (n - 1) 0
theorem sq_s (xs : List Int) (n : Nat) : sq xs (n + 1) = xs.getD n 0 := rfl
theorem sq_get {xs : List Int} {n : Nat} (h : n < xs.length) : xs[n]? = some (sq xs (n + 1)) := by
  rw [sq_s, List.getD_eq_getElem?_getD, List.getElem?_eq_getElem h] <;> rfl
abbrev bits (i : Int) : Nat := Builtin.Int.intBits i
theorem bits_ch (n k : Nat) (h : n ≤ 1000) : bits (Sq.ch n k) ≤ 1001 := by
  refine intBits_le_iff.mpr ?_
  have h1 := Sq.ch_le n k
  have h2 := Sq.ch_nn n k
  have h3 : (2 : Nat) ^ n ≤ 2 ^ 1000 := Nat.pow_le_pow_right (by decide) h
  have h4 : (2 : Nat) ^ 1000 < 2 ^ 1001 := Nat.pow_lt_pow_right (by decide) (by decide)
  have h5 : ((2 ^ n : Nat) : Int) = (2 : Int) ^ n := by rw [Int.natCast_pow]; rfl
  omega
def rowP (h : Sq.S) (m k : Nat) : D := .list ((List.range (m + 1)).map fun n => .int (Sq.P h k n))
theorem rowM_at (F : Nat → Int) (m : Nat) (z : Int) (k : Nat) (hz : z = (k : Nat)) (hk : k ≤ m) : atI ((List.range (m + 1)).map fun k => PyData.int (F k)) z = some (.int (F k)) := by
  subst hz
  refine atI_ok _ _ (Int.natCast_nonneg k) _ ?_
  rw [Int.toNat_natCast, List.getElem?_map, List.getElem?_range (by omega)] <;> rfl
theorem range_at (G : Nat → D) (m : Nat) (z : Int) (k : Nat) (hz : z = (k : Nat)) (hk : k < m) : atI ((List.range m).map G) z = some (G k) := by
  subst hz
  refine atI_ok _ _ (Int.natCast_nonneg k) _ ?_
  rw [Int.toNat_natCast, List.getElem?_map, List.getElem?_range hk] <;> rfl
section
variable (ys : List Int) (m : Nat)
noncomputable def es (i : Nat) (x4 x5 x6 x7 x8 x9 : Option Cn) : Dl.Env := [some (.val (.tuple (rowI ys))), some (.val (.int (m : Nat))), some (.val (.list ((List.range (m + 1)).map rowC))), some (.ls ((List.range (i + 1)).map (rowP (sq ys) m))), x4, x5, x6, x7, x8, x9]
noncomputable def bodyS3 : MS := xSeq (xSet 8 (xBinV dAdd 8 (xBin dMul (xBin dMul (xBin dIdx (xBinV dIdx 2 (xBinV dSub 7 (xk (.int 1)))) (xBinV dSub 9 (xk (.int 1)))) (xBinV dIdx 0 (xBinV dSub 9 (xk (.int 1))))) (xBinV dIdx 5 (xBinV dSub 7 (xp 9))))))
    (xNx)
noncomputable def tot (i n t : Nat) : Int := Sq.sm (fun s => Sq.ch n s * Sq.d (sq ys) s * Sq.P (sq ys) i (n - s)) t
theorem bodyS3_ok (hm : m ≤ 1000) (hl : m ≤ ys.length) (hy : ∀ y ∈ ys, bits y ≤ 1000000) (hP : ∀ k n, k ≤ m → n ≤ m → bits (Sq.P (sq ys) k n) ≤ 1000000) (i n t : Nat) (hi : i ≤ m) (hn : n < m) (ht : t ≤ n) (x4 x6 : Option Cn) :
    bodyS3 (es ys m i x4 (some (.val (rowP (sq ys) m i))) x6 (some (.val (.int (1 + (n : Nat))))) (some (.val (.int (tot ys i n t)))) (some (.val (.int (1 + (t : Nat)))))) =
      .ok .nx (es ys m i x4 (some (.val (rowP (sq ys) m i))) x6 (some (.val (.int (1 + (n : Nat))))) (some (.val (.int (tot ys i n (t + 1))))) (some (.val (.int (1 + (t : Nat)))))) := by
  have a1 : atI ((List.range (m + 1)).map rowC) (1 + (n : Int) - 1) = some (rowC n) := range_at rowC (m + 1) _ n (by omega) (by omega)
  have a2 : atI ((List.range (n + 1)).map fun k => PyData.int (Sq.ch n k)) (1 + (t : Int) - 1) = some (.int (Sq.ch n t)) := rowM_at _ n _ t (by omega) ht
  have a3 : atI (rowI ys) (1 + (t : Int) - 1) = some (.int (sq ys (t + 1))) := rowI_at (i := t) (by omega) (sq_get (by omega))
  have a4 : atI ((List.range (m + 1)).map fun k => PyData.int (Sq.P (sq ys) i k)) (1 + (n : Int) - (1 + (t : Int))) = some (.int (Sq.P (sq ys) i (n - t))) := rowM_at _ m _ (n - t) (by omega) (by omega)
  have b1 := bits_ch n t (by omega)
  have b2 : bits (sq ys (t + 1)) ≤ 1000000 := hy _ (List.mem_of_getElem? (sq_get (by omega)))
  have b3 := intBits_mul_le b1 b2
  have b4 := hP i (n - t) hi (by omega)
  have c1 : dMul (.int (Sq.ch n t)) (.int (sq ys (t + 1))) = some (.int (Sq.ch n t * sq ys (t + 1))) := dMul_i _ _ (Nat.le_trans b1 (by decide)) (Nat.le_trans b2 (by decide))
  have c2 : dMul (.int (Sq.ch n t * sq ys (t + 1))) (.int (Sq.P (sq ys) i (n - t))) = some (.int (Sq.ch n t * sq ys (t + 1) * Sq.P (sq ys) i (n - t))) := dMul_i _ _ (Nat.le_trans b3 (by decide)) (Nat.le_trans b4 (by decide))
  have c3 : tot ys i n t + Sq.ch n t * sq ys (t + 1) * Sq.P (sq ys) i (n - t) = tot ys i n (t + 1) := rfl
  simp [bodyS3, es, a1, rowC, a2, a3, rowP, a4, c1, c2, c3]
noncomputable def bodyS2 : MS := xSeq (xSet 8 (xk (.int 0)))
    (xSeq (xFor (xRng2 (xk (.int 1)) (xBinV dAdd 7 (xk (.int 1)))) (gNm 9) bodyS3)
    (xSeq (xSub 6 (xfr 8) (xfr 7))
    (xNx)))
noncomputable def lat (i j : Nat) : List D := (List.range (m + 1)).map fun n => .int (if n < 1 + i + j then Sq.P (sq ys) (i + 1) n else 0)
theorem lat_set (i j : Nat) (h : 1 + i + j ≤ m) : (lat ys m i j).set (1 + i + j) (.int (Sq.P (sq ys) (i + 1) (1 + i + j))) = lat ys m i (j + 1) := by
  refine List.ext_getElem? fun k => ?_
  unfold lat
  by_cases hk : k < m + 1
  · rw [List.getElem?_set]
    rw [List.getElem?_map, List.getElem?_range hk, List.length_map, List.length_range, List.getElem?_map, List.getElem?_range hk]
    by_cases e : 1 + i + j = k
    · subst e
      rw [if_pos rfl, if_pos (by omega)]
      show some (PyData.int _) = some (PyData.int _)
      rw [if_pos (by omega)]
    · rw [if_neg e]
      show some (PyData.int _) = some (PyData.int _)
      by_cases h2 : k < 1 + i + j
      · rw [if_pos h2, if_pos (by omega)]
      · rw [if_neg h2, if_neg (by omega)]
  · rw [List.getElem?_eq_none (by rw [List.length_set, List.length_map, List.length_range]; omega), List.getElem?_eq_none (by rw [List.length_map, List.length_range]; omega)]
theorem bodyS2_ok (hm : m ≤ 1000) (hl : m ≤ ys.length) (hy : ∀ y ∈ ys, bits y ≤ 1000000) (hP : ∀ k n, k ≤ m → n ≤ m → bits (Sq.P (sq ys) k n) ≤ 1000000) (i j : Nat) (hi : i + j < m) (x4 x8 x9 : Option Cn) :
    ∃ x8' x9', bodyS2 (es ys m i x4 (some (.val (rowP (sq ys) m i))) (some (.ls (lat ys m i j))) (some (.val (.int (1 + (i : Int) + (j : Nat))))) x8 x9) =
      .ok .nx (es ys m i x4 (some (.val (rowP (sq ys) m i))) (some (.ls (lat ys m i (j + 1)))) (some (.val (.int (1 + (i : Int) + (j : Nat))))) x8' x9') := by
  have en : (1 + (i : Int) + (j : Nat)) = 1 + ((i + j : Nat) : Int) := by omega
  rw [en]
  obtain ⟨e', h1, x9', he⟩ := forGo_range (g := gNm 9) (mb := bodyS3) (fun t e => ∃ x9, e = es ys m i x4 (some (.val (rowP (sq ys) m i))) (some (.ls (lat ys m i j))) (some (.val (.int (1 + ((i + j : Nat) : Int))))) (some (.val (.int (tot ys i (i + j) t)))) x9) 1 (i + j + 1) (fun t ht e he => by
    obtain ⟨x9, rfl⟩ := he
    exact ⟨_, _, rfl, bodyS3_ok ys m hm hl hy hP i (i + j) t (by omega) (by omega) (by omega) x4 _, _, rfl⟩)
    (es ys m i x4 (some (.val (rowP (sq ys) m i))) (some (.ls (lat ys m i j))) (some (.val (.int (1 + ((i + j : Nat) : Int))))) (some (.val (.int (tot ys i (i + j) 0)))) x9) ⟨x9, rfl⟩
  subst he
  have hr : ∀ e, kR22 (.int 1) (.int (1 + ((i + j : Nat) : Int) + 1)) e = .ok (rangeD 1 (i + j + 1)) e := fun e => by
    rw [kR22_i _ _ _ (by omega), show ((1 + ((i + j : Nat) : Int) + 1) - 1).toNat = i + j + 1 by omega]
  have hx : dIx (lat ys m i j).length (.int (1 + ((i + j : Nat) : Int))) = some (1 + i + j) := by
    rw [dIx_int _ _ (by omega) (by unfold lat; rw [List.length_map, List.length_range]; omega)]
    congr 1
    omega
  have ht : tot ys i (i + j) (i + j + 1) = Sq.P (sq ys) (i + 1) (1 + i + j) := by
    rw [show 1 + i + j = i + j + 1 by omega]
    rfl
  have h0 : tot ys i (i + j) 0 = 0 := rfl
  refine ⟨some (.val (.int (tot ys i (i + j) (i + j + 1)))), x9', ?_⟩
  rw [← lat_set ys m i j (by omega)]
  rw [h0] at h1
  simp only [es] at h1
  simp only [Int.natCast_add] at h1 hr hx ⊢
  simp [bodyS2, es, hr, h1, hx, ht]
noncomputable def bodyS1 : MS := xSeq (xPar 5 6 (aVal (xBinV dIdx 3 (xUn dNeg (xk (.int 1)))) (aNew (xBinN lMul (xFz (xLst (xCons (xk (.int 0)) (xNil)))) (xBinV dAdd 1 (xk (.int 1)))) (aNil))))
    (xSeq (xFor (xRng2 (xfr 4) (xBinV dAdd 1 (xk (.int 1)))) (gNm 7) bodyS2)
    (xSeq (xEx (xMu mAppend 3 (xCons (xfr 6) (xNil))))
    (xNx)))
theorem lat_0 (i : Nat) : List.replicate (m + 1) (PyData.int 0) = lat ys m i 0 := by
  unfold lat
  refine (List.ext_getElem? fun k => ?_)
  by_cases hk : k < m + 1
  · rw [List.getElem?_replicate, if_pos hk, List.getElem?_map, List.getElem?_range hk]
    show some (PyData.int 0) = some (PyData.int _)
    by_cases h : k < 1 + i + 0
    · rw [if_pos h, Sq.P_over _ _ _ (by omega)]
    · rw [if_neg h]
  · rw [List.getElem?_eq_none (by rw [List.length_replicate]; omega), List.getElem?_eq_none (by rw [List.length_map, List.length_range]; omega)]
theorem lat_end (i : Nat) (h : i < m) : PyData.list (lat ys m i (m - i)) = rowP (sq ys) m (i + 1) := by
  unfold lat rowP
  congr 1
  refine List.map_congr_left fun k hk => ?_
  have := List.mem_range.mp hk
  rw [if_pos (by omega)]
theorem bodyS1_ok (hm : m ≤ 1000) (hl : m ≤ ys.length) (hy : ∀ y ∈ ys, bits y ≤ 1000000) (hP : ∀ k n, k ≤ m → n ≤ m → bits (Sq.P (sq ys) k n) ≤ 1000000) (i : Nat) (hi : i < m) (x5 x6 x7 x8 x9 : Option Cn) :
    ∃ y4 y5 y6 y7 y8 y9, bodyS1 (es ys m i (some (.val (.int (1 + (i : Nat))))) x5 x6 x7 x8 x9) = .ok .nx (es ys m (i + 1) y4 y5 y6 y7 y8 y9) := by
  obtain ⟨e', h1, x7', x8', x9', he⟩ := forGo_range (g := gNm 7) (mb := bodyS2) (fun j e => ∃ x7 x8 x9, e = es ys m i (some (.val (.int (1 + (i : Nat))))) (some (.val (rowP (sq ys) m i))) (some (.ls (lat ys m i j))) x7 x8 x9) (1 + (i : Int)) (m - i) (fun j hj e he => by
    obtain ⟨x7, x8, x9, rfl⟩ := he
    obtain ⟨x8', x9', h⟩ := bodyS2_ok ys m hm hl hy hP i j (by omega) (some (.val (.int (1 + (i : Nat))))) x8 x9
    exact ⟨_, _, rfl, h, _, _, _, rfl⟩)
    (es ys m i (some (.val (.int (1 + (i : Nat))))) (some (.val (rowP (sq ys) m i))) (some (.ls (lat ys m i 0))) x7 x8 x9) ⟨x7, x8, x9, rfl⟩
  subst he
  have hr : ∀ e, kR22 (.int (1 + (i : Nat))) (.int ((m : Nat) + 1)) e = .ok (rangeD (1 + (i : Int)) (m - i)) e := fun e => by
    rw [kR22_i _ _ _ (by omega), show ((m : Int) + 1 - (1 + (i : Int))).toNat = m - i by omega]
  have hlast : atI ((List.range (i + 1)).map (rowP (sq ys) m)) (-1) = some (rowP (sq ys) m i) := atI_neg1 _ _ (by rw [List.range_succ, List.map_append]; simp)
  have hmul : lMul (.list [.int 0]) (.int ((m : Nat) + 1)) = some (lat ys m i 0) := by
    rw [lMul_l _ _ (by omega) (by omega), show ((m : Int) + 1).toNat = m + 1 by omega, lat_0 ys m i]
  have hap : mAppend ((List.range (i + 1)).map (rowP (sq ys) m)) [.list (lat ys m i (m - i))] = some (.none, (List.range (i + 1 + 1)).map (rowP (sq ys) m)) := by
    rw [mAppend_ev _ _ (lt_cap (by simp; omega)), lat_end ys m i hi, List.range_succ (n := i + 1), List.map_append] <;> rfl
  refine ⟨some (.val (.int (1 + (i : Nat)))), some (.val (rowP (sq ys) m i)), some (.val (.list (lat ys m i (m - i)))), x7', x8', x9', ?_⟩
  simp only [es] at h1
  simp [bodyS1, es, hr, h1, hlast, hmul, hap]
theorem ev_spread (hm : m ≤ 1000) (hl : m ≤ ys.length) (hy : ∀ y ∈ ys, bits y ≤ 1000000) (hP : ∀ k n, k ≤ m → n ≤ m → bits (Sq.P (sq ys) k n) ≤ 1000000) :
    g_spread [some (.val (.tuple (rowI ys))), some (.val (.int (m : Nat)))] = .ok (.val (.list ((List.range (m + 1)).map (rowP (sq ys) m)))) [none, none] := by
  obtain ⟨e', h1, x4, x5, x6, x7, x8, x9, he⟩ := forGo_range (g := gNm 4) (mb := bodyS1) (fun i e => ∃ x4 x5 x6 x7 x8 x9, e = es ys m i x4 x5 x6 x7 x8 x9) 1 m (fun i hi e he => by
    obtain ⟨x4, x5, x6, x7, x8, x9, rfl⟩ := he
    obtain ⟨x4', x5', x6', x7', x8', x9', h⟩ := bodyS1_ok ys m hm hl hy hP i hi x5 x6 x7 x8 x9
    exact ⟨_, _, rfl, h, _, _, _, _, _, _, rfl⟩) (es ys m 0 none none none none none none) ⟨_, _, _, _, _, _, rfl⟩
  subst he
  have hr : ∀ e, kR22 (.int 1) (.int ((m : Nat) + 1)) e = .ok (rangeD 1 m) e := fun e => by
    rw [kR22_i _ _ _ (by omega), show ((m : Int) + 1 - 1).toNat = m by omega]
  have hmul : dMul (.list [.int 0]) (.int (m : Nat)) = some (.list (List.replicate m (.int 0))) := by
    rw [dMul_l _ _ (by omega) (by omega), Int.toNat_natCast]
  have hadd : dAdd (.list [.int 1]) (.list (List.replicate m (.int 0))) = some (rowP (sq ys) m 0) := by
    rw [dAdd_l _ _ (le_cap (by simp; omega))]
    unfold rowP
    congr 2
    rw [List.range_succ_eq_map, List.map_cons, List.map_map]
    show PyData.int 1 :: List.replicate m (PyData.int 0) = PyData.int 1 :: _
    congr 1
    refine List.ext_getElem? fun k => ?_
    by_cases hk : k < m
    · rw [List.getElem?_replicate, if_pos hk, List.getElem?_map, List.getElem?_range hk]
      rfl
    · rw [List.getElem?_eq_none (by rw [List.length_replicate]; omega), List.getElem?_eq_none (by rw [List.length_map, List.length_range]; omega)]
  have hc := ev_choose_row m hm
  have h2 : forGo (gNm 4) bodyS1 (rangeD 1 m) [some (.val (.tuple (rowI ys))), some (.val (.int (m : Nat))), some (.val (.list ((List.range (m + 1)).map rowC))), some (.ls [rowP (sq ys) m 0]), none, none, none, none, none, none] = .ok .nx (es ys m m x4 x5 x6 x7 x8 x9) := h1
  unfold bodyS1 bodyS2 bodyS3 at h2
  simp only [es] at h2
  simp [g_spread, runB, m_spread, pb_spread, endE, hc, hmul, hadd, hr, h2]
end
end K12

namespace K12
open PySem PySem.Spec PyProof.Rows L2 Dl
theorem sum_sm (F : Nat → Int) : ∀ n, ((List.range n).map F).sum = Sq.sm F n
  | 0 => rfl
  | n + 1 => by
    rw [List.range_succ, List.map_append, List.sum_append, sum_sm F n]
    show Sq.sm F n + (F n + 0) = Sq.sm F n + F n
    omega
theorem dSum_sm (G : Nat → Int) (n : Nat) : dSum (.list ((List.range n).map fun t => PyData.int (G t))) = some (.int (Sq.sm G n)) := by
  have e : ((List.range n).map fun t => PyData.int (G t)) = ((List.range n).map G).map PyData.int := by rw [List.map_map]; rfl
  rw [e, dSum_l, sum_sm]
def tog (xs ys : List Int) (m : Nat) : List Int := (List.range m).map fun j => Sq.comp (sq xs) (sq ys) (j + 1)
theorem tog_length (xs ys : List Int) (m : Nat) : (tog xs ys m).length = m := by unfold tog; rw [List.length_map, List.length_range]
theorem comp_sm (xs ys : List Int) (n : Nat) : Sq.comp (sq xs) (sq ys) n = Sq.sm (fun t => sq xs (t + 1) * Sq.P (sq ys) (t + 1) n) n := by
  show Sq.sm _ (n + 1) = _
  rw [Sq.sm_first]
  show 0 * _ + _ = _
  rw [Int.zero_mul, Int.zero_add]
/-- small enough to be put in -/
structure Small (m : Nat) (xs ys : List Int) : Prop where
  hm : m ≤ 1000
  lx : m ≤ xs.length
  ly : m ≤ ys.length
  bx : ∀ x ∈ xs, bits x ≤ 1000000
  bY : ∀ y ∈ ys, bits y ≤ 1000000
  bP : ∀ k n, k ≤ m → n ≤ m → bits (Sq.P (sq ys) k n) ≤ 1000000
section
variable {m : Nat} {xs ys : List Int}
noncomputable def et (m : Nat) (xs ys : List Int) (x4 x5 : Option Cn) : Dl.Env := [some (.val (.tuple (rowI xs))), some (.val (.tuple (rowI ys))), some (.val (.int (m : Nat))), some (.val (.list ((List.range (m + 1)).map (rowP (sq ys) m)))), x4, x5]
theorem ev_together_in (S : Small m xs ys) : g_together_in [some (.val (.tuple (rowI xs))), some (.val (.tuple (rowI ys))), some (.val (.int (m : Nat)))] = .ok (.val (.tuple (rowI (tog xs ys m)))) [none, none, none] := by
  have hs := ev_spread ys m S.hm S.ly S.bY S.bP
  have hr : ∀ e, kR22 (.int 1) (.int ((m : Nat) + 1)) e = .ok (rangeD 1 m) e := fun e => by
    have := S.hm
    rw [kR22_i _ _ _ (by omega), show ((m : Int) + 1 - 1).toNat = m by omega]
  have hin : ∀ j, j < m → xUn dSum (xFz (xLc [4] (xRng2 (xk (.int 1)) (xBinV dAdd 5 (xk (.int 1)))) (gNm 4) xYes (xBin dMul (xBinV dIdx 0 (xBinV dSub 4 (xk (.int 1)))) (xBin dIdx (xBinV dIdx 3 (xp 4)) (xp 5))))) (et m xs ys none (some (.val (.int (1 + (j : Nat)))))) = .ok (.int (Sq.comp (sq xs) (sq ys) (j + 1))) (et m xs ys none (some (.val (.int (1 + (j : Nat)))))) := fun j hj => by
    have hm := S.hm
    have hr2 : ∀ e, kR22 (.int 1) (.int (1 + (j : Nat) + 1)) e = .ok (rangeD 1 (j + 1)) e := fun e => by
      rw [kR22_i _ _ _ (by omega), show (1 + (j : Int) + 1 - 1).toNat = j + 1 by omega]
    have hc := kLc_range (own := [4]) (tg := gNm 4) (mc := xYes) (me := xBin dMul (xBinV dIdx 0 (xBinV dSub 4 (xk (.int 1)))) (xBin dIdx (xBinV dIdx 3 (xp 4)) (xp 5))) (e1 := et m xs ys none (some (.val (.int (1 + (j : Nat))))))
      (fun t => .int (sq xs (t + 1) * Sq.P (sq ys) (t + 1) (j + 1))) 1 (j + 1) (by omega) (fun t ht => ⟨et m xs ys (some (.val (.int (1 + (t : Nat))))) (some (.val (.int (1 + (j : Nat))))), _, et m xs ys (some (.val (.int (1 + (t : Nat))))) (some (.val (.int (1 + (j : Nat))))), rfl, rfl, by
        have h1 : atI (rowI xs) (1 + (t : Int) - 1) = some (.int (sq xs (t + 1))) := rowI_at (i := t) (by omega) (sq_get (by have := S.lx; omega))
        have h2 : atI ((List.range (m + 1)).map (rowP (sq ys) m)) (1 + (t : Int)) = some (rowP (sq ys) m (t + 1)) := range_at _ (m + 1) _ (t + 1) (by omega) (by omega)
        have h3 : atI ((List.range (m + 1)).map fun n => PyData.int (Sq.P (sq ys) (t + 1) n)) (1 + (j : Int)) = some (.int (Sq.P (sq ys) (t + 1) (j + 1))) := rowM_at _ m _ (j + 1) (by omega) (by omega)
        have h4 : dMul (.int (sq xs (t + 1))) (.int (Sq.P (sq ys) (t + 1) (j + 1))) = some (.int (sq xs (t + 1) * Sq.P (sq ys) (t + 1) (j + 1))) :=
          dMul_i _ _ (Nat.le_trans (S.bx _ (List.mem_of_getElem? (sq_get (by have := S.lx; omega)))) (by decide)) (Nat.le_trans (S.bP _ _ (by omega) (by omega)) (by decide))
        simp [et, h1, h2, rowP, h3, h4], rfl⟩)
    have hd := dSum_sm (fun t => sq xs (t + 1) * Sq.P (sq ys) (t + 1) (j + 1)) (j + 1)
    rw [← comp_sm] at hd
    simp only [et] at hc
    simp [et, hr2, hc, hd]
  have hc2 := kLc_range (own := [5]) (tg := gNm 5) (mc := xYes) (me := xUn dSum (xFz (xLc [4] (xRng2 (xk (.int 1)) (xBinV dAdd 5 (xk (.int 1)))) (gNm 4) xYes (xBin dMul (xBinV dIdx 0 (xBinV dSub 4 (xk (.int 1)))) (xBin dIdx (xBinV dIdx 3 (xp 4)) (xp 5)))))) (e1 := et m xs ys none none)
    (fun j => .int (Sq.comp (sq xs) (sq ys) (j + 1))) 1 m (by have := S.hm; omega) (fun j hj => ⟨et m xs ys none (some (.val (.int (1 + (j : Nat))))), _, et m xs ys none (some (.val (.int (1 + (j : Nat))))), rfl, rfl, hin j hj, rfl⟩)
  have e : ((List.range m).map fun j => PyData.int (Sq.comp (sq xs) (sq ys) (j + 1))) = rowI (tog xs ys m) := by unfold tog rowI; rw [List.map_map]; rfl
  rw [e] at hc2
  simp only [et] at hc2
  simp [g_together_in, runB, m_together_in, pb_together_in, endE, hs, hr, hc2]
/-! ### whole rows -/
theorem ev_is_number (i : Int) : g_is_number [some (.val (.int i))] = .ok (.val (.bool true)) [none] := by
  simp [g_is_number, runB, m_is_number, pb_is_number, endE]
theorem ev_tupled0 (n : Nat) (i : Int) : gl_tupled (n + 1) [some (.val (.int i))] = .ok (.val (.int i)) [none] := by
  simp [gl_tupled, runB, m_tupled, pb_tupled, endE]
theorem gl_tupled_s (n : Nat) : gl_tupled (n + 1) = runB pb_tupled 1 (m_tupled (gl_tupled n)) := rfl
theorem tupled_go (xs : List Int) (hl : xs.length ≤ 1000) (n : Nat) (x0 : D) : kLc [1] (gNm 1) xYes (xFz (xCall 1 (gl_tupled (n + 1)) [none] (aVal (xfr 1) aNil))) (rowI xs) [some (.val x0), none] = .ok (.ls (rowI xs)) [some (.val x0), none] := by
  have hc := kLc_map (own := [1]) (tg := gNm 1) (mc := xYes) (me := xFz (xCall 1 (gl_tupled (n + 1)) [none] (aVal (xfr 1) aNil))) (e1 := [some (.val x0), none]) id (rowI xs) (by simp; omega) (fun d hd => by
    obtain ⟨i, _, rfl⟩ := List.mem_map.mp hd
    exact ⟨[some (.val x0), some (.val (.int i))], _, [some (.val x0), some (.val (.int i))], rfl, rfl, by simp [ev_tupled0], rfl⟩)
  rw [List.map_id] at hc
  simpa using hc
theorem ev_tupled_l (xs : List Int) (hl : xs.length ≤ 1000) (n : Nat) : gl_tupled (n + 2) [some (.val (.list (rowI xs)))] = .ok (.val (.tuple (rowI xs))) [none] := by
  rw [gl_tupled_s]
  simp [runB, m_tupled, pb_tupled, endE, tupled_go xs hl n]
theorem ev_tupled_t (xs : List Int) (hl : xs.length ≤ 1000) (n : Nat) : gl_tupled (n + 2) [some (.val (.tuple (rowI xs)))] = .ok (.val (.tuple (rowI xs))) [none] := by
  rw [gl_tupled_s]
  simp [runB, m_tupled, pb_tupled, endE, tupled_go xs hl n]
theorem is_row_go (xs : List Int) (hl : xs.length ≤ 1000) (x0 : D) : kLc [1] (gNm 1) xYes (xFz (xCall 1 g_is_number [none] (aVal (xfr 1) aNil))) (rowI xs) [some (.val x0), none] = .ok (.ls (List.replicate xs.length (.bool true))) [some (.val x0), none] := by
  have hc := kLc_map (own := [1]) (tg := gNm 1) (mc := xYes) (me := xFz (xCall 1 g_is_number [none] (aVal (xfr 1) aNil))) (e1 := [some (.val x0), none]) (fun _ => .bool true) (rowI xs) (by simp; omega) (fun d hd => by
    obtain ⟨i, _, rfl⟩ := List.mem_map.mp hd
    exact ⟨[some (.val x0), some (.val (.int i))], _, [some (.val x0), some (.val (.int i))], rfl, rfl, by simp [ev_is_number], rfl⟩)
  have e : (rowI xs).map (fun _ => PyData.bool true) = List.replicate xs.length (.bool true) := by
    rw [List.map_const']
    simp
  rw [e] at hc
  simpa using hc
theorem dAll_true (n : Nat) : dAll (.list (List.replicate n (.bool true))) = some (.bool true) := by
  have e : List.replicate n (PyData.bool true) = (List.replicate n true).map PyData.bool := by rw [List.map_replicate]
  rw [e, dAll_l]
  congr 2
  simp
theorem ev_is_row (xs : List Int) (h1 : 1 ≤ xs.length) (h40 : xs.length ≤ 40) : g_is_row [some (.val (.tuple (rowI xs)))] = .ok (.val (.bool true)) [none] := by
  have hg := is_row_go xs (by omega) (.tuple (rowI xs))
  have a : decide ((1 : Int) ≤ (xs.length : Nat)) = true := decide_eq_true (by omega)
  have b : decide (((xs.length : Nat) : Int) ≤ 40) = true := decide_eq_true (by omega)
  simp [g_is_row, runB, m_is_row, pb_is_row, endE, hg, a, b, dAll_true]
theorem ev_sure_t (xs : List Int) (h1 : 1 ≤ xs.length) (h40 : xs.length ≤ 40) : g_sure_row [some (.val (.tuple (rowI xs)))] = .ok (.val (.tuple (rowI xs))) [none] := by
  have ht : g_tupled [some (.val (.tuple (rowI xs)))] = .ok (.val (.tuple (rowI xs))) [none] := ev_tupled_t xs (by omega) 10
  have hr := ev_is_row xs h1 h40
  simp [g_sure_row, runB, m_sure_row, pb_sure_row, endE, ht, hr]
theorem ev_sure_l (xs : List Int) (h1 : 1 ≤ xs.length) (h40 : xs.length ≤ 40) : g_sure_row [some (.val (.list (rowI xs)))] = .ok (.val (.tuple (rowI xs))) [none] := by
  have ht : g_tupled [some (.val (.list (rowI xs)))] = .ok (.val (.tuple (rowI xs))) [none] := ev_tupled_l xs (by omega) 10
  have hr := ev_is_row xs h1 h40
  simp [g_sure_row, runB, m_sure_row, pb_sure_row, endE, ht, hr]
end
end K12

namespace K12
open PySem PySem.Spec PyProof.Rows L2 Dl
/-! ### equality of rows -/
theorem shaped_int (i : Int) : SeqAt.shaped (.int i) = true := by simp [SeqAt.shaped, PyData.canLay0, PyData.depth]
@[simp] theorem dEq_i (i j : Int) : dEq (.int i) (.int j) = some (.bool (i == j)) := by
  unfold dEq
  rw [if_pos ⟨shaped_int i, shaped_int j⟩, PyData.eqv]
@[simp] theorem dNe_i (i j : Int) : dNe (.int i) (.int j) = some (.bool (!(i == j))) := by
  unfold dNe
  rw [if_pos ⟨shaped_int i, shaped_int j⟩, PyData.eqv]
theorem lay_row : ∀ xs : List Int, PyData.canLayAll0 (rowI xs) = true
  | [] => by
    show PyData.canLayAll0 [] = true
    simp [PyData.canLayAll0]
  | x :: xs => by
    show PyData.canLayAll0 (PyData.int x :: rowI xs) = true
    simp [PyData.canLayAll0, PyData.canLay0, lay_row xs]
theorem depth_row : ∀ xs : List Int, PyData.depthAll (rowI xs) = 0
  | [] => by
    show PyData.depthAll [] = 0
    simp [PyData.depthAll]
  | x :: xs => by
    show PyData.depthAll (PyData.int x :: rowI xs) = 0
    simp [PyData.depthAll, PyData.depth, depth_row xs]
theorem shaped_row (xs : List Int) : SeqAt.shaped (.tuple (rowI xs)) = true := by
  simp [SeqAt.shaped, PyData.canLay0, PyData.depth, lay_row, depth_row]
theorem eqv_row : ∀ xs ys : List Int, PyData.eqvAll (rowI xs) (rowI ys) = decide (xs = ys)
  | [], [] => by
    show PyData.eqvAll [] [] = _
    simp [PyData.eqvAll]
  | [], y :: ys => by
    show PyData.eqvAll [] (PyData.int y :: rowI ys) = _
    simp [PyData.eqvAll]
  | x :: xs, [] => by
    show PyData.eqvAll (PyData.int x :: rowI xs) [] = _
    simp [PyData.eqvAll]
  | x :: xs, y :: ys => by
    show PyData.eqvAll (PyData.int x :: rowI xs) (PyData.int y :: rowI ys) = _
    rw [PyData.eqvAll, PyData.eqv, eqv_row xs ys]
    by_cases h : x = y <;> by_cases h2 : xs = ys <;> simp [h, h2]
theorem dNe_row (xs ys : List Int) : dNe (.tuple (rowI xs)) (.tuple (rowI ys)) = some (.bool (!decide (xs = ys))) := by
  unfold dNe
  rw [if_pos ⟨shaped_row xs, shaped_row ys⟩, PyData.eqv, eqv_row]
/-! ### signs -/
def sgnL (xs : List Int) : List Int := (List.range xs.length).map fun i => Sq.sgn (sq xs) (i + 1)
theorem sgnL_length (xs : List Int) : (sgnL xs).length = xs.length := by unfold sgnL; rw [List.length_map, List.length_range]
theorem sq_over {xs : List Int} {n : Nat} (h : xs.length < n) : sq xs n = 0 := by
  cases n with
  | zero => omega
  | succ n =>
    rw [sq_s, List.getD_eq_getElem?_getD, List.getElem?_eq_none (by omega)]
    rfl
theorem sq_map (F : Nat → Int) (m n : Nat) (hn : n < m) : sq ((List.range m).map F) (n + 1) = F n := by
  rw [sq_s, List.getD_eq_getElem?_getD, List.getElem?_map, List.getElem?_range hn]
  rfl
theorem sq_sgnL (xs : List Int) (n : Nat) : sq (sgnL xs) n = Sq.sgn (sq xs) n := by
  cases n with
  | zero => rfl
  | succ n =>
    by_cases h : n < xs.length
    · exact sq_map _ _ _ h
    · rw [sq_over (by rw [sgnL_length]; omega)]
      show 0 = -1 * (Sq.sg (n + 1) * sq xs (n + 1))
      rw [sq_over (by omega), Int.mul_zero, Int.mul_zero]
theorem sq_ext {xs ys : List Int} (hl : xs.length = ys.length) (h : ∀ n, n < xs.length → sq xs (n + 1) = sq ys (n + 1)) : xs = ys := by
  refine List.ext_getElem? fun i => ?_
  by_cases hi : i < xs.length
  · rw [sq_get hi, sq_get (by omega), h i hi]
  · rw [List.getElem?_eq_none (by omega), List.getElem?_eq_none (by omega)]
theorem sgnL_sgnL (xs : List Int) : sgnL (sgnL xs) = xs := by
  refine sq_ext (by rw [sgnL_length, sgnL_length]) fun n _ => ?_
  rw [sq_sgnL]
  show -1 * (Sq.sg (n + 1) * sq (sgnL xs) (n + 1)) = _
  rw [sq_sgnL]
  exact Sq.sgn_sgn (sq xs) (n + 1)
theorem sg_par : ∀ n : Nat, Sq.sg n = if n % 2 = 0 then 1 else -1
  | 0 => rfl
  | 1 => rfl
  | n + 2 => by
    show - - Sq.sg n = _
    rw [Int.neg_neg, sg_par n]
    have : (n + 2) % 2 = n % 2 := by omega
    rw [this]
theorem sgn_at (xs : List Int) (i : Nat) : Sq.sgn (sq xs) (i + 1) = if i % 2 = 0 then sq xs (i + 1) else - sq xs (i + 1) := by
  show -1 * (- Sq.sg i * sq xs (i + 1)) = _
  rw [sg_par]
  split <;> grind
theorem sgn_body (xs : List Int) (x0 : D) (hl : xs.length ≤ 1000) : kLc [1, 2] (gTp (gsCons (gNm 1) (gsCons (gNm 2) gsNil))) xYes (xIf (toB (xBin dEq (xBinV dMod 1 (xk (.int 2))) (xk (.int 0)))) (xfr 2) (xUn dNeg (xp 2))) (numbered (rowI xs)) [some (.val x0), none, none] = .ok (.ls (rowI (sgnL xs))) [some (.val x0), none, none] := by
  have hc := kLc_ix (own := [1, 2]) (tg := gTp (gsCons (gNm 1) (gsCons (gNm 2) gsNil))) (mc := xYes) (me := xIf (toB (xBin dEq (xBinV dMod 1 (xk (.int 2))) (xk (.int 0)))) (xfr 2) (xUn dNeg (xp 2))) (e1 := [some (.val x0), none, none]) (fun i => .int (Sq.sgn (sq xs) (i + 1))) (numbered (rowI xs)) (by rw [numbered_length]; simp; omega) (fun i d hd => by
    obtain ⟨x, hx, rfl⟩ := numbered_ix hd
    have hi : i < xs.length := by
      have := (List.getElem?_eq_some_iff.mp hx).1
      simpa using this
    have hx2 := rowI_get (sq_get hi)
    rw [hx] at hx2
    cases hx2
    refine ⟨[some (.val x0), some (.val (.int (i : Nat))), some (.val (.int (sq xs (i + 1))))], _, [some (.val x0), some (.val (.int (i : Nat))), some (.val (.int (sq xs (i + 1))))], rfl, rfl, ?_, rfl⟩
    have hm : dMod (.int (i : Nat)) (.int 2) = some (.int ((i : Int) % 2)) := dMod_i _ _ (by decide)
    rw [sgn_at]
    by_cases e : i % 2 = 0
    · have e2 : (((i : Int) % 2) == 0) = true := by simpa using (show ((i : Int) % 2) = 0 by omega)
      rw [if_pos e]
      simp only [xIf_ev, toB_ev, xBin_ev, xBinV_ev, peek_ev, xk_ev, xfr_ev, Out.bind_ok]
      simp [hm, e2]
    · have e2 : (((i : Int) % 2) == 0) = false := by simpa using (show ¬ ((i : Int) % 2) = 0 by omega)
      rw [if_neg e]
      simp only [xIf_ev, toB_ev, xBin_ev, xBinV_ev, peek_ev, xk_ev, xfr_ev, Out.bind_ok]
      simp [hm, e2])
  have e : (List.range (numbered (rowI xs)).length).map (fun i => PyData.int (Sq.sgn (sq xs) (i + 1))) = rowI (sgnL xs) := by
    rw [numbered_length]
    unfold sgnL rowI
    rw [List.map_map, List.length_map]
    rfl
  rw [e] at hc
  simpa using hc
theorem ev_signed (xs : List Int) (hl : xs.length ≤ 1000) : g_signed [some (.val (.tuple (rowI xs)))] = .ok (.val (.tuple (rowI (sgnL xs)))) [none] := by
  have hb := sgn_body xs (.tuple (rowI xs)) hl
  simp [g_signed, runB, m_signed, pb_signed, endE, hb]
theorem ev_turned (xs : List Int) (h1 : 1 ≤ xs.length) (h40 : xs.length ≤ 40) : g_turned_row [some (.val (.tuple (rowI xs)))] = .ok (.val (.tuple (rowI (sgnL xs)))) [none] := by
  have hs := ev_sure_t xs h1 h40
  have hg := ev_signed xs (by omega)
  simp [g_turned_row, runB, m_turned_row, pb_turned_row, endE, hs, hg]
/-! ### put together -/
theorem sq_take (xs : List Int) (m n : Nat) (h : n ≤ m) : sq (xs.take m) n = sq xs n := by
  cases n with
  | zero => rfl
  | succ n =>
    rw [sq_s, sq_s, List.getD_eq_getElem?_getD, List.getD_eq_getElem?_getD, List.getElem?_take_of_lt (by omega)]
theorem tog_take (xs ys : List Int) (m : Nat) : tog (xs.take m) (ys.take m) m = tog xs ys m := by
  unfold tog
  refine List.map_congr_left fun j hj => ?_
  have := List.mem_range.mp hj
  exact Sq.comp_congr (j + 1) (fun i hi => sq_take xs m i (by omega)) fun i _ hi => sq_take ys m i (by omega)
theorem take_rowI (xs : List Int) (m : Nat) : (rowI xs).take m = rowI (xs.take m) := List.map_take.symm
theorem cut_row (xs : List Int) (m : Nat) : cut (rowI xs) none (some (m : Nat)) = rowI (xs.take m) := by
  rw [cut_to _ _ (Int.natCast_nonneg m), Int.toNat_natCast, take_rowI]
theorem min_nat (a b : Nat) : (if ((b : Nat) : Int) < (a : Nat) then ((b : Nat) : Int) else (a : Nat)) = ((min a b : Nat) : Int) := by
  split <;> omega
/-- put_together, from what its arguments come to -/
theorem ev_put {d1 d2 : D} {xs ys : List Int} (h1 : g_sure_row [some (.val d1)] = .ok (.val (.tuple (rowI xs))) [none]) (h2 : g_sure_row [some (.val d2)] = .ok (.val (.tuple (rowI ys))) [none]) (S : Small (min xs.length ys.length) (xs.take (min xs.length ys.length)) (ys.take (min xs.length ys.length))) :
    g_put_together [some (.val d1), some (.val d2)] = .ok (.val (.tuple (rowI (tog xs ys (min xs.length ys.length))))) [none, none] := by
  have ht := ev_together_in S
  rw [tog_take] at ht
  have c1 := cut_row xs (min xs.length ys.length)
  have c2 := cut_row ys (min xs.length ys.length)
  have hmn : dMin (.int (xs.length : Nat)) (.int (ys.length : Nat)) = some (.int ((min xs.length ys.length : Nat) : Int)) := by
    rw [dMin_i, min_nat]
  simp [g_put_together, runB, m_put_together, pb_put_together, endE, h1, h2, -dMin_i, hmn, c1, c2, ht]
end K12

namespace K12
open PySem PySem.Spec PyProof.Rows L2 Dl
/-! ### the contrary row -/
def invS (xs : List Int) : Nat → List Int
  | 0 => [1]
  | n + 1 => invS xs n ++ [-(Sq.comp (sq xs) (sq (invS xs n ++ [0])) (n + 2))]
theorem invS_length (xs : List Int) : ∀ n, (invS xs n).length = n + 1
  | 0 => rfl
  | n + 1 => by
    show (invS xs n ++ [_]).length = _
    rw [List.length_append, invS_length xs n, List.length_singleton]
theorem tog_last (xs ys : List Int) (m : Nat) : (rowI (tog xs ys (m + 1))).getLast? = some (.int (Sq.comp (sq xs) (sq ys) (m + 1))) := by
  unfold tog rowI
  rw [List.range_succ, List.map_append, List.map_append]
  simp
theorem rowI_app (xs ys : List Int) : rowI xs ++ rowI ys = rowI (xs ++ ys) := (List.map_append ..).symm
section
variable {xs : List Int} {d0 : D}
noncomputable def ek (xs : List Int) (d0 : D) (i : Nat) (x3 x4 : Option Cn) : Dl.Env := [some (.val d0), some (.val (.tuple (rowI xs))), some (.ls (rowI (invS xs i))), x3, x4]
noncomputable def bodyK : MS := xSeq (xSet 4 (xFz (xCall 3 g_together_in [none, none, none] (aVal (xSlV dSl 1 (oNo) (oSo (xp 3))) (aVal (xBin dAdd (xUn dTup (xp 2)) (xTup (xCons (xk (.int 0)) (xNil)))) (aVal (xfr 3) (aNil)))))))
    (xSeq (xEx (xMu mAppend 2 (xCons (xUn dNeg (xBinV dIdx 4 (xUn dNeg (xk (.int 1))))) (xNil))))
    (xNx))
theorem bodyK_ok (i : Nat) (hl : xs.length ≤ 40) (hi : i + 1 < xs.length) (S : Small (i + 2) (xs.take (i + 2)) (invS xs i ++ [0])) (x4 : Option Cn) :
    ∃ y4, bodyK (ek xs d0 i (some (.val (.int (2 + (i : Nat))))) x4) = .ok .nx (ek xs d0 (i + 1) (some (.val (.int (2 + (i : Nat))))) y4) := by
  have ht := ev_together_in S
  have e2 : ((i + 2 : Nat) : Int) = 2 + (i : Nat) := by omega
  rw [e2] at ht
  have c1 : cut (rowI xs) none (some (2 + (i : Nat))) = rowI (xs.take (i + 2)) := by
    rw [← e2]; exact cut_row xs (i + 2)
  have c2 : dAdd (.tuple (rowI (invS xs i))) (.tuple [.int 0]) = some (.tuple (rowI (invS xs i ++ [0]))) := by
    rw [dAdd_t _ _ (le_cap (by rw [rowI_length, invS_length]; simp; omega)), ← rowI_app]
    rfl
  have c3 : atI (rowI (tog (xs.take (i + 2)) (invS xs i ++ [0]) (i + 2))) (-1) = some (.int (Sq.comp (sq xs) (sq (invS xs i ++ [0])) (i + 2))) := by
    have e3 : Sq.comp (sq (xs.take (i + 2))) (sq (invS xs i ++ [0])) (i + 2) = Sq.comp (sq xs) (sq (invS xs i ++ [0])) (i + 2) := Sq.comp_congr _ (fun j hj => sq_take xs _ j hj) fun _ _ _ => rfl
    rw [← e3]
    exact atI_neg1 _ _ (tog_last _ _ (i + 1))
  have c4 : mAppend (rowI (invS xs i)) [.int (-(Sq.comp (sq xs) (sq (invS xs i ++ [0])) (i + 2)))] = some (.none, rowI (invS xs (i + 1))) := by
    rw [mAppend_ev _ _ (lt_cap (by rw [rowI_length, invS_length]; omega))]
    have : rowI (invS xs (i + 1)) = rowI (invS xs i) ++ [.int (-(Sq.comp (sq xs) (sq (invS xs i ++ [0])) (i + 2)))] := (rowI_app _ _).symm
    rw [this]
  refine ⟨some (.val (.tuple (rowI (tog (xs.take (i + 2)) (invS xs i ++ [0]) (i + 2))))), ?_⟩
  simp [bodyK, ek, c1, c2, ht, c3, c4]
theorem ev_contrary (hl1 : 1 ≤ xs.length) (hl : xs.length ≤ 40) (h1 : xs[0]? = some 1) (hs : g_sure_row [some (.val d0)] = .ok (.val (.tuple (rowI xs))) [none]) (S : ∀ i, i + 1 < xs.length → Small (i + 2) (xs.take (i + 2)) (invS xs i ++ [0])) :
    g_contrary_row [some (.val d0)] = .ok (.val (.tuple (rowI (invS xs (xs.length - 1))))) [none] := by
  obtain ⟨e', hf, x3, x4, he⟩ := forGo_range (g := gNm 3) (mb := bodyK) (fun i e => ∃ x3 x4, e = ek xs d0 i x3 x4) 2 (xs.length - 1) (fun i hi e he => by
    obtain ⟨x3, x4, rfl⟩ := he
    obtain ⟨y4, h⟩ := bodyK_ok (d0 := d0) i hl (by omega) (S i (by omega)) x4
    exact ⟨_, _, rfl, h, _, _, rfl⟩) (ek xs d0 0 none none) ⟨_, _, rfl⟩
  subst he
  have hr : ∀ e, kR22 (.int 2) (.int ((xs.length : Nat) + 1)) e = .ok (rangeD 2 (xs.length - 1)) e := fun e => by
    rw [kR22_i _ _ _ (by omega), show ((xs.length : Int) + 1 - 2).toNat = xs.length - 1 by omega]
  have c0 : atI (rowI xs) 0 = some (.int 1) := rowI_at (i := 0) rfl h1
  have h2 : forGo (gNm 3) bodyK (rangeD 2 (xs.length - 1)) [some (.val d0), some (.val (.tuple (rowI xs))), some (.ls [.int 1]), none, none] = .ok .nx (ek xs d0 (xs.length - 1) x3 x4) := hf
  unfold bodyK at h2
  simp only [ek] at h2
  simp [g_contrary_row, runB, m_contrary_row, pb_contrary_row, endE, hs, c0, hr, h2]
theorem ev_contrary_no (x : Int) (hl : xs.length ≤ 40) (h1 : xs[0]? = some x) (hx : x ≠ 1) (hs : g_sure_row [some (.val d0)] = .ok (.val (.tuple (rowI xs))) [none]) :
    g_contrary_row [some (.val d0)] = .err (.plain "CanNot") [none] := by
  have c0 : atI (rowI xs) 0 = some (.int x) := rowI_at (i := 0) rfl h1
  have e : (x == 1) = false := by simpa using hx
  simp [g_contrary_row, runB, m_contrary_row, pb_contrary_row, endE, hs, c0, e]
end
/-! ### the first unfit -/
def bad : Nat → List Int → Option Nat
  | _, [] => none
  | k, x :: r => if x = (if k = 0 then 1 else 0) then bad (k + 1) r else some k
def badD : Option Nat → D
  | none => .none
  | some k => .int ((k : Nat) + 1)
def numFrom : Nat → List Int → List D
  | _, [] => []
  | k, x :: r => .tuple [.int (k : Nat), .int x] :: numFrom (k + 1) r
theorem numFrom_get : ∀ (L : List Int) (k i : Nat), (numFrom k L)[i]? = (L[i]?).map fun x => PyData.tuple [.int ((k + i : Nat) : Int), .int x]
  | [], _, _ => by simp [numFrom]
  | x :: r, k, 0 => by simp [numFrom]
  | x :: r, k, i + 1 => by
    show (numFrom (k + 1) r)[i]? = _
    rw [numFrom_get r (k + 1) i]
    simp
    rw [show (k : Int) + 1 + (i : Int) = (k : Int) + ((i : Int) + 1) by omega]
theorem numbered_row (L : List Int) : numbered (rowI L) = numFrom 0 L := by
  refine List.ext_getElem? fun i => ?_
  rw [numFrom_get]
  by_cases h : i < L.length
  · rw [numbered_get (rowI_get (List.getElem?_eq_getElem h)), List.getElem?_eq_getElem h]
    simp
  · rw [List.getElem?_eq_none (by rw [numbered_length, rowI_length]; omega), List.getElem?_eq_none (by omega)]
    rfl
noncomputable def bodyU : MS := xSeq (xIfS (toB (xBinV dNe 5 (xUn dInt (xBinV dEq 4 (xk (.int 0)))))) (xSeq (xRetE (xBinV dAdd 4 (xk (.int 1))))
    (xNx)) (xNx))
    (xNx)
noncomputable def eu (d1 d2 d3 d4 : D) (x4 x5 : Option Cn) : Dl.Env := [some (.val d1), some (.val d2), some (.val d3), some (.val d4), x4, x5]
theorem bodyU_ok (d1 d2 d3 d4 : D) (k : Nat) (x : Int) : bodyU (eu d1 d2 d3 d4 (some (.val (.int (k : Nat)))) (some (.val (.int x)))) =
    if x = (if k = 0 then 1 else 0) then .ok .nx (eu d1 d2 d3 d4 (some (.val (.int (k : Nat)))) (some (.val (.int x)))) else .ok (.ret (.val (.int ((k : Nat) + 1)))) (eu d1 d2 d3 d4 (some (.val (.int (k : Nat)))) (some (.val (.int x)))) := by
  have e1 : (((k : Nat) : Int) == 0) = decide (k = 0) := by
    by_cases h : k = 0 <;> simp [h]
  by_cases hk : k = 0
  · by_cases hx : x = 1
    · simp [bodyU, eu, e1, hk, hx]
    · have e2 : (x == 1) = false := by simpa using hx
      simp [bodyU, eu, e1, hk, hx, e2]
  · by_cases hx : x = 0
    · simp [bodyU, eu, e1, hk, hx]
    · have e2 : (x == 0) = false := by simpa using hx
      simp [bodyU, eu, e1, hk, hx, e2]
theorem unfit_go (d1 d2 d3 d4 : D) : ∀ (L : List Int) (k : Nat) (x4 x5 : Option Cn), ∃ y4 y5, forGo (gTp (gsCons (gNm 4) (gsCons (gNm 5) gsNil))) bodyU (numFrom k L) (eu d1 d2 d3 d4 x4 x5) =
    match bad k L with
    | none => .ok .nx (eu d1 d2 d3 d4 y4 y5)
    | some j => .ok (.ret (.val (.int ((j : Nat) + 1)))) (eu d1 d2 d3 d4 y4 y5)
  | [], k, x4, x5 => ⟨x4, x5, rfl⟩
  | x :: r, k, x4, x5 => by
    have hb := bodyU_ok d1 d2 d3 d4 k x
    show ∃ y4 y5, forGo _ _ (PyData.tuple [.int (k : Nat), .int x] :: numFrom (k + 1) r) _ = match (if x = (if k = 0 then 1 else 0) then bad (k + 1) r else some k) with | none => _ | some j => _
    unfold forGo
    show ∃ y4 y5, (bodyU (eu d1 d2 d3 d4 (some (.val (.int (k : Nat)))) (some (.val (.int x))))).bind _ = _
    rw [hb]
    by_cases hx : x = (if k = 0 then 1 else 0)
    · rw [if_pos hx, if_pos hx]
      exact unfit_go d1 d2 d3 d4 r (k + 1) _ _
    · rw [if_neg hx, if_neg hx]
      exact ⟨_, _, rfl⟩
theorem ev_unfit {xs ys : List Int} (hl : xs.length ≤ 1000) (hl2 : ys.length ≤ 1000) (S : Small (min xs.length ys.length) (xs.take (min xs.length ys.length)) (sgnL (ys.take (min xs.length ys.length)))) :
    g_first_unfit [some (.val (.tuple (rowI xs))), some (.val (.tuple (rowI ys)))] = .ok (.val (badD (bad 0 (tog xs (sgnL ys) (min xs.length ys.length))))) [none, none] := by
  have ht := ev_together_in S
  have e1 : tog (xs.take (min xs.length ys.length)) (sgnL (ys.take (min xs.length ys.length))) (min xs.length ys.length) = tog xs (sgnL ys) (min xs.length ys.length) := by
    unfold tog
    refine List.map_congr_left fun j hj => ?_
    have := List.mem_range.mp hj
    refine Sq.comp_congr (j + 1) (fun i hi => sq_take xs _ i (by omega)) fun i _ hi => ?_
    rw [sq_sgnL, sq_sgnL]
    show -1 * (Sq.sg i * _) = -1 * (Sq.sg i * _)
    rw [sq_take ys _ i (by omega)]
  rw [e1] at ht
  have c1 := cut_row xs (min xs.length ys.length)
  have c2 := cut_row ys (min xs.length ys.length)
  have hs := ev_signed (ys.take (min xs.length ys.length)) (by rw [List.length_take]; omega)
  have hmn : dMin (.int (xs.length : Nat)) (.int (ys.length : Nat)) = some (.int ((min xs.length ys.length : Nat) : Int)) := by
    rw [dMin_i, min_nat]
  obtain ⟨y4, y5, hgo⟩ := unfit_go (.tuple (rowI xs)) (.tuple (rowI ys)) (.int ((min xs.length ys.length : Nat) : Int)) (.tuple (rowI (tog xs (sgnL ys) (min xs.length ys.length)))) (tog xs (sgnL ys) (min xs.length ys.length)) 0 none none
  rw [← numbered_row] at hgo
  unfold bodyU at hgo
  simp only [eu] at hgo
  generalize hm : min xs.length ys.length = m at *
  cases hb : bad 0 (tog xs (sgnL ys) m) with
  | none =>
    rw [hb] at hgo
    dsimp only at hgo
    simp [g_first_unfit, runB, m_first_unfit, pb_first_unfit, endE, -dMin_i, hmn, c1, c2, hs, ht, hgo, badD]
  | some j =>
    rw [hb] at hgo
    dsimp only at hgo
    simp [g_first_unfit, runB, m_first_unfit, pb_first_unfit, endE, -dMin_i, hmn, c1, c2, hs, ht, hgo, badD]
theorem isNone_badD (o : Option Nat) : isNone (badD o) = o.isNone := by cases o <;> rfl
theorem ev_apart {d1 d2 : D} {xs ys : List Int} (h1 : g_sure_row [some (.val d1)] = .ok (.val (.tuple (rowI xs))) [none]) (h2 : g_sure_row [some (.val d2)] = .ok (.val (.tuple (rowI ys))) [none]) (hl : xs.length ≤ 1000) (hl2 : ys.length ≤ 1000)
    (S : Small (min xs.length ys.length) (xs.take (min xs.length ys.length)) (sgnL (ys.take (min xs.length ys.length)))) :
    g_first_apart [some (.val d1), some (.val d2)] = .ok (.val (badD (bad 0 (tog xs (sgnL ys) (min xs.length ys.length))))) [none, none] := by
  have hu := ev_unfit hl hl2 S
  simp [g_first_apart, runB, m_first_apart, pb_first_apart, endE, h1, h2, hu]
theorem dIs_none (d : D) : dIs d .none = some (.bool (isNone d)) := by cases d <;> rfl
theorem ev_match {d1 d2 : D} {xs ys : List Int} (h1 : g_sure_row [some (.val d1)] = .ok (.val (.tuple (rowI xs))) [none]) (h2 : g_sure_row [some (.val d2)] = .ok (.val (.tuple (rowI ys))) [none]) (hl : xs.length ≤ 1000) (hl2 : ys.length ≤ 1000)
    (S : Small (min xs.length ys.length) (xs.take (min xs.length ys.length)) (sgnL (ys.take (min xs.length ys.length)))) :
    g_do_match [some (.val d1), some (.val d2)] = .ok (.val (.bool (bad 0 (tog xs (sgnL ys) (min xs.length ys.length))).isNone)) [none, none] := by
  have hu := ev_unfit hl hl2 S
  simp [g_do_match, runB, m_do_match, pb_do_match, endE, h1, h2, hu, dIs_none, isNone_badD]
end K12

namespace K12
open PySem PySem.Spec PyProof.Rows L2 Dl
/-! ### draws -/
def tinD (a b c : Int) : List D := [.int a, .int b, .int c]
structure Tin (n : Nat) (t : List D) : Prop where
  ex : ∃ a b c, t = tinD a b c ∧ 0 ≤ b ∧ b < 100000000000000000000 ∧ 0 ≤ c ∧ c ≤ (n : Nat)
theorem Tin.mono {n m : Nat} {t : List D} (h : Tin n t) (hm : n ≤ m) : Tin m t := by
  obtain ⟨a, b, c, e, h1, h2, h3, h4⟩ := h.ex
  exact ⟨a, b, c, e, h1, h2, h3, by omega⟩
theorem bits_small {i : Int} (h : -1267650600228229401496703205376 < i ∧ i < 1267650600228229401496703205376) : bitsOk i := by
  refine bitsOk_of (k := 100) ?_ (by decide)
  rw [show (2 : Nat) ^ 100 = 1267650600228229401496703205376 from by decide]
  omega
theorem take_pos (a b c n : Int) (ha : 0 < a) (hn : 0 < n) (hl : n.natAbs.log2 < 9000) :
    g__law_take [some (.ls (tinD a b c)), some (.val (.int n))] = .ok (.val (.int (a % n))) [some (.ls (tinD (a / n) b c)), none] := by
  have h1 : dMod (.int a) (.int n) = some (.int (a % n)) := dMod_i _ _ hn
  have h2 : dFdv (.int a) (.int n) = some (.int (a / n)) := dFdv_i _ _ hn hl
  simp [tinD, g__law_take, runB, m__law_take, pb__law_take, endE, atI, ixN, dIx, h1, h2, ha]
theorem take_neg (a b c n : Int) (ha : ¬ 0 < a) (hn : 0 < n) (hb : 0 ≤ b) (hb2 : b < 100000000000000000000) (hc : 0 ≤ c) (hc2 : c ≤ 1000000) :
    ∃ r, g__law_take [some (.ls (tinD a b c)), some (.val (.int n))] = .ok (.val (.int (r % n))) [some (.ls (tinD a b (c + 1))), none] := by
  have f1 : ∀ x : Int, dMod (.int x) (.int 2147483647) = some (.int (x % 2147483647)) := fun x => dMod_i _ _ (by decide)
  have f2 : ∀ x : Int, dMod (.int x) (.int 40009) = some (.int (x % 40009)) := fun x => dMod_i _ _ (by decide)
  have f3 : ∀ x : Int, dMod (.int x) (.int 2147483629) = some (.int (x % 2147483629)) := fun x => dMod_i _ _ (by decide)
  have f4 : ∀ x : Int, dMod (.int x) (.int 2147483587) = some (.int (x % 2147483587)) := fun x => dMod_i _ _ (by decide)
  have f5 : ∀ x : Int, dMod (.int x) (.int n) = some (.int (x % n)) := fun x => dMod_i _ _ hn
  have f6 : ∀ x : Int, dFdv (.int x) (.int 1000003) = some (.int (x / 1000003)) := fun x => dFdv_i _ _ (by decide) (by decide)
  have f7 : ∀ x : Int, dFdv (.int x) (.int 64) = some (.int (x / 64)) := fun x => dFdv_i _ _ (by decide) (by decide)
  have m1 : dMul (.int 48271) (.int (c + 1)) = some (.int (48271 * (c + 1))) := dMul_i _ _ (bits_small (by omega)) (bits_small (by omega))
  have m2 : dMul (.int (b + 48271 * (c + 1))) (.int (39373 + (c + 1))) = some (.int ((b + 48271 * (c + 1)) * (39373 + (c + 1)))) := dMul_i _ _ (bits_small (by omega)) (bits_small (by omega))
  generalize hp : (b + 48271 * (c + 1)) * (39373 + (c + 1)) = p at m2
  have q1 : 0 ≤ p % 2147483647 ∧ p % 2147483647 < 2147483647 := ⟨Int.emod_nonneg _ (by decide), Int.emod_lt_of_pos _ (by decide)⟩
  generalize ho : p % 2147483647 = o at q1
  have q2 : 0 ≤ o % 40009 ∧ o % 40009 < 40009 := ⟨Int.emod_nonneg _ (by decide), Int.emod_lt_of_pos _ (by decide)⟩
  generalize hw : o % 40009 = w at q2
  have q3 : 0 ≤ b / 1000003 ∧ b / 1000003 ≤ b := ⟨by omega, by omega⟩
  generalize hv : b / 1000003 = v at q3
  have m3 : dMul (.int (o + (c + 1) + v)) (.int (w + 7)) = some (.int ((o + (c + 1) + v) * (w + 7))) := dMul_i _ _ (bits_small (by omega)) (bits_small (by omega))
  generalize hu : (o + (c + 1) + v) * (w + 7) = u at m3
  have q4 : 0 ≤ u % 2147483629 ∧ u % 2147483629 < 2147483629 := ⟨Int.emod_nonneg _ (by decide), Int.emod_lt_of_pos _ (by decide)⟩
  generalize hx : u % 2147483629 = x at q4
  have m4 : dMul (.int x) (.int 48271) = some (.int (x * 48271)) := dMul_i _ _ (bits_small (by omega)) (bits_small (by omega))
  refine ⟨(x * 48271 + o) % 2147483587 / 64, ?_⟩
  simp [tinD, g__law_take, runB, m__law_take, pb__law_take, endE, atI, ixN, dIx, ha, f1, f2, f3, f4, f5, f6, f7, m1, m2, ho, hw, hv, m3, hx, m4]
theorem ev_take {m : Nat} {t : List D} (h : Tin m t) (hm : m ≤ 1000000) (n : Int) (hn : 0 < n) (hn2 : n < 1000000) :
    ∃ r t', g__law_take [some (.ls t), some (.val (.int n))] = .ok (.val (.int r)) [some (.ls t'), none] ∧ 0 ≤ r ∧ r < n ∧ Tin (m + 1) t' := by
  obtain ⟨a, b, c, rfl, h1, h2, h3, h4⟩ := h.ex
  by_cases ha : 0 < a
  · refine ⟨a % n, tinD (a / n) b c, take_pos a b c n ha hn ?_, Int.emod_nonneg _ (by omega), Int.emod_lt_of_pos _ hn, ⟨_, _, _, rfl, h1, h2, h3, by omega⟩⟩
    have : n.natAbs.log2 < 20 := (Nat.log2_lt (by omega)).mpr (by omega)
    omega
  · obtain ⟨r, hr⟩ := take_neg a b c n ha hn h1 h2 h3 (by omega)
    exact ⟨r % n, _, hr, Int.emod_nonneg _ (by omega), Int.emod_lt_of_pos _ hn, ⟨_, _, _, rfl, h1, h2, by omega, by omega⟩⟩
/-! ### drawn rows -/
theorem rowI_of : ∀ {ds : List D} {p : Int → Prop}, (∀ y ∈ ds, ∃ x : Int, y = .int x ∧ p x) → ∃ xs : List Int, ds = rowI xs ∧ ∀ x ∈ xs, p x
  | [], p, _ => ⟨[], rfl, fun x hx => by cases hx⟩
  | y :: ds, p, h => by
    obtain ⟨x, rfl, hx⟩ := h y List.mem_cons_self
    obtain ⟨xs, rfl, hxs⟩ := rowI_of (ds := ds) fun z hz => h z (List.mem_cons_of_mem _ hz)
    refine ⟨x :: xs, rfl, fun z hz => ?_⟩
    rcases List.mem_cons.mp hz with rfl | hz
    · exact hx
    · exact hxs z hz
theorem paired_right {α β : Type} {R : α → β → Prop} {p : β → Prop} (h : ∀ a b, R a b → p b) : ∀ {as : List α} {bs : List β}, Paired R as bs → ∀ b ∈ bs, p b
  | _, _, .nil, b, hb => by cases hb
  | _, _, .cons r q, b, hb => by
    rcases List.mem_cons.mp hb with rfl | hb
    · exact h _ _ r
    · exact paired_right h q b hb
theorem ev_some {m : Nat} {t : List D} (h : Tin m t) (n : Nat) (hn : n ≤ 1000) (hm : m + n ≤ 1000000) :
    ∃ xs t', g__law_some [some (.ls t), some (.val (.int (n : Nat)))] = .ok (.val (.tuple (rowI xs))) [some (.ls t'), none] ∧ xs.length = n ∧ (∀ x ∈ xs, -3 ≤ x ∧ x ≤ 5) ∧ Tin (m + n) t' := by
  obtain ⟨out, e', h1, h2, t', ht', rfl⟩ := kLc_inv (own := [2]) (tg := gNm 2) (mc := xYes) (me := xBin dSub (xFz (xCall 2 g__law_take [some 0, none] (aIoL 0 (aVal (xk (.int 9)) (aNil))))) (xk (.int 3))) (e0 := [some (.ls t), some (.val (.int (n : Nat))), none])
    (fun i e => ∃ t', Tin (m + i) t' ∧ e = [some (.ls t'), some (.val (.int (n : Nat))), none]) (fun _ y => ∃ x : Int, y = .int x ∧ (-3 ≤ x ∧ x ≤ 5)) (rangeD 0 n) (by rw [rangeD_length]; omega) (fun i d hd e he => by
      obtain ⟨t1, ht1, rfl⟩ := he
      have hi := (rangeD_get hd).1
      obtain ⟨r, t2, g1, g2, g3, g4⟩ := ev_take ht1 (by omega) 9 (by decide) (by decide)
      refine ⟨[some (.ls t1), some (.val (.int (n : Nat))), some (.val d)], _, .int (r - 3), [some (.ls t2), some (.val (.int (n : Nat))), some (.val d)], rfl, rfl, ?_, ⟨r - 3, rfl, by omega⟩, t2, g4, rfl⟩
      simp [g1]) ⟨t, h, rfl⟩
  obtain ⟨xs, rfl, hx⟩ := rowI_of (ds := out) (p := fun x => -3 ≤ x ∧ x ≤ 5) (paired_right (p := fun y : D => ∃ x : Int, y = PyData.int x ∧ (-3 ≤ x ∧ x ≤ 5)) (fun _ _ r => r) h2)
  have hl := paired_len h2
  rw [rangeD_length, rowI_length] at hl
  have hr : ∀ e, kR1 (.int (n : Nat)) e = .ok (rangeD 0 n) e := fun e => by
    rw [kR1_i _ _ (by omega), Int.toNat_natCast]
  rw [rangeD_length] at ht'
  refine ⟨xs, t', ?_, hl.symm, hx, ht'⟩
  simp at h1
  simp [g__law_some, runB, m__law_some, pb__law_some, endE, hr, h1]
/-! ### mixed -/
theorem mixed_int (n : Nat) (t : List D) (i : Int) : gl__law_mixed (n + 1) [some (.ls t), some (.val (.int i))] = .ok (.val (.int i)) [some (.ls t), none] := by
  simp [gl__law_mixed, runB, m__law_mixed, pb__law_mixed, endE]
theorem gl_mixed_s (n : Nat) : gl__law_mixed (n + 1) = runB pb__law_mixed 2 (m__law_mixed g__law_take (gl__law_mixed n)) := rfl
theorem ev_mixed {m : Nat} {t : List D} (h : Tin m t) (hm : m ≤ 1000000) (xs : List Int) (hl : xs.length ≤ 1000) :
    ∃ d t', g__law_mixed [some (.ls t), some (.val (.tuple (rowI xs)))] = .ok (.val d) [some (.ls t'), none] ∧ (d = .list (rowI xs) ∨ d = .tuple (rowI xs)) ∧ Tin (m + 1) t' := by
  obtain ⟨r, t', g1, g2, g3, g4⟩ := ev_take h hm 2 (by decide) (by decide)
  have hc := kLc_map (own := [3]) (tg := gNm 3) (mc := xYes) (me := xFz (xCall 2 (gl__law_mixed 11) [some 0, none] (aIoL 0 (aVal (xfr 3) (aNil))))) (e1 := [some (.ls t), some (.val (.tuple (rowI xs))), none, none]) id (rowI xs) (by simp; omega) (fun d hd => by
    obtain ⟨i, _, rfl⟩ := List.mem_map.mp hd
    exact ⟨[some (.ls t), some (.val (.tuple (rowI xs))), none, some (.val (.int i))], _, [some (.ls t), some (.val (.tuple (rowI xs))), none, some (.val (.int i))], rfl, rfl, by simp [mixed_int 10], rfl⟩)
  rw [List.map_id] at hc
  simp at hc
  by_cases hr : r = 0
  · refine ⟨.list (rowI xs), t', ?_, .inl rfl, g4⟩
    show gl__law_mixed 12 _ = _
    rw [gl_mixed_s]
    simp [runB, m__law_mixed, pb__law_mixed, endE, hc, g1, hr]
  · have e2 : (r == 0) = false := by simpa using hr
    refine ⟨.tuple (rowI xs), t', ?_, .inr rfl, g4⟩
    show gl__law_mixed 12 _ = _
    rw [gl_mixed_s]
    simp [runB, m__law_mixed, pb__law_mixed, endE, hc, g1, hr, e2]
end K12

namespace K12
open PySem PySem.Spec PyProof.Rows L2 Dl
/-! ### the same -/
def leaf : D → Prop
  | .none => True
  | .bool _ => True
  | .int _ => True
  | _ => False
def fit : Nat → D → Prop
  | 0, d => leaf d
  | n + 1, d => leaf d ∨ ∃ ds, (d = .list ds ∨ d = .tuple ds) ∧ ds.length ≤ 100000 ∧ ∀ x ∈ ds, fit n x
theorem gl_same_s (n : Nat) : gl__law_same (n + 1) = runB pb__law_same 2 (m__law_same (gl__law_same n)) := rfl
theorem shaped_bool (b : Bool) : SeqAt.shaped (.bool b) = true := by simp [SeqAt.shaped, PyData.canLay0, PyData.depth]
@[simp] theorem dEq_b (i j : Bool) : dEq (.bool i) (.bool j) = some (.bool (i == j)) := by
  unfold dEq
  rw [if_pos ⟨shaped_bool i, shaped_bool j⟩, PyData.eqv]
@[simp] theorem dNe_b (i j : Bool) : dNe (.bool i) (.bool j) = some (.bool (!(i == j))) := by
  unfold dNe
  rw [if_pos ⟨shaped_bool i, shaped_bool j⟩, PyData.eqv]
@[simp] theorem dIs_nn : dIs .none .none = some (.bool true) := rfl
@[simp] theorem dIs_in (i : Int) : dIs (.int i) .none = some (.bool false) := rfl
@[simp] theorem dIs_bn (b : Bool) : dIs (.bool b) .none = some (.bool false) := rfl
theorem same_leaf (n : Nat) (d : D) (h : leaf d) : gl__law_same (n + 1) [some (.val d), some (.val d)] = .ok (.val (.bool true)) [none, none] := by
  rw [gl_same_s]
  cases d with
  | none => simp [runB, m__law_same, pb__law_same, endE]
  | bool b => simp [runB, m__law_same, pb__law_same, endE]
  | int i => simp [runB, m__law_same, pb__law_same, endE]
  | str _ => exact False.elim h
  | list _ => exact False.elim h
  | tuple _ => exact False.elim h
  | dict _ => exact False.elim h
theorem zipped_self_get {ds : List D} {i : Nat} {d : D} (h : (zipped ds ds)[i]? = some d) : ∃ x, ds[i]? = some x ∧ d = .tuple [x, x] := by
  have hl : i < ds.length := by
    have := (List.getElem?_eq_some_iff.mp h).1
    rw [zipped_length] at this
    omega
  have := zipped_get (List.getElem?_eq_getElem hl) (List.getElem?_eq_getElem hl)
  rw [h] at this
  exact ⟨_, List.getElem?_eq_getElem hl, Option.some.inj this⟩
theorem same_refl : ∀ (n : Nat) (d : D), fit n d → gl__law_same (n + 1) [some (.val d), some (.val d)] = .ok (.val (.bool true)) [none, none]
  | 0, d, h => same_leaf 0 d h
  | n + 1, d, h => by
    rcases h with h | ⟨ds, hd, hl, hx⟩
    · exact same_leaf (n + 1) d h
    · have hc : ∀ d0 : D, kLc [2, 3] (gTp (gsCons (gNm 2) (gsCons (gNm 3) gsNil))) xYes (xFz (xCall 2 (gl__law_same (n + 1)) [none, none] (aVal (xfr 2) (aVal (xfr 3) aNil)))) (zipped ds ds) [some (.val d0), some (.val d0), none, none] = .ok (.ls (List.replicate ds.length (.bool true))) [some (.val d0), some (.val d0), none, none] := fun d0 => by
        have h1 := kLc_ix (own := [2, 3]) (tg := gTp (gsCons (gNm 2) (gsCons (gNm 3) gsNil))) (mc := xYes) (me := xFz (xCall 2 (gl__law_same (n + 1)) [none, none] (aVal (xfr 2) (aVal (xfr 3) aNil)))) (e1 := [some (.val d0), some (.val d0), none, none]) (fun _ => .bool true) (zipped ds ds) (by rw [zipped_length]; omega) (fun i d hd => by
          obtain ⟨x, hx1, rfl⟩ := zipped_self_get hd
          have hs := same_refl n x (hx x (List.mem_of_getElem? hx1))
          exact ⟨[some (.val d0), some (.val d0), some (.val x), some (.val x)], _, [some (.val d0), some (.val d0), some (.val x), some (.val x)], rfl, rfl, by simp [hs], rfl⟩)
        have e : (List.range (zipped ds ds).length).map (fun _ => PyData.bool true) = List.replicate ds.length (.bool true) := by
          rw [List.map_const', List.length_range, zipped_length, Nat.min_self]
        rw [e] at h1
        simpa using h1
      rw [gl_same_s]
      rcases hd with rfl | rfl
      · simp [runB, m__law_same, pb__law_same, endE, hc, dAll_true]
      · simp [runB, m__law_same, pb__law_same, endE, hc, dAll_true]
theorem fit_leaf {n : Nat} {d : D} (h : leaf d) : fit n d := by
  cases n with
  | zero => exact h
  | succ n => exact .inl h
theorem fit_row (n : Nat) (xs : List Int) (hl : xs.length ≤ 1000) : fit (n + 1) (.tuple (rowI xs)) :=
  .inr ⟨rowI xs, .inr rfl, by rw [rowI_length]; omega, fun x hx => by
    obtain ⟨i, _, rfl⟩ := List.mem_map.mp hx
    exact fit_leaf trivial⟩
theorem ev_same (d : D) (h : fit 11 d) : g__law_same [some (.val d), some (.val d)] = .ok (.val (.bool true)) [none, none] := same_refl 11 d h
/-! ### heard -/
theorem ev_unmarked (ds : List D) : g__law_unmarked [some (.val (.tuple ds))] = .ok (.val (.tuple ds)) [none] := by
  simp [g__law_unmarked, runB, m__law_unmarked, pb__law_unmarked, endE]
theorem ev_heard {d0 : D} {ds : List D} (h : g_contrary_row [some (.val d0)] = .ok (.val (.tuple ds)) [none]) : g__law_heard [some (.val d0)] = .ok (.val (.tuple ds)) [none] := by
  have hu := ev_unmarked ds
  have e : (xSeq (xRetE (xFz (xCall 1 g__law_unmarked [none] (aVal (xFz (xCall 1 g_contrary_row [none] (aVal (xfr 0) (aNil)))) (aNil))))) xNx) [some (.val d0), none] = .ok (.ret (.val (.tuple ds))) [some (.val d0), none] := by
    simp [h, hu]
  simp only [g__law_heard, runB, m__law_heard, pb__law_heard]
  simp [xTry, h, hu, endE]
theorem ev_heard_no {d0 : D} (h : g_contrary_row [some (.val d0)] = .err (.plain "CanNot") [none]) : g__law_heard [some (.val d0)] = .ok (.val (.list [.str "cannot", .bool true])) [none] := by
  have hx : xIsE 1 0 true [some (.val d0), some (.raw (.ref 0))] = .ok (.bool true) [some (.val d0), some (.raw (.ref 0))] := rfl
  simp only [g__law_heard, runB, m__law_heard, pb__law_heard]
  simp [xTry, h, ctOf, hx, finE, endE]
end K12

namespace K12
open PySem PySem.Spec PyProof.Rows L2 Dl
/-! ### partings into heaps -/
def wI (w : List Nat) : List D := w.map fun a => PyData.int (a : Nat)
def wD (w : List Nat) : D := .list (wI w)
@[simp] theorem wI_length (w : List Nat) : (wI w).length = w.length := List.length_map ..
theorem wI_get {w : List Nat} {i a : Nat} (h : w[i]? = some a) : (wI w)[i]? = some (.int (a : Nat)) := by
  show (w.map _)[i]? = _
  rw [List.getElem?_map, h] <;> rfl
theorem incs_range : ∀ w : List Nat, Sq.incs w = (List.range w.length).map fun j => w.take j ++ [w.getD j 0 + 1] ++ w.drop (j + 1)
  | [] => rfl
  | a :: w => by
    show ((a + 1) :: w) :: (Sq.incs w).map (a :: ·) = _
    rw [incs_range w, List.length_cons, List.range_succ_eq_map, List.map_cons, List.map_map, List.map_map]
    rfl
theorem heaps_facts : ∀ (n : Nat) (w : List Nat), w ∈ Sq.heaps n → w.sum = n ∧ ∀ a ∈ w, 1 ≤ a
  | 0, w, h => by
    rcases List.mem_singleton.mp h with rfl
    exact ⟨rfl, fun a ha => by cases ha⟩
  | n + 1, w, h => by
    obtain ⟨v, hv, hw⟩ := List.mem_flatMap.mp h
    obtain ⟨e1, e2⟩ := heaps_facts n v hv
    have aux : ∀ (v w : List Nat), (∀ a ∈ v, 1 ≤ a) → w ∈ Sq.incs v → w.sum = v.sum + 1 ∧ ∀ a ∈ w, 1 ≤ a := by
      intro v
      induction v with
      | nil => intro w _ hw; cases hw
      | cons b v ih =>
        intro w hb hw
        rcases List.mem_cons.mp hw with rfl | hw
        · refine ⟨by rw [List.sum_cons, List.sum_cons]; omega, fun a ha => ?_⟩
          rcases List.mem_cons.mp ha with rfl | ha
          · omega
          · exact hb a (List.mem_cons_of_mem _ ha)
        · obtain ⟨u, hu, rfl⟩ := List.mem_map.mp hw
          obtain ⟨f1, f2⟩ := ih u (fun a ha => hb a (List.mem_cons_of_mem _ ha)) hu
          refine ⟨by rw [List.sum_cons, List.sum_cons]; omega, fun a ha => ?_⟩
          rcases List.mem_cons.mp ha with rfl | ha
          · exact hb a List.mem_cons_self
          · exact f2 a ha
    rcases List.mem_cons.mp hw with rfl | hw
    · refine ⟨by rw [List.sum_append]; simp; exact e1, fun a ha => ?_⟩
      rcases List.mem_append.mp ha with ha | ha
      · exact e2 a ha
      · rcases List.mem_singleton.mp ha with rfl
        exact Nat.le_refl 1
    · obtain ⟨f1, f2⟩ := aux v w e2 hw
      exact ⟨by rw [f1, e1], f2⟩
theorem len_le_sum : ∀ w : List Nat, (∀ a ∈ w, 1 ≤ a) → w.length ≤ w.sum
  | [], _ => Nat.le_refl 0
  | a :: w, h => by
    have := len_le_sum w fun b hb => h b (List.mem_cons_of_mem _ hb)
    have := h a List.mem_cons_self
    rw [List.length_cons, List.sum_cons]
    omega
theorem mem_le_sum : ∀ (w : List Nat) (a : Nat), a ∈ w → a ≤ w.sum
  | b :: w, a, h => by
    rw [List.sum_cons]
    rcases List.mem_cons.mp h with rfl | h
    · omega
    · have := mem_le_sum w a h
      omega
theorem heaps_few : ∀ n, n ≤ 6 → (Sq.heaps n).length ≤ 300
  | 0, _ => by decide
  | 1, _ => by decide
  | 2, _ => by decide
  | 3, _ => by decide
  | 4, _ => by decide
  | 5, _ => by decide
  | 6, _ => by decide
  | n + 7, h => by omega
noncomputable def bodyH2 : MS := xSeq (xEx (xMu mAppend 3 (xCons (xBinV dAdd 4 (xFz (xLst (xCons (xk (.int 1)) (xNil))))) (xNil))))
    (xSeq (xEx (xMu mExtend 3 (xCons (xFz (xLc [5] (xRng1 (xUn dLen (xp 4))) (gNm 5) (xYes) (xBin dAdd (xBin dAdd (xSlV dSl 4 (oNo) (oSo (xp 5))) (xFz (xLst (xCons (xBin dAdd (xBinV dIdx 4 (xp 5)) (xk (.int 1))) (xNil))))) (xSlV dSl 4 (oSo (xBinV dAdd 5 (xk (.int 1)))) (oNo))))) (xNil))))
    (xNx))
noncomputable def eh (d0 d1 : D) (L : List (List Nat)) (x2 x4 : Option Cn) : Dl.Env := [some (.val d0), some (.val d1), x2, some (.ls (L.map wD)), x4, none]
theorem cut_wI (w : List Nat) (j : Nat) : cut (wI w) none (some (j : Nat)) = wI (w.take j) := by
  rw [cut_to _ _ (Int.natCast_nonneg j), Int.toNat_natCast]
  exact List.map_take.symm
theorem cut_wI2 (w : List Nat) (j : Nat) : cut (wI w) (some ((j : Nat) + 1)) none = wI (w.drop (j + 1)) := by
  rw [cut_from _ _ (by omega), show ((j : Int) + 1).toNat = j + 1 by omega]
  exact List.map_drop.symm
theorem bodyH2_ok (d0 d1 : D) (L : List (List Nat)) (w : List Nat) (hL : L.length ≤ 10000) (hw : w.length ≤ 1000) (x2 : Option Cn) :
    bodyH2 (eh d0 d1 L x2 (some (.val (wD w)))) = .ok .nx (eh d0 d1 (L ++ ((w ++ [1]) :: Sq.incs w)) x2 (some (.val (wD w)))) := by
  have a1 : dAdd (.list (wI w)) (.list [.int 1]) = some (wD (w ++ [1])) := by
    rw [dAdd_l _ _ (le_cap (by simp; omega))]
    show _ = some (PyData.list ((w ++ [1]).map _))
    rw [List.map_append]
    rfl
  have a2 : mAppend (L.map wD) [wD (w ++ [1])] = some (.none, (L ++ [w ++ [1]]).map wD) := by
    rw [mAppend_ev _ _ (lt_cap (by simp; omega)), List.map_append] <;> rfl
  have hr : ∀ e, kR1 (.int (w.length : Nat)) e = .ok (rangeD 0 w.length) e := fun e => by
    rw [kR1_i _ _ (by omega), Int.toNat_natCast]
  have hc := kLc_range (own := [5]) (tg := gNm 5) (mc := xYes) (me := xBin dAdd (xBin dAdd (xSlV dSl 4 (oNo) (oSo (xp 5))) (xFz (xLst (xCons (xBin dAdd (xBinV dIdx 4 (xp 5)) (xk (.int 1))) (xNil))))) (xSlV dSl 4 (oSo (xBinV dAdd 5 (xk (.int 1)))) (oNo))) (e1 := eh d0 d1 (L ++ [w ++ [1]]) x2 (some (.val (wD w))))
    (fun j => wD (w.take j ++ [w.getD j 0 + 1] ++ w.drop (j + 1))) 0 w.length (by omega) (fun j hj => ⟨[some (.val d0), some (.val d1), x2, some (.ls ((L ++ [w ++ [1]]).map wD)), some (.val (wD w)), some (.val (.int (0 + (j : Nat))))], _, [some (.val d0), some (.val d1), x2, some (.ls ((L ++ [w ++ [1]]).map wD)), some (.val (wD w)), some (.val (.int (0 + (j : Nat))))], rfl, rfl, by
      have hg : w[j]? = some (w.getD j 0) := by rw [List.getD_eq_getElem?_getD, List.getElem?_eq_getElem hj] <;> rfl
      have c1 := cut_wI w j
      have c2 := cut_wI2 w j
      have c3 : atI (wI w) ((j : Nat) : Int) = some (.int (w.getD j 0 : Nat)) := list_at (i := j) rfl (wI_get hg)
      have c4 : dAdd (.list (wI (w.take j))) (.list [.int ((w.getD j 0 : Nat) + 1)]) = some (.list (wI (w.take j ++ [w.getD j 0 + 1]))) := by
        rw [dAdd_l _ _ (le_cap (by simp; omega))]
        show _ = some (PyData.list ((w.take j ++ [w.getD j 0 + 1]).map _))
        rw [List.map_append]
        rfl
      have c5 : dAdd (.list (wI (w.take j ++ [w.getD j 0 + 1]))) (.list (wI (w.drop (j + 1)))) = some (wD (w.take j ++ [w.getD j 0 + 1] ++ w.drop (j + 1))) := by
        rw [dAdd_l _ _ (le_cap (by simp; omega))]
        show _ = some (PyData.list ((w.take j ++ [w.getD j 0 + 1] ++ w.drop (j + 1)).map _))
        rw [List.map_append]
        rfl
      simp only [Int.zero_add]
      generalize w.getD j 0 = g at *
      simp only [xBin_ev, xSlV_ev, peek_ev]
      simp [wD, c1, c2, c3, c4]
      rw [c5]
      simp [wD], rfl⟩)
  have a3 : mExtend ((L ++ [w ++ [1]]).map wD) [.list ((List.range w.length).map fun j => wD (w.take j ++ [w.getD j 0 + 1] ++ w.drop (j + 1)))] = some (.none, (L ++ ((w ++ [1]) :: Sq.incs w)).map wD) := by
    have e1 : ((List.range w.length).map fun j => wD (w.take j ++ [w.getD j 0 + 1] ++ w.drop (j + 1))) = ((List.range w.length).map fun j => w.take j ++ [w.getD j 0 + 1] ++ w.drop (j + 1)).map wD := by
      rw [List.map_map]
      rfl
    rw [mExtend_ev _ _ (le_cap (by simp; omega)), e1, incs_range w, ← List.map_append, List.append_assoc]
    rfl
  simp only [eh] at hc
  generalize (List.range w.length).map (fun j => wD (w.take j ++ [w.getD j 0 + 1] ++ w.drop (j + 1))) = Z at hc a3
  generalize hM : (L ++ ((w ++ [1]) :: Sq.incs w)).map wD = M at a3
  generalize hM2 : (L ++ [w ++ [1]]).map wD = M2 at a2 a3 hc
  have a1' : dAdd (wD w) (.list [.int 1]) = some (wD (w ++ [1])) := a1
  have hlen : dLen (wD w) = some (.int (w.length : Nat)) := by
    show some (PyData.int ((wI w).length : Nat)) = _
    rw [wI_length]
  simp only [eh, hM]
  simp [bodyH2, a1', a2, hr, hlen, hc, a3]
theorem heaps_go (d0 d1 : D) : ∀ (ws L : List (List Nat)), L.length + 7 * ws.length ≤ 10000 → (∀ w ∈ ws, w.length ≤ 6) → ∀ x2 x4, ∃ y4, forGo (gNm 4) bodyH2 (ws.map wD) (eh d0 d1 L x2 x4) = .ok .nx (eh d0 d1 (L ++ ws.flatMap fun w => (w ++ [1]) :: Sq.incs w) x2 y4)
  | [], L, _, _, x2, x4 => ⟨x4, by rw [List.flatMap_nil, List.append_nil]; rfl⟩
  | w :: ws, L, hL, hw, x2, x4 => by
    have hw1 := hw w List.mem_cons_self
    have hb := bodyH2_ok d0 d1 L w (by omega) (by omega) x2
    have hl : (Sq.incs w).length = w.length := by rw [incs_range]; simp
    obtain ⟨y4, h⟩ := heaps_go d0 d1 ws (L ++ ((w ++ [1]) :: Sq.incs w)) (by
      rw [List.length_append, List.length_cons, hl]
      rw [List.length_cons] at hL
      omega) (fun v hv => hw v (List.mem_cons_of_mem _ hv)) x2 (some (.val (wD w)))
    refine ⟨y4, ?_⟩
    rw [List.map_cons, List.flatMap_cons, ← List.append_assoc]
    show (bodyH2 (eh d0 d1 L x2 (some (.val (wD w))))).bind _ = _
    rw [hb]
    exact h
noncomputable def bodyH1 : MS := xSeq (xSetN 3 (xLst (xNil)))
    (xSeq (xFor (xIt asSeq (xfr 1)) (gNm 4) bodyH2)
    (xSeq (xSet 1 (xfr 3))
    (xNx)))
noncomputable def ehh (n i : Nat) (x2 x3 x4 : Option Cn) : Dl.Env := [some (.val (.int (n : Nat))), some (.val (.list ((Sq.heaps i).map wD))), x2, x3, x4, none]
theorem bodyH1_ok (n i : Nat) (hi : i < 6) (x2 x3 x4 : Option Cn) : ∃ y3 y4, bodyH1 (ehh n i x2 x3 x4) = .ok .nx (ehh n (i + 1) x2 y3 y4) := by
  have few := heaps_few i (by omega)
  have few1 := heaps_few (i + 1) (by omega)
  obtain ⟨y4, h⟩ := heaps_go (.int (n : Nat)) (.list ((Sq.heaps i).map wD)) (Sq.heaps i) [] (by rw [List.length_nil]; omega) (fun w hw => by
    obtain ⟨e1, e2⟩ := heaps_facts i w hw
    have := len_le_sum w e2
    omega) x2 x4
  rw [List.nil_append] at h
  have e : ((Sq.heaps i).flatMap fun w => (w ++ [1]) :: Sq.incs w) = Sq.heaps (i + 1) := rfl
  rw [e] at h
  simp only [eh, List.map_nil] at h
  refine ⟨some (.val (.list ((Sq.heaps (i + 1)).map wD))), y4, ?_⟩
  simp only [ehh]
  generalize (Sq.heaps (i + 1)).map wD = Z at h ⊢
  generalize (Sq.heaps i).map wD = Y at h ⊢
  simp [bodyH1, h]
theorem ev_heaps (n : Nat) (hn : n ≤ 6) : g__law_heaps [some (.val (.int (n : Nat)))] = .ok (.val (.list ((Sq.heaps n).map wD))) [none] := by
  obtain ⟨e', h1, x2, x3, x4, he⟩ := forGo_range (g := gNm 2) (mb := bodyH1) (fun i e => ∃ x2 x3 x4, e = ehh n i x2 x3 x4) 0 n (fun i hi e he => by
    obtain ⟨x2, x3, x4, rfl⟩ := he
    obtain ⟨y3, y4, h⟩ := bodyH1_ok n i (by omega) (some (.val (.int (0 + (i : Nat))))) x3 x4
    exact ⟨_, _, rfl, h, _, _, _, rfl⟩) (ehh n 0 none none none) ⟨_, _, _, rfl⟩
  subst he
  have hr : ∀ e, kR1 (.int (n : Nat)) e = .ok (rangeD 0 n) e := fun e => by
    rw [kR1_i _ _ (by omega), Int.toNat_natCast]
  have h2 : forGo (gNm 2) bodyH1 (rangeD 0 n) [some (.val (.int (n : Nat))), some (.val (.list [.list []])), none, none, none, none] = .ok .nx (ehh n n x2 x3 x4) := h1
  unfold bodyH1 bodyH2 at h2
  simp only [ehh] at h2
  generalize (Sq.heaps n).map wD = Z at h2 ⊢
  simp [g__law_heaps, runB, m__law_heaps, pb__law_heaps, endE, hr, h2]
end K12

namespace K12
open PySem PySem.Spec PyProof.Rows L2 Dl
theorem bits3 {x : Int} (h : -5 ≤ x ∧ x ≤ 5) : bits x ≤ 3 := intBits_le_iff.mpr (by omega)
section
variable (xs ys : List Int)
noncomputable def eg (x2 x3 x4 x5 : Option Cn) (sh : Int) (x7 : Option Cn) : Dl.Env := [some (.val (.tuple (rowI xs))), some (.val (.tuple (rowI ys))), x2, x3, x4, x5, some (.val (.int sh)), x7]
noncomputable def bodyT3 : MS := xSeq (xSet 6 (xBinV dMul 6 (xBinV dIdx 1 (xBinV dSub 7 (xk (.int 1))))))
    (xNx)
theorem goT3 (hy : ∀ y ∈ ys, -5 ≤ y ∧ y ≤ 5) (x2 x3 x4 x5 : Option Cn) : ∀ (v : List Nat) (acc : Int) (x7 : Option Cn), (∀ a ∈ v, 1 ≤ a ∧ a ≤ ys.length) → bits acc + 3 * v.length ≤ 1000 →
    ∃ y7, forGo (gNm 7) bodyT3 (wI v) (eg xs ys x2 x3 x4 x5 acc x7) = .ok .nx (eg xs ys x2 x3 x4 x5 (acc * Sq.prodI (sq ys) v) y7)
  | [], acc, x7, _, _ => ⟨x7, by
    show Out.ok Fl.nx _ = Out.ok Fl.nx (eg xs ys x2 x3 x4 x5 (acc * 1) x7)
    rw [Int.mul_one]⟩
  | a :: v, acc, x7, ha, hb => by
    obtain ⟨a1, a2⟩ := ha a List.mem_cons_self
    obtain ⟨p, rfl⟩ : ∃ p, a = p + 1 := ⟨a - 1, by omega⟩
    have hg : ys[p]? = some (sq ys (p + 1)) := sq_get (by omega)
    have b1 : bits (sq ys (p + 1)) ≤ 3 := bits3 (hy _ (List.mem_of_getElem? hg))
    have h1 : atI (rowI ys) ((p : Nat) : Int) = some (.int (sq ys (p + 1))) := rowI_at (i := p) (by omega) hg
    rw [List.length_cons] at hb
    have h2 : dMul (.int acc) (.int (sq ys (p + 1))) = some (.int (acc * sq ys (p + 1))) := dMul_i _ _ (Nat.le_trans (show bits acc ≤ 1000 by omega) (by decide)) (Nat.le_trans b1 (by decide))
    have b2 := intBits_mul_le (Nat.le_refl (bits acc)) b1
    obtain ⟨y7, h⟩ := goT3 hy x2 x3 x4 x5 v (acc * sq ys (p + 1)) (some (.val (.int (((p : Nat) : Int) + 1)))) (fun b hb => ha b (List.mem_cons_of_mem _ hb)) (by
      show Builtin.Int.intBits (acc * sq ys (p + 1)) + 3 * v.length ≤ 1000
      have : bits acc = Builtin.Int.intBits acc := rfl
      omega)
    refine ⟨y7, ?_⟩
    show (bodyT3 (eg xs ys x2 x3 x4 x5 acc (some (.val (.int ((p + 1 : Nat) : Int)))))).bind _ = _
    have e : bodyT3 (eg xs ys x2 x3 x4 x5 acc (some (.val (.int ((p + 1 : Nat) : Int))))) = .ok .nx (eg xs ys x2 x3 x4 x5 (acc * sq ys (p + 1)) (some (.val (.int (((p : Nat) : Int) + 1))))) := by
      rw [Int.natCast_add]
      simp only [eg]
      simp [bodyT3, h1, h2]
    rw [e]
    show forGo _ _ (wI v) _ = _
    rw [h]
    show Out.ok Fl.nx (eg xs ys x2 x3 x4 x5 (acc * sq ys (p + 1) * Sq.prodI (sq ys) v) y7) = Out.ok Fl.nx (eg xs ys x2 x3 x4 x5 (acc * (sq ys (p + 1) * Sq.prodI (sq ys) v)) y7)
    rw [Int.mul_assoc]
noncomputable def bodyT2 : MS := xSeq (xSet 6 (xBinV dIdx 0 (xBin dSub (xUn dLen (xp 5)) (xk (.int 1)))))
    (xSeq (xFor (xIt asSeq (xfr 5)) (gNm 7) bodyT3)
    (xSeq (xSet 4 (xBinV dAdd 4 (xp 6)))
    (xNx)))
noncomputable def ef (x2 x3 : Option Cn) (tt : Int) (x5 x6 x7 : Option Cn) : Dl.Env := [some (.val (.tuple (rowI xs))), some (.val (.tuple (rowI ys))), x2, x3, some (.val (.int tt)), x5, x6, x7]
theorem goT2 (hx : ∀ x ∈ xs, -5 ≤ x ∧ x ≤ 5) (hy : ∀ y ∈ ys, -5 ≤ y ∧ y ≤ 5) (x2 x3 : Option Cn) : ∀ (ws : List (List Nat)) (tt : Int) (x5 x6 x7 : Option Cn), (∀ w ∈ ws, 1 ≤ w.length ∧ w.length ≤ xs.length ∧ w.length ≤ 300 ∧ ∀ a ∈ w, 1 ≤ a ∧ a ≤ ys.length) →
    ∃ y5 y6 y7, forGo (gNm 5) bodyT2 (ws.map wD) (ef xs ys x2 x3 tt x5 x6 x7) = .ok .nx (ef xs ys x2 x3 (tt + (ws.map fun w => sq xs w.length * Sq.prodI (sq ys) w).sum) y5 y6 y7)
  | [], tt, x5, x6, x7, _ => ⟨x5, x6, x7, by
    show Out.ok Fl.nx _ = Out.ok Fl.nx (ef xs ys x2 x3 (tt + 0) x5 x6 x7)
    rw [Int.add_zero]⟩
  | w :: ws, tt, x5, x6, x7, hw => by
    obtain ⟨l1, l2, l3, ha⟩ := hw w List.mem_cons_self
    obtain ⟨p, hp⟩ : ∃ p, w.length = p + 1 := ⟨w.length - 1, by omega⟩
    have hg : xs[p]? = some (sq xs (p + 1)) := sq_get (by omega)
    have h1 : atI (rowI xs) ((p : Nat) : Int) = some (.int (sq xs (p + 1))) := rowI_at (i := p) (by omega) hg
    have b1 : bits (sq xs (p + 1)) ≤ 3 := bits3 (hx _ (List.mem_of_getElem? hg))
    obtain ⟨z7, h3⟩ := goT3 xs ys hy x2 x3 (some (.val (.int tt))) (some (.val (wD w))) w (sq xs (p + 1)) x7 ha (by omega)
    obtain ⟨y5, y6, y7, h⟩ := goT2 hx hy x2 x3 ws (tt + sq xs (p + 1) * Sq.prodI (sq ys) w) (some (.val (wD w))) (some (.val (.int (sq xs (p + 1) * Sq.prodI (sq ys) w)))) z7 (fun v hv => hw v (List.mem_cons_of_mem _ hv))
    refine ⟨y5, y6, y7, ?_⟩
    have hlen : dLen (wD w) = some (.int (((p : Nat) : Int) + 1)) := by
      show some (PyData.int ((wI w).length : Nat)) = _
      rw [wI_length, hp]
      rfl
    have hsq : asSeq (wD w) = some (wI w) := rfl
    show (bodyT2 (ef xs ys x2 x3 tt (some (.val (wD w))) x6 x7)).bind _ = _
    have e : bodyT2 (ef xs ys x2 x3 tt (some (.val (wD w))) x6 x7) = .ok .nx (ef xs ys x2 x3 (tt + sq xs (p + 1) * Sq.prodI (sq ys) w) (some (.val (wD w))) (some (.val (.int (sq xs (p + 1) * Sq.prodI (sq ys) w)))) z7) := by
      simp only [eg] at h3
      simp only [ef]
      generalize sq xs (p + 1) * Sq.prodI (sq ys) w = pr at *
      simp [bodyT2, hlen, h1, hsq, h3]
    rw [e]
    show forGo _ _ (ws.map wD) _ = _
    rw [h]
    show Out.ok Fl.nx (ef xs ys x2 x3 (tt + sq xs (p + 1) * Sq.prodI (sq ys) w + _) y5 y6 y7) = Out.ok Fl.nx (ef xs ys x2 x3 (tt + (sq xs w.length * Sq.prodI (sq ys) w + _)) y5 y6 y7)
    rw [hp, Int.add_assoc]
    rfl
noncomputable def bodyT1 : MS := xSeq (xSet 4 (xk (.int 0)))
    (xSeq (xFor (xIt asSeq (xFz (xCall 1 g__law_heaps [none] (aVal (xfr 3) (aNil))))) (gNm 5) bodyT2)
    (xSeq (xEx (xMu mAppend 2 (xCons (xfr 4) (xNil))))
    (xNx)))
noncomputable def ej (i : Nat) (x3 x4 x5 x6 x7 : Option Cn) : Dl.Env := [some (.val (.tuple (rowI xs))), some (.val (.tuple (rowI ys))), some (.ls (rowI (tog xs ys i))), x3, x4, x5, x6, x7]
theorem bodyT1_ok (hx : ∀ x ∈ xs, -5 ≤ x ∧ x ≤ 5) (hy : ∀ y ∈ ys, -5 ≤ y ∧ y ≤ 5) (i : Nat) (hi : i < 6) (l1 : i < xs.length) (l2 : i < ys.length) (x4 x5 x6 x7 : Option Cn) :
    ∃ y3 y4 y5 y6 y7, bodyT1 (ej xs ys i (some (.val (.int (1 + (i : Nat))))) x4 x5 x6 x7) = .ok .nx (ej xs ys (i + 1) y3 y4 y5 y6 y7) := by
  have hh := ev_heaps (i + 1) (by omega)
  have ei : ((i + 1 : Nat) : Int) = 1 + (i : Nat) := by omega
  rw [ei] at hh
  obtain ⟨y5, y6, y7, h⟩ := goT2 xs ys hx hy (some (.ls (rowI (tog xs ys i)))) (some (.val (.int (1 + (i : Nat))))) (Sq.heaps (i + 1)) 0 x5 x6 x7 (fun w hw => by
    obtain ⟨e1, e2⟩ := heaps_facts (i + 1) w hw
    have := len_le_sum w e2
    refine ⟨?_, by omega, by omega, fun a ha => ⟨e2 a ha, ?_⟩⟩
    · cases w with
      | nil => rw [List.sum_nil] at e1; omega
      | cons _ _ => rw [List.length_cons]; omega
    · have := mem_le_sum w a ha
      omega)
  rw [Int.zero_add, Sq.by_heaps] at h
  have hap : mAppend (rowI (tog xs ys i)) [.int (Sq.comp (sq xs) (sq ys) (i + 1))] = some (.none, rowI (tog xs ys (i + 1))) := by
    rw [mAppend_ev _ _ (lt_cap (by rw [rowI_length, tog_length]; omega))]
    have : tog xs ys (i + 1) = tog xs ys i ++ [Sq.comp (sq xs) (sq ys) (i + 1)] := by
      unfold tog
      rw [List.range_succ, List.map_append]
      rfl
    rw [this, ← rowI_app]
    rfl
  refine ⟨some (.val (.int (1 + (i : Nat)))), some (.val (.int (Sq.comp (sq xs) (sq ys) (i + 1)))), y5, y6, y7, ?_⟩
  simp only [ef] at h
  simp only [ej]
  simp [bodyT1, hh, h, hap]
theorem ev_law_together (hx : ∀ x ∈ xs, -5 ≤ x ∧ x ≤ 5) (hy : ∀ y ∈ ys, -5 ≤ y ∧ y ≤ 5) (hm : min xs.length ys.length ≤ 6) :
    g__law_together [some (.val (.tuple (rowI xs))), some (.val (.tuple (rowI ys)))] = .ok (.val (.tuple (rowI (tog xs ys (min xs.length ys.length))))) [none, none] := by
  obtain ⟨e', h1, x3, x4, x5, x6, x7, he⟩ := forGo_range (g := gNm 3) (mb := bodyT1) (fun i e => ∃ x3 x4 x5 x6 x7, e = ej xs ys i x3 x4 x5 x6 x7) 1 (min xs.length ys.length) (fun i hi e he => by
    obtain ⟨x3, x4, x5, x6, x7, rfl⟩ := he
    obtain ⟨y3, y4, y5, y6, y7, h⟩ := bodyT1_ok xs ys hx hy i (by omega) (by omega) (by omega) x4 x5 x6 x7
    exact ⟨_, _, rfl, h, _, _, _, _, _, rfl⟩) (ej xs ys 0 none none none none none) ⟨_, _, _, _, _, rfl⟩
  subst he
  have hr : ∀ e, kR22 (.int 1) (.int (((min xs.length ys.length : Nat) : Int) + 1)) e = .ok (rangeD 1 (min xs.length ys.length)) e := fun e => by
    rw [kR22_i _ _ _ (by omega), show (((min xs.length ys.length : Nat) : Int) + 1 - 1).toNat = min xs.length ys.length by omega]
  have hmn : dMin (.int (xs.length : Nat)) (.int (ys.length : Nat)) = some (.int ((min xs.length ys.length : Nat) : Int)) := by
    rw [dMin_i, min_nat]
  have h2 : forGo (gNm 3) bodyT1 (rangeD 1 (min xs.length ys.length)) [some (.val (.tuple (rowI xs))), some (.val (.tuple (rowI ys))), some (.ls []), none, none, none, none, none] = .ok .nx (ej xs ys (min xs.length ys.length) x3 x4 x5 x6 x7) := h1
  unfold bodyT1 bodyT2 bodyT3 at h2
  simp only [ej] at h2
  generalize min xs.length ys.length = m at *
  simp [g__law_together, runB, m__law_together, pb__law_together, endE, -dMin_i, hmn, hr, h2]
end
end K12

namespace K12
open PySem PySem.Spec PyProof.Rows L2 Dl
/-! ### cells -/
theorem cut_rowI (ns : List Int) (lo hi : Option Int) : cut (rowI ns) lo hi = rowI (cut ns lo hi) := by
  unfold cut
  rw [rowI_length, show rowI ns = ns.map PyData.int from rfl, ← List.map_drop, ← List.map_take]
  rfl
theorem cut_mem {α : Type} {xs : List α} {lo hi : Option Int} {x : α} (h : x ∈ cut xs lo hi) : x ∈ xs := List.mem_of_mem_drop (List.mem_of_mem_take h)
theorem cut_len {α : Type} (xs : List α) (lo hi : Option Int) : (cut xs lo hi).length ≤ xs.length := by
  unfold cut
  rw [List.length_take, List.length_drop]
  omega
theorem cut_mid (xs : List Int) (m : Nat) (h : (cut xs (some (m : Nat)) (some 63)) ≠ []) : m < xs.length := by
  by_cases hm : m < xs.length
  · exact hm
  · refine absurd ?_ h
    unfold cut
    rw [HT.sIx_nat, Nat.min_eq_right (by omega), List.drop_length, List.take_nil]
theorem rowI_set (cs : List Int) (i : Nat) (x : Int) : (rowI cs).set i (.int x) = rowI (cs.set i x) := List.map_set.symm
noncomputable def bodyX : MS := xSeq (xSet 5 (xBin dMod (xUn dInt (xp 3)) (xp 1)))
    (xSeq (xSub 2 (xBin dAdd (xBinV dIdx 2 (xp 5)) (xBinV dMul 4 (xBinV dAdd 3 (xk (.int 2))))) (xfr 5))
    (xNx))
noncomputable def ex' (ns : List Int) (m : Nat) (cs : List Int) (x3 x4 x5 : Option Cn) : Dl.Env := [some (.ro (rowI ns)), some (.val (.int (m : Nat))), some (.ls (rowI cs)), x3, x4, x5]
theorem ev_cells (ns : List Int) (m : Nat) (h1 : 1 ≤ m) (hm : m ≤ 63) (hn : ns.length ≤ 63) (hb : ∀ z ∈ ns, bits z ≤ 1048576) :
    ∃ cs, g__law_cells [some (.ro (rowI ns)), some (.val (.int (m : Nat)))] = .ok (.ls (rowI cs)) [some (.ro (rowI ns)), none] ∧ 1 ≤ cs.length ∧ cs.length ≤ m ∧ ∀ c ∈ cs, bits c ≤ 1049000 := by
  obtain ⟨c0, hc0, l1, l2, l3, b0⟩ : ∃ c0 : List Int, (xOrN (xUnN lList (xRoSl 0 (oNo) (oSo (xp 1)))) (xLst (xCons (xk (.int 0)) (xNil)))) [some (.ro (rowI ns)), some (.val (.int (m : Nat))), none, none, none, none] = .ok (.ls (rowI c0)) [some (.ro (rowI ns)), some (.val (.int (m : Nat))), none, none, none, none] ∧ 1 ≤ c0.length ∧ c0.length ≤ m ∧ (m < ns.length → c0.length = m) ∧ ∀ c ∈ c0, bits c ≤ 1048576 := by
    have hcut : cut (rowI ns) none (some (m : Nat)) = rowI (ns.take m) := cut_row ns m
    cases ns with
    | nil =>
      refine ⟨[0], ?_, by simp, by simp; exact h1, fun h => by simp at h, fun c hc => ?_⟩
      · rw [show rowI (([] : List Int).take m) = [] by simp [rowI]] at hcut
        simp [hcut]
        rfl
      · rcases List.mem_singleton.mp hc with rfl
        decide
    | cons x r =>
      obtain ⟨p, rfl⟩ : ∃ p, m = p + 1 := ⟨m - 1, by omega⟩
      refine ⟨(x :: r).take (p + 1), ?_, by simp, by simp; omega, fun h => by rw [List.length_take]; omega, fun c hc => hb c (List.mem_of_mem_take hc)⟩
      rw [List.take_succ_cons] at hcut ⊢
      have e : rowI (x :: r.take p) = .int x :: rowI (r.take p) := rfl
      rw [e] at hcut ⊢
      simp only [Int.natCast_add] at hcut ⊢
      simp at hcut
      simp [hcut]
  have hrest : ∀ e : Dl.Env, e[0]? = some (some (.ro (rowI ns))) → e[1]? = some (some (.val (.int (m : Nat)))) → (xRoSl 0 (oSo (xp 1)) (oSo (xk (.int 63)))) e = .ok (.list (rowI (cut ns (some (m : Nat)) (some 63)))) e := fun e h0 h1 => by
    simp [h0, h1, cut_rowI]
  obtain ⟨e', hf, hq⟩ := forGo_inv (g := gTp (gsCons (gNm 3) (gsCons (gNm 4) gsNil))) (mb := bodyX) (fun j e => ∃ cs x3 x4 x5, cs.length = c0.length ∧ (∀ c ∈ cs, bits c ≤ 1048700 + j) ∧ e = ex' ns m cs x3 x4 x5) (numbered (rowI (cut ns (some (m : Nat)) (some 63)))) 0 (fun j d hd e he => by
    obtain ⟨cs, x3, x4, x5, hl, hbc, rfl⟩ := he
    rw [Nat.zero_add] at hbc ⊢
    obtain ⟨y, hy, rfl⟩ := numbered_ix hd
    have hj : j < (cut ns (some (m : Nat)) (some 63)).length := by
      have := (List.getElem?_eq_some_iff.mp hy).1
      rwa [rowI_length] at this
    have hy2 := rowI_get (List.getElem?_eq_getElem hj)
    rw [hy] at hy2
    cases hy2
    generalize hz : (cut ns (some (m : Nat)) (some 63))[j] = z at *
    have hzm : z ∈ ns := cut_mem (hz ▸ List.getElem_mem hj)
    have hj63 : j < 63 := Nat.lt_of_lt_of_le hj (Nat.le_trans (cut_len _ _ _) hn)
    have hml : m < ns.length := cut_mid ns m (fun e => by rw [e] at hj; exact absurd hj (Nat.not_lt_zero _))
    have hlen : cs.length = m := hl.trans (l3 hml)
    have f1 : dMod (.int (j : Nat)) (.int (m : Nat)) = some (.int ((j % m : Nat) : Int)) := by
      rw [dMod_i _ _ (by omega)]
      rfl
    have hat : j % m < cs.length := by rw [hlen]; exact Nat.mod_lt _ (by omega)
    have f2 : atI (rowI cs) ((j % m : Nat) : Int) = some (.int (cs.getD (j % m) 0)) := rowI_at (i := j % m) rfl (by rw [List.getD_eq_getElem?_getD, List.getElem?_eq_getElem hat] <;> rfl)
    have bz := hb z hzm
    have bk : bits ((j : Int) + 2) ≤ 7 := intBits_le_iff.mpr (by omega)
    have f3 : dMul (.int z) (.int ((j : Int) + 2)) = some (.int (z * ((j : Int) + 2))) := dMul_i _ _ (Nat.le_trans bz (by decide)) (Nat.le_trans bk (by decide))
    have f4 : dIx (rowI cs).length (.int ((j % m : Nat) : Int)) = some (j % m) := by
      rw [rowI_length]
      exact dIx_nat _ _ hat
    have b1 := intBits_mul_le bz bk
    have bg : bits (cs.getD (j % m) 0) ≤ 1048700 + j := hbc _ (List.mem_of_getElem? (show cs[j % m]? = some _ by rw [List.getD_eq_getElem?_getD, List.getElem?_eq_getElem hat] <;> rfl))
    have b2 := intBits_add_le bg b1
    refine ⟨_, ex' ns m (cs.set (j % m) (cs.getD (j % m) 0 + z * ((j : Int) + 2))) (some (.val (.int (j : Nat)))) (some (.val (.int z))) (some (.val (.int ((j % m : Nat) : Int)))), rfl, .inl ?_, _, _, _, _, by rw [List.length_set]; exact hl, fun c hc => ?_, rfl⟩
    · show bodyX (ex' ns m cs (some (.val (.int (j : Nat)))) (some (.val (.int z))) x5) = _
      have f5 := rowI_set cs (j % m) (cs.getD (j % m) 0 + z * ((j : Int) + 2))
      simp only [ex']
      generalize cs.getD (j % m) 0 = g0 at *
      generalize j % m = jm at *
      rw [rowI_length] at f4
      simp [bodyX, f1, f2, f3, f4, f5]
    · rcases List.mem_or_eq_of_mem_set hc with hc | rfl
      · exact Nat.le_trans (hbc c hc) (by omega)
      · refine Nat.le_trans b2 ?_
        have := Nat.max_le.mpr ⟨Nat.le_refl (1048700 + j), show 1048576 + 7 ≤ 1048700 + j by omega⟩
        omega) (ex' ns m c0 none none none) ⟨c0, _, _, _, rfl, fun c hc => Nat.le_trans (b0 c hc) (by omega), rfl⟩
  rw [Nat.zero_add] at hq
  obtain ⟨cs, x3, x4, x5, hl, hbc, rfl⟩ := hq
  refine ⟨cs, ?_, by omega, by omega, fun c hc => Nat.le_trans (hbc c hc) (by
    have := cut_len ns (some (m : Nat)) (some 63)
    rw [numbered_length, rowI_length]
    omega)⟩
  have hr2 := hrest (ex' ns m c0 none none none) rfl rfl
  unfold bodyX at hf
  simp only [ex'] at hf hr2
  have e1 : m__law_cells [some (.ro (rowI ns)), some (.val (.int (m : Nat))), none, none, none, none] = .ok (.ret (.ls (rowI cs))) [some (.ro (rowI ns)), some (.val (.int (m : Nat))), none, x3, x4, x5] := by
    unfold m__law_cells
    rw [xSeq_ev, xSetN_ev, hc0]
    simp only [Out.bind_ok, kSetN_ev, kSeq_nx, xSeq_ev, xFor_ev, xIt_ev]
    rw [show List.set [some (Cn.ro (rowI ns)), some (.val (.int (m : Nat))), none, none, none, none] 2 (some (.ls (rowI c0))) = [some (Cn.ro (rowI ns)), some (.val (.int (m : Nat))), some (.ls (rowI c0)), none, none, none] from rfl, hr2]
    simp [hf]
  have e2 : g__law_cells [some (.ro (rowI ns)), some (.val (.int (m : Nat)))] = runB pb__law_cells 4 m__law_cells [some (.ro (rowI ns)), some (.val (.int (m : Nat)))] := rfl
  rw [e2]
  unfold runB
  rw [show [some (Cn.ro (rowI ns)), some (.val (.int (m : Nat)))] ++ List.replicate 4 none = [some (Cn.ro (rowI ns)), some (.val (.int (m : Nat))), none, none, none, none] from rfl, e1]
  rfl
theorem ev_box (cs : List Int) (k : Nat) (hk : k < cs.length) (hk2 : k ≤ 1000) (hb : ∀ c ∈ cs, bits c ≤ 1049000) :
    ∃ t, g__law_box [some (.val (.list (rowI cs))), some (.val (.int (k : Nat)))] = .ok (.ls t) [none, none] ∧ Tin 0 t := by
  have hg : cs[k]? = some (cs.getD k 0) := by rw [List.getD_eq_getElem?_getD, List.getElem?_eq_getElem hk] <;> rfl
  have hx := hb _ (List.mem_of_getElem? hg)
  generalize cs.getD k 0 = x at hg hx
  have f0 : atI (rowI cs) ((k : Nat) : Int) = some (.int x) := rowI_at (i := k) rfl hg
  have f1 : dPow (.int 10) (.int 18) = some (.int 1000000000000000000) := dPow_i _ _ ⟨by decide, by decide, by decide⟩
  have f2 : dMod (.int x) (.int 2305843009213693951) = some (.int (x % 2305843009213693951)) := dMod_i _ _ (by decide)
  have f3 : dMul (.int 39373) (.int (k : Nat)) = some (.int (39373 * (k : Nat))) := dMul_i _ _ (bits_small (by omega)) (bits_small (by omega))
  have bx : bits (if x < 0 then -x else x) ≤ 1049000 := by
    split
    · exact intBits_neg_le hx
    · exact hx
  have f4 : ∀ b : Bool, dMul (.int (if x < 0 then -x else x)) (.int (if b then 1 else 0)) = some (.int ((if x < 0 then -x else x) * (if b then 1 else 0))) := fun b => dMul_i _ _ (Nat.le_trans bx (by decide)) (by cases b <;> exact bits_small (by decide))
  have hl : decide (k < cs.length) = true := decide_eq_true hk
  have q := Int.emod_nonneg x (show (2305843009213693951 : Int) ≠ 0 by decide)
  have q2 := Int.emod_lt_of_pos x (show (0 : Int) < 2305843009213693951 by decide)
  refine ⟨tinD ((if x < 0 then -x else x) * (if (1000000000000000000 : Int) ≤ (if x < 0 then -x else x) then 1 else 0)) (x % 2305843009213693951 + 39373 * (k : Nat) + 8900000) 0, ?_, ⟨_, _, _, rfl, by omega, by omega, by omega, by omega⟩⟩
  have f5 := f4 (decide ((1000000000000000000 : Int) ≤ (if x < 0 then -x else x)))
  simp only [decide_eq_true_eq] at f5
  generalize hax : (if x < 0 then -x else x) = ax at *
  have f6 : dAbs (.int x) = some (.int ax) := by rw [dAbs_i, hax]
  simp only [tinD]
  simp [g__law_box, runB, m__law_box, pb__law_box, endE, -dAbs_i, f0, f1, f2, f3, f5, f6, hl]
end K12

namespace K12
open PySem PySem.Spec PyProof.Rows L2 Dl
noncomputable def lr1 : MS := xPar 1 2 (aVal (xFz (xCall 2 g__law_some [some 0, none] (aIoL 0 (aVal (xBin dAdd (xk (.int 1)) (xFz (xCall 2 g__law_take [some 0, none] (aIoL 0 (aVal (xk (.int 6)) (aNil)))))) (aNil))))) (aVal (xFz (xCall 2 g__law_some [some 0, none] (aIoL 0 (aVal (xBin dAdd (xk (.int 1)) (xFz (xCall 2 g__law_take [some 0, none] (aIoL 0 (aVal (xk (.int 6)) (aNil)))))) (aNil))))) (aNil)))
noncomputable def lr2 : MS := xSet 3 (xFz (xCall 2 g__law_together [none, none] (aVal (xfr 1) (aVal (xfr 2) (aNil)))))
noncomputable def lr3 : MS := xSet 4 (xUn dTup (xFz (xLc [5, 6] (xIt (fun d => (asSeq d).map numbered) (xfr 2)) (gTp (gsCons (gNm 5) (gsCons (gNm 6) (gsNil)))) (xYes) (xIf (toB (xBin dEq (xBinV dMod 5 (xk (.int 2))) (xk (.int 0)))) (xfr 6) (xBin dSub (xk (.int 0)) (xp 6))))))
noncomputable def lr4 : MS := xSet 7 (xFz (xLst (xCons (xFz (xCall 2 g_put_together [none, none] (aVal (xFz (xCall 2 g__law_mixed [some 0, none] (aIoL 0 (aVal (xfr 1) (aNil))))) (aVal (xfr 2) (aNil))))) (xCons (xFz (xCallK 2 0 2 g_put_together (permIx [1, 0]) xNil (xCons (xFz (xUnN lList (xp 2))) (xCons (xfr 1) (xNil))))) (xCons (xFz (xCallK 1 0 1 g_turned_row (permIx [0]) xNil (xCons (xfr 2) (xNil)))) (xCons (xFz (xCall 1 g_turned_row [none] (aVal (xFz (xCall 1 g_turned_row [none] (aVal (xfr 1) (aNil)))) (aNil)))) (xNil)))))))
noncomputable def lr5 : MS := xIfS (xNot (toB (xFz (xCall 2 g__law_same [none, none] (aVal (xfr 7) (aVal (xFz (xLst (xCons (xfr 3) (xCons (xfr 3) (xCons (xfr 4) (xCons (xfr 1) (xNil))))))) (aNil))))))) (xSeq (xRetE (xk (.bool false)))
    (xNx)) (xNx)
noncomputable def lr6 : MS := xSet 8 (xFz (xCall 2 g__law_together [none, none] (aVal (xfr 1) (aVal (xfr 4) (aNil)))))
noncomputable def lr7 : MS := xSetN 9 (xLc [5, 6] (xIt (fun d => (asSeq d).map numbered) (xfr 8)) (gTp (gsCons (gNm 5) (gsCons (gNm 6) (gsNil)))) (toB (xBinV dNe 6 (xUn dInt (xBinV dEq 5 (xk (.int 0)))))) (xBinV dAdd 5 (xk (.int 1))))
noncomputable def lr8 : MS := xIfS (xNot (toB (xFz (xCall 2 g__law_same [none, none] (aVal (xFz (xLst (xCons (xFz (xCall 2 g_first_apart [none, none] (aVal (xfr 1) (aVal (xfr 2) (aNil))))) (xCons (xFz (xCallK 2 0 2 g_do_match (permIx [1, 0]) xNil (xCons (xfr 2) (xCons (xfr 1) (xNil))))) (xNil))))) (aVal (xFz (xLst (xCons (xIf (toB (xBinV dNe 9 (xFz (xLst (xNil))))) (xBinV dIdx 9 (xk (.int 0))) (xk .none)) (xCons (xBinV dEq 9 (xFz (xLst (xNil)))) (xNil))))) (aNil))))))) (xSeq (xRetE (xk (.bool false)))
    (xNx)) (xNx)
noncomputable def lr9 : MS := xSet 10 (xBin dAdd (xk (.int 8)) (xFz (xCall 2 g__law_take [some 0, none] (aIoL 0 (aVal (xk (.int 13)) (aNil))))))
noncomputable def lr10 : MS := xAsg (xFz (xLc [12] (xRng1 (xk (.int 3))) (gNm 12) (xYes) (xFz (xCall 2 g__law_some [some 0, none] (aIoL 0 (aVal (xfr 10) (aNil))))))) (gUl (gsCons (gNm 1) (gsCons (gNm 2) (gsCons (gNm 11) (gsNil)))))
noncomputable def lr11 : MS := xIfS (toB (xBin dNe (xFz (xCall 2 g_put_together [none, none] (aVal (xFz (xCall 2 g_put_together [none, none] (aVal (xfr 1) (aVal (xfr 2) (aNil))))) (aVal (xfr 11) (aNil))))) (xFz (xCall 2 g_put_together [none, none] (aVal (xfr 1) (aVal (xFz (xCall 2 g_put_together [none, none] (aVal (xfr 2) (aVal (xfr 11) (aNil))))) (aNil))))))) (xSeq (xRetE (xk (.bool false)))
    (xNx)) (xNx)
noncomputable def lr12 : MS := xSet 13 (xBin dAdd (xTup (xCons (xk (.int 1)) (xNil))) (xBin dMul (xTup (xCons (xk (.int 0)) (xNil))) (xBinV dSub 10 (xk (.int 1)))))
noncomputable def lr13 : MS := xIfS (xNot (toB (xFz (xCall 2 g__law_same [none, none] (aVal (xFz (xLst (xCons (xFz (xCall 2 g_put_together [none, none] (aVal (xfr 1) (aVal (xfr 13) (aNil))))) (xCons (xFz (xCall 2 g_put_together [none, none] (aVal (xfr 13) (aVal (xfr 1) (aNil))))) (xCons (xBin dEq (xFz (xCall 1 g__law_heard [none] (aVal (xfr 1) (aNil)))) (xFz (xLst (xCons (xk (.str ("cannot" : Str))) (xCons (xk (.bool true)) (xNil)))))) (xNil)))))) (aVal (xFz (xLst (xCons (xfr 1) (xCons (xfr 1) (xCons (xBin dNe (xBinV dIdx 1 (xk (.int 0))) (xk (.int 1))) (xNil)))))) (aNil))))))) (xSeq (xRetE (xk (.bool false)))
    (xNx)) (xNx)
noncomputable def lr14 : MS := xSet 1 (xBin dAdd (xTup (xCons (xk (.int 1)) (xNil))) (xSlV dSl 1 (oSo (xk (.int 1))) (oNo)))
noncomputable def lr15 : MS := xSet 14 (xFz (xCall 1 g__law_heard [none] (aVal (xFz (xCall 2 g__law_mixed [some 0, none] (aIoL 0 (aVal (xfr 1) (aNil))))) (aNil))))
noncomputable def lr16 : MS := xIfS (xNot (toB (xFz (xCall 2 g__law_same [none, none] (aVal (xFz (xLst (xCons (xFz (xCall 2 g_put_together [none, none] (aVal (xfr 1) (aVal (xfr 14) (aNil))))) (xCons (xFz (xCall 2 g_put_together [none, none] (aVal (xfr 14) (aVal (xfr 1) (aNil))))) (xCons (xFz (xCall 1 g_contrary_row [none] (aVal (xfr 14) (aNil)))) (xNil)))))) (aVal (xFz (xLst (xCons (xfr 13) (xCons (xfr 13) (xCons (xfr 1) (xNil)))))) (aNil))))))) (xSeq (xRetE (xk (.bool false)))
    (xNx)) (xNx)
noncomputable def lr17 : MS := xSet 15 (xFz (xCall 1 g_contrary_row [none] (aVal (xFz (xCall 1 g_turned_row [none] (aVal (xfr 1) (aNil)))) (aNil))))
noncomputable def lr18 : MS := xSet 5 (xBin dAdd (xk (.int 1)) (xFz (xCall 2 g__law_take [some 0, none] (aIoL 0 (aVal (xBinV dSub 10 (xk (.int 1))) (aNil))))))
noncomputable def lr19 : MS := xSet 16 (xBin dAdd (xBin dAdd (xSlV dSl 15 (oNo) (oSo (xp 5))) (xTup (xCons (xBin dAdd (xBin dAdd (xBinV dIdx 15 (xp 5)) (xk (.int 1))) (xFz (xCall 2 g__law_take [some 0, none] (aIoL 0 (aVal (xk (.int 3)) (aNil)))))) (xNil)))) (xSlV dSl 15 (oSo (xBinV dAdd 5 (xk (.int 1)))) (oNo)))
noncomputable def lr20 : MS := xSet 7 (xFz (xLst (xCons (xFz (xCall 2 g_do_match [none, none] (aVal (xfr 15) (aVal (xfr 1) (aNil))))) (xCons (xFz (xCall 2 g_do_match [none, none] (aVal (xfr 1) (aVal (xfr 15) (aNil))))) (xCons (xFz (xCall 2 g_first_apart [none, none] (aVal (xfr 16) (aVal (xfr 1) (aNil))))) (xCons (xFz (xCall 2 g_first_apart [none, none] (aVal (xfr 1) (aVal (xfr 16) (aNil))))) (xCons (xFz (xCall 2 g_first_apart [none, none] (aVal (xfr 15) (aVal (xfr 1) (aNil))))) (xNil))))))))
noncomputable def lr21 : MS := xIfS (xNot (toB (xFz (xCall 2 g__law_same [none, none] (aVal (xfr 7) (aVal (xFz (xLst (xCons (xk (.bool true)) (xCons (xk (.bool true)) (xCons (xBinV dAdd 5 (xk (.int 1))) (xCons (xBinV dAdd 5 (xk (.int 1))) (xCons (xk .none) (xNil)))))))) (aNil))))))) (xSeq (xRetE (xk (.bool false)))
    (xNx)) (xNx)
noncomputable def lr22 : MS := xSet 17 (xFz (xLst (xCons (xTup (xNil)) (xCons (xFz (xUnN lList (xp 1))) (xCons (xTup (xCons (xk (.int 1)) (xCons (xk .none) (xNil)))) (xCons (xTup (xCons (xk (.bool true)) (xNil))) (xCons (xk (.int 3)) (xCons (xk (.str ("1" : Str))) (xCons (xBin dMul (xTup (xCons (xk (.int 0)) (xNil))) (xk (.int 41))) (xCons (xk .none) (xNil)))))))))))
noncomputable def lr23 : MS := xRetE (xFz (xCall 2 g__law_same [none, none] (aVal (xBin dAdd (xFz (xLc [6] (xIt asSeq (xfr 17)) (gNm 6) (xYes) (xFz (xCall 1 g_is_row [none] (aVal (xfr 6) (aNil)))))) (xFz (xLst (xCons (xFz (xCall 1 g_is_row [none] (aVal (xBin dMul (xTup (xCons (xk (.int 0)) (xNil))) (xk (.int 40))) (aNil)))) (xCons (xFz (xCall 1 g_is_row [none] (aVal (xfr 1) (aNil)))) (xNil)))))) (aVal (xBin dAdd (xBin dMul (xFz (xLst (xCons (xk (.bool false)) (xNil)))) (xk (.int 8))) (xFz (xLst (xCons (xk (.bool true)) (xCons (xk (.bool true)) (xNil)))))) (aNil)))))
theorem lr_all : m__law_right g_is_row g_put_together g_turned_row g_contrary_row g_do_match g_first_apart g__law_take g__law_mixed g__law_same g__law_together g__law_heard g__law_some = xSeq lr1 (xSeq lr2 (xSeq lr3 (xSeq lr4 (xSeq lr5 (xSeq lr6 (xSeq lr7 (xSeq lr8 (xSeq lr9 (xSeq lr10 (xSeq lr11 (xSeq lr12 (xSeq lr13 (xSeq lr14 (xSeq lr15 (xSeq lr16 (xSeq lr17 (xSeq lr18 (xSeq lr19 (xSeq lr20 (xSeq lr21 (xSeq lr22 (xSeq lr23 (xNx))))))))))))))))))))))) := rfl
/-! ### sizes -/
theorem bits_sm (F : Nat → Int) (B : Nat) : ∀ n, (∀ i, i < n → bits (F i) ≤ B) → bits (Sq.sm F n) ≤ B + n
  | 0, _ => by
    show bits 0 ≤ _
    exact Nat.le_trans (show bits 0 ≤ 0 by decide) (Nat.zero_le _)
  | n + 1, h => by
    have a := bits_sm F B n fun i hi => h i (by omega)
    have b := h n (by omega)
    have c := intBits_add_le a b
    show Builtin.Int.intBits (Sq.sm F n + F n) ≤ _
    have := Nat.max_le.mpr ⟨Nat.le_refl (B + n), show B ≤ B + n by omega⟩
    omega
def zz : Nat := 2 ^ 6000
theorem zz_eq : zz = 2 ^ 6000 := rfl
theorem zz_pow (k : Nat) : zz ^ k = 2 ^ (6000 * k) := by rw [zz_eq, ← Nat.pow_mul]
theorem zz_pos : 1 ≤ zz := Nat.pow_pos (by decide)
/-- an upper bound that putting in bears -/
structure Gd (h : Sq.S) : Prop where
  ex : ∃ e c T : Nat, 1 ≤ e ∧ 1 ≤ T ∧ c ≤ zz ∧ T ≤ zz ∧ ∀ i, 1 ≤ i → e * (h i).natAbs ≤ c * T ^ i
theorem Gd.imp {h h' : Sq.S} (G : Gd h) (q : ∀ i, 1 ≤ i → (h' i).natAbs ≤ (h i).natAbs) : Gd h' := by
  obtain ⟨e, c, T, h1, h2, h3, h4, h5⟩ := G.ex
  exact ⟨e, c, T, h1, h2, h3, h4, fun i hi => Nat.le_trans (Nat.mul_le_mul_left e (q i hi)) (h5 i hi)⟩
theorem Gd.of_bits {h : Sq.S} (b : ∀ i, 1 ≤ i → bits (h i) ≤ 6000) : Gd h :=
  ⟨1, zz, 1, Nat.le_refl 1, Nat.le_refl 1, Nat.le_refl _, zz_pos, fun i hi => by
    rw [Nat.one_mul, Nat.one_pow, Nat.mul_one, zz_eq]
    exact Nat.le_of_lt (intBits_le_iff.mp (b i hi))⟩
theorem Gd.P {h : Sq.S} (G : Gd h) (k n : Nat) (hk : k ≤ 40) (hn : n ≤ 40) : bits (Sq.P h k n) ≤ 500000 := by
  obtain ⟨e, c, T, h1, h2, h3, h4, h5⟩ := G.ex
  have b := Sq.P_bound h2 h5 k n
  have b1 : (Sq.P h k n).natAbs ≤ e ^ k * (Sq.P h k n).natAbs := Nat.le_mul_of_pos_left _ (Nat.pow_pos h1)
  have b2 : c ^ k * T ^ n * 2 ^ (n * n) ≤ zz ^ k * zz ^ n * 2 ^ (n * n) := Nat.mul_le_mul_right _ (Nat.mul_le_mul (Nat.pow_le_pow_left h3 k) (Nat.pow_le_pow_left h4 n))
  rw [zz_pow, zz_pow, ← Nat.pow_add, ← Nat.pow_add] at b2
  refine intBits_le_iff.mpr (Nat.lt_of_le_of_lt (Nat.le_trans b1 (Nat.le_trans b b2)) (Nat.pow_lt_pow_right (by decide) ?_))
  have : n * n ≤ 40 * 40 := Nat.mul_le_mul hn hn
  omega
theorem Gd.bits {h : Sq.S} (G : Gd h) (n : Nat) (h1 : 1 ≤ n) (hn : n ≤ 40) : bits (h n) ≤ 500000 := by
  obtain ⟨m, rfl⟩ : ∃ m, n = m + 1 := ⟨n - 1, by omega⟩
  have := G.P 1 (m + 1) (by decide) hn
  rw [Sq.P_ss] at this
  have e : Sq.mul (Sq.d h) (Sq.P h 0) m = h (m + 1) := by
    show Sq.mul (Sq.d h) Sq.one m = _
    rw [Sq.mul_oner]
    rfl
  rw [e] at this
  exact this
theorem small_of {m : Nat} {xs ys : List Int} (hm : m ≤ 40) (lx : m ≤ xs.length) (lx2 : xs.length ≤ 40) (ly : m ≤ ys.length) (ly2 : ys.length ≤ 40) (hx : Gd (sq xs)) (hy : Gd (sq ys)) : Small m xs ys := by
  have mem : ∀ (zs : List Int), zs.length ≤ 40 → Gd (sq zs) → ∀ z ∈ zs, bits z ≤ 1000000 := fun zs hl G z hz => by
    obtain ⟨i, hi, rfl⟩ := List.getElem_of_mem hz
    have e := sq_get hi
    rw [List.getElem?_eq_getElem hi] at e
    rw [Option.some.inj e]
    exact Nat.le_trans (G.bits (i + 1) (by omega) (by omega)) (by decide)
  exact ⟨by omega, lx, ly, mem xs lx2 hx, mem ys ly2 hy, fun k n hk hn => Nat.le_trans (hy.P k n (by omega) (by omega)) (by decide)⟩
/-- rows of small numbers -/
def R5 (xs : List Int) : Prop := ∀ x ∈ xs, -5 ≤ x ∧ x ≤ 5
theorem R5.at5 {xs : List Int} (h : R5 xs) (i : Nat) : -5 ≤ sq xs i ∧ sq xs i ≤ 5 := by
  cases i with
  | zero => exact ⟨(by decide : (-5 : Int) ≤ 0), (by decide : (0 : Int) ≤ 5)⟩
  | succ i =>
    by_cases hi : i < xs.length
    · exact h _ (List.mem_of_getElem? (sq_get hi))
    · rw [sq_over (by omega)]
      exact ⟨by decide, by decide⟩
theorem R5.gd {xs : List Int} (h : R5 xs) : Gd (sq xs) := Gd.of_bits fun i _ => Nat.le_trans (bits3 (h.at5 i)) (by decide)
theorem sq_take_le (xs : List Int) (m i : Nat) : (sq (xs.take m) i).natAbs ≤ (sq xs i).natAbs := by
  by_cases h : i ≤ m
  · rw [sq_take xs m i h]; exact Nat.le_refl _
  · rw [sq_over (by rw [List.length_take]; omega)]
    exact Nat.zero_le _
theorem gd_take {xs : List Int} (G : Gd (sq xs)) (m : Nat) : Gd (sq (xs.take m)) := G.imp fun i _ => sq_take_le xs m i
theorem sgn_abs (f : Sq.S) (i : Nat) : (Sq.sgn f i).natAbs = (f i).natAbs := by
  show (-1 * (Sq.sg i * f i)).natAbs = _
  rw [sg_par]
  split <;> omega
theorem gd_sgn {xs : List Int} (G : Gd (sq xs)) : Gd (sq (sgnL xs)) := G.imp fun i _ => by
  rw [sq_sgnL, sgn_abs]
  exact Nat.le_refl _
theorem R5.sgn {xs : List Int} (h : R5 xs) : R5 (sgnL xs) := fun x hx => by
  obtain ⟨i, hi, rfl⟩ := List.mem_map.mp hx
  have := h.at5 (i + 1)
  have e := sgn_abs (sq xs) (i + 1)
  omega
/-- two small rows put together -/
theorem gd_tog {xs ys : List Int} (hx : R5 xs) (hy : R5 ys) (m : Nat) (hm : m ≤ 20) : Gd (sq (tog xs ys m)) := by
  refine Gd.of_bits fun i hi => ?_
  obtain ⟨n, rfl⟩ : ∃ n, i = n + 1 := ⟨i - 1, by omega⟩
  by_cases hn : n < m
  · show bits (sq ((List.range m).map fun j => Sq.comp (sq xs) (sq ys) (j + 1)) (n + 1)) ≤ _
    rw [sq_map (fun j => Sq.comp (sq xs) (sq ys) (j + 1)) m n hn]
    refine Nat.le_trans (bits_sm (fun k => sq xs k * Sq.P (sq ys) k (n + 1)) 900 (n + 1 + 1) fun k hk => ?_) (by omega)
    have b := Sq.P_bound (h := sq ys) (e := 1) (c := 8) (T := 1) (Nat.le_refl 1) (fun i _ => by
      have := hy.at5 i
      rw [Nat.one_pow]
      omega) k (n + 1)
    rw [Nat.one_pow, Nat.one_pow, Nat.one_mul, Nat.mul_one] at b
    have e8 : (8 : Nat) ^ k = 2 ^ (3 * k) := by rw [Nat.pow_mul]
    rw [e8, ← Nat.pow_add] at b
    have bp : bits (Sq.P (sq ys) k (n + 1)) ≤ 3 * k + (n + 1) * (n + 1) + 1 := intBits_le_iff.mpr (Nat.lt_of_le_of_lt b (Nat.pow_lt_pow_right (by decide) (Nat.lt_succ_self _)))
    have := intBits_mul_le (bits3 (hx.at5 k)) bp
    have h3 : (n + 1) * (n + 1) ≤ 20 * 20 := Nat.mul_le_mul (by omega) (by omega)
    exact Nat.le_trans this (by omega)
  · rw [sq_over (by rw [tog_length]; omega)]
    exact Nat.le_trans (show bits 0 ≤ 0 by decide) (Nat.zero_le _)
end K12

namespace K12
open PySem PySem.Spec PyProof.Rows L2 Dl
theorem sq_app (xs : List Int) (v : Int) (i : Nat) : sq (xs ++ [v]) i = if i = xs.length + 1 then v else sq xs i := by
  cases i with
  | zero => rw [if_neg (by omega)]; rfl
  | succ i =>
    rw [sq_s, sq_s, List.getD_eq_getElem?_getD, List.getD_eq_getElem?_getD]
    by_cases h : i < xs.length
    · rw [if_neg (by omega), List.getElem?_append_left h]
    · by_cases e : i = xs.length
      · subst e
        rw [if_pos rfl, List.getElem?_append_right (Nat.le_refl _), Nat.sub_self]
        rfl
      · rw [if_neg (by omega), List.getElem?_eq_none (by rw [List.length_append, List.length_singleton]; omega), List.getElem?_eq_none (by omega)]
theorem sq_app0 (xs : List Int) (i : Nat) : sq (xs ++ [0]) i = sq xs i := by
  rw [sq_app]
  split
  · rename_i h
    rw [sq_over (by omega)]
  · rfl
theorem sq_tog (xs ys : List Int) (m n : Nat) (h : n < m) : sq (tog xs ys m) (n + 1) = Sq.comp (sq xs) (sq ys) (n + 1) := sq_map (fun j => Sq.comp (sq xs) (sq ys) (j + 1)) m n h
theorem sq_tog' (xs ys : List Int) (m i : Nat) (h : i ≤ m) : sq (tog xs ys m) i = Sq.comp (sq xs) (sq ys) i := by
  cases i with
  | zero => rw [Sq.comp_0]; rfl
  | succ i => exact sq_tog xs ys m i h
theorem tog_ext {xs ys zs : List Int} {m : Nat} (hl : zs.length = m) (h : ∀ n, 1 ≤ n → n ≤ m → Sq.comp (sq xs) (sq ys) n = sq zs n) : tog xs ys m = zs := by
  refine sq_ext (by rw [tog_length, hl]) fun n hn => ?_
  rw [tog_length] at hn
  rw [sq_tog xs ys m n hn]
  exact h (n + 1) (by omega) (by omega)
theorem tog_assoc (a b c : List Int) (m : Nat) : tog (tog a b m) c m = tog a (tog b c m) m := by
  refine tog_ext (tog_length ..) fun n h1 h2 => ?_
  rw [sq_tog' a (tog b c m) m n h2, Sq.comp_congr n (f' := Sq.comp (sq a) (sq b)) (h' := sq c) (fun i hi => sq_tog' a b m i (by omega)) (fun _ _ _ => rfl), Sq.comp_assoc]
  exact Sq.comp_congr n (fun _ _ => rfl) fun i _ hi => (sq_tog' b c m i (by omega)).symm
/-! ### the lone one -/
def loneL (n : Nat) : List Int := 1 :: List.replicate (n - 1) 0
theorem loneL_length (n : Nat) (h : 1 ≤ n) : (loneL n).length = n := by
  unfold loneL
  rw [List.length_cons, List.length_replicate]
  omega
theorem sq_loneL (n i : Nat) : sq (loneL n) i = Sq.lone i := by
  match i with
  | 0 => rfl
  | 1 => rfl
  | i + 2 =>
    show (loneL n).getD (i + 1) 0 = 0
    rw [List.getD_eq_getElem?_getD]
    show ((List.replicate (n - 1) (0 : Int))[i]?).getD 0 = 0
    rw [List.getElem?_replicate]
    split <;> rfl
theorem comp_loneL (f : Sq.S) (m n : Nat) : Sq.comp f (sq (loneL m)) n = f n := by
  rw [← Sq.comp_lone f n]
  exact Sq.comp_congr n (fun _ _ => rfl) fun i _ _ => sq_loneL m i
theorem loneL_comp (h : Sq.S) (m n : Nat) (hn : 1 ≤ n) : Sq.comp (sq (loneL m)) h n = h n := by
  rw [← Sq.lone_comp h n hn]
  exact Sq.comp_congr n (fun i _ => sq_loneL m i) fun _ _ _ => rfl
theorem tog_lone_r (xs : List Int) (m : Nat) (h : xs.length = m) : tog xs (loneL m) m = xs := tog_ext h fun n _ _ => comp_loneL _ m n
theorem tog_lone_l (xs : List Int) (m : Nat) (h : xs.length = m) : tog (loneL m) xs m = xs := tog_ext h fun n h1 _ => loneL_comp _ m n h1
theorem tog_is_lone {xs ys : List Int} {m : Nat} (hm : 1 ≤ m) (h : ∀ n, 1 ≤ n → n ≤ m → Sq.comp (sq xs) (sq ys) n = Sq.lone n) : tog xs ys m = loneL m := tog_ext (loneL_length m hm) fun n h1 h2 => by rw [h n h1 h2, sq_loneL]
/-! ### contrary rows -/
theorem invS_1 (xs : List Int) : ∀ n, sq (invS xs n) 1 = 1
  | 0 => rfl
  | n + 1 => by
    show sq (invS xs n ++ [_]) 1 = 1
    rw [sq_app, if_neg (by rw [invS_length]; omega)]
    exact invS_1 xs n
theorem inv_right {xs : List Int} (h1 : sq xs 1 = 1) : ∀ n i, 1 ≤ i → i ≤ n + 1 → Sq.comp (sq xs) (sq (invS xs n)) i = Sq.lone i
  | 0, i, a, b => by
    have : i = 1 := by omega
    subst this
    rw [comp_sm]
    show (0 : Int) + sq xs 1 * Sq.P (sq (invS xs 0)) 1 1 = 1
    rw [h1, Sq.P_diag]
    rfl
  | n + 1, i, a, b => by
    show Sq.comp (sq xs) (sq (invS xs n ++ [_])) i = _
    by_cases e : i = n + 2
    · subst e
      have q := Sq.comp_last_r (f := sq xs) (h := sq (invS xs n ++ [-(Sq.comp (sq xs) (sq (invS xs n ++ [0])) (n + 2))])) (h' := sq (invS xs n ++ [0])) (n := n + 2) (by omega) fun i _ hi => by
        rw [sq_app, sq_app, if_neg (by rw [invS_length]; omega), if_neg (by rw [invS_length]; omega)]
      rw [sq_app (invS xs n) _ (n + 2), sq_app (invS xs n) 0 (n + 2), if_pos (by rw [invS_length]), if_pos (by rw [invS_length]), h1] at q
      show _ = (if n + 2 = 1 then (1 : Int) else 0)
      rw [if_neg (by omega)]
      omega
    · rw [← inv_right h1 n i a (by omega)]
      exact Sq.comp_congr i (fun _ _ => rfl) fun j _ hj => by rw [sq_app, if_neg (by rw [invS_length]; omega)]
/-- the contrary row of the contrary row -/
theorem inv_inv {xs : List Int} (h1 : sq xs 1 = 1) {L : Nat} (hl : xs.length = L + 1) : ∀ n, n ≤ L → invS (invS xs L) n = xs.take (n + 1) := by
  have r : ∀ i, 1 ≤ i → i ≤ L + 1 → Sq.comp (sq xs) (sq (invS xs L)) i = Sq.lone i := inv_right h1 L
  have l : ∀ i, 1 ≤ i → i ≤ L + 1 → Sq.comp (sq (invS xs L)) (sq xs) i = Sq.lone i := Sq.left_inv (L := L + 1) rfl (invS_1 xs L) r
  intro n hn
  refine sq_ext (by rw [invS_length, List.length_take]; omega) fun k hk => ?_
  rw [invS_length] at hk
  rw [sq_take xs (n + 1) (k + 1) (by omega)]
  refine Sq.inv_uniq (f := sq (invS xs L)) (invS_1 xs L) (k + 1) (by omega) fun i a b => ?_
  rw [l i a (by omega)]
  exact inv_right (invS_1 xs L) n i a (by omega)
/-! ### how large contrary rows become -/
theorem abs_sum (c B : Nat) (F : Nat → Int) : ∀ m, (∀ k, k < m → c * (F k).natAbs ≤ B) → c * (Sq.sm F m).natAbs ≤ m * B
  | 0, _ => by
    show c * 0 ≤ _
    omega
  | m + 1, h => by
    have a := abs_sum c B F m fun k hk => h k (by omega)
    have b := h m (by omega)
    have e : (Sq.sm F m + F m).natAbs ≤ (Sq.sm F m).natAbs + (F m).natAbs := Int.natAbs_add_le _ _
    have e2 := Nat.mul_le_mul_left c e
    rw [Nat.mul_add] at e2
    show c * (Sq.sm F m + F m).natAbs ≤ (m + 1) * B
    rw [Nat.add_mul, Nat.one_mul]
    omega
def tt : Nat := 2 ^ 3000
theorem tt_eq : tt = 2 ^ 3000 := rfl
theorem inv_bound {xs : List Int} (hx : R5 xs) : ∀ n, n ≤ 30 → ∀ i, 1 ≤ i → tt * (sq (invS xs n) i).natAbs ≤ 1 * tt ^ i
  | 0, _, i, hi => by
    by_cases e : i = 1
    · subst e
      rw [invS_1, Nat.pow_one, Nat.one_mul]
      exact Nat.le_of_eq (Nat.mul_one _)
    · rw [sq_over (by show 1 < i; omega)]
      exact Nat.zero_le _
  | n + 1, hn, i, hi => by
    have ih := inv_bound hx n (by omega)
    show tt * (sq (invS xs n ++ [_]) i).natAbs ≤ _
    rw [sq_app]
    by_cases e : i = (invS xs n).length + 1
    · rw [if_pos e, e, invS_length, Int.natAbs_neg]
      have tpos : 1 ≤ tt := Nat.pow_pos (by decide)
      have hP := fun k => Sq.P_bound (h := sq (invS xs n ++ [0])) (e := tt) (c := 1) (T := tt) tpos (fun i hi => by rw [sq_app0]; exact ih i hi) k (n + 2)
      -- every part, tt twice
      have part : ∀ k, k < n + 3 → tt ^ 2 * (sq xs k * Sq.P (sq (invS xs n ++ [0])) k (n + 2)).natAbs ≤ 5 * (tt ^ (n + 2) * 2 ^ ((n + 2) * (n + 2))) := fun k hk => by
        rw [Int.natAbs_mul]
        have h5 := hx.at5 k
        have a5 : (sq xs k).natAbs ≤ 5 := by omega
        match k, hP k, a5 with
        | 0, _, _ =>
          show tt ^ 2 * (0 * _) ≤ _
          rw [Nat.zero_mul]
          exact Nat.zero_le _
        | 1, _, _ =>
          have z : Sq.P (sq (invS xs n ++ [0])) 1 (n + 2) = 0 := by
            rw [Sq.P_ss]
            show Sq.mul (Sq.d (sq (invS xs n ++ [0]))) Sq.one (n + 1) = 0
            rw [Sq.mul_oner]
            show sq (invS xs n ++ [0]) (n + 2) = 0
            rw [sq_app0, sq_over (by rw [invS_length]; omega)]
          rw [z]
          show tt ^ 2 * (_ * 0) ≤ _
          rw [Nat.mul_zero]
          exact Nat.zero_le _
        | k + 2, hp, a5 =>
          rw [Nat.one_pow, Nat.one_mul] at hp
          have p2 : tt ^ 2 * (Sq.P (sq (invS xs n ++ [0])) (k + 2) (n + 2)).natAbs ≤ tt ^ (k + 2) * (Sq.P (sq (invS xs n ++ [0])) (k + 2) (n + 2)).natAbs := Nat.mul_le_mul_right _ (Nat.pow_le_pow_right tpos (by omega))
          calc tt ^ 2 * ((sq xs (k + 2)).natAbs * (Sq.P (sq (invS xs n ++ [0])) (k + 2) (n + 2)).natAbs)
              = (sq xs (k + 2)).natAbs * (tt ^ 2 * (Sq.P (sq (invS xs n ++ [0])) (k + 2) (n + 2)).natAbs) := by
                rw [Nat.mul_left_comm]
            _ ≤ 5 * (tt ^ (n + 2) * 2 ^ ((n + 2) * (n + 2))) := Nat.mul_le_mul a5 (Nat.le_trans p2 hp)
      have total := abs_sum (tt ^ 2) _ (fun k => sq xs k * Sq.P (sq (invS xs n ++ [0])) k (n + 2)) (n + 3) part
      have total' : tt ^ 2 * (Sq.comp (sq xs) (sq (invS xs n ++ [0])) (n + 2)).natAbs ≤ (n + 3) * (5 * (tt ^ (n + 2) * 2 ^ ((n + 2) * (n + 2)))) := total
      have small : (n + 3) * 5 * 2 ^ ((n + 2) * (n + 2)) ≤ tt := by
        have a1 : (n + 3) * 5 ≤ 2 ^ 8 := by
          show _ ≤ 256
          omega
        have a2 : (n + 2) * (n + 2) ≤ 33 * 33 := Nat.mul_le_mul (by omega) (by omega)
        have a3 : 2 ^ ((n + 2) * (n + 2)) ≤ 2 ^ 1100 := Nat.pow_le_pow_right (by decide) (by omega)
        refine Nat.le_trans (Nat.mul_le_mul a1 a3) ?_
        rw [← Nat.pow_add, tt_eq]
        exact Nat.pow_le_pow_right (by decide) (by decide)
      have fin : tt * (tt * (Sq.comp (sq xs) (sq (invS xs n ++ [0])) (n + 2)).natAbs) ≤ tt * (1 * tt ^ (n + 2)) := by
        have b1 : (n + 3) * (5 * (tt ^ (n + 2) * 2 ^ ((n + 2) * (n + 2)))) = ((n + 3) * 5 * 2 ^ ((n + 2) * (n + 2))) * tt ^ (n + 2) := by
          rw [← Nat.mul_assoc, Nat.mul_comm (tt ^ (n + 2)), ← Nat.mul_assoc]
        have b2 := Nat.mul_le_mul_right (tt ^ (n + 2)) small
        have b3 : tt ^ 2 * (Sq.comp (sq xs) (sq (invS xs n ++ [0])) (n + 2)).natAbs = tt * (tt * (Sq.comp (sq xs) (sq (invS xs n ++ [0])) (n + 2)).natAbs) := by
          rw [Nat.pow_succ, Nat.pow_one, Nat.mul_assoc]
        rw [b3, b1] at total'
        rw [Nat.one_mul]
        exact Nat.le_trans total' b2
      exact Nat.le_of_mul_le_mul_left fin tpos
    · rw [if_neg e]
      exact ih i hi
theorem gd_inv {xs : List Int} (hx : R5 xs) (n : Nat) (hn : n ≤ 30) : Gd (sq (invS xs n)) :=
  ⟨tt, 1, tt, Nat.pow_pos (by decide), Nat.pow_pos (by decide), zz_pos, by rw [tt_eq, zz_eq]; exact Nat.pow_le_pow_right (by decide) (by decide), inv_bound hx n hn⟩
theorem gd_app0 {xs : List Int} (G : Gd (sq xs)) : Gd (sq (xs ++ [0])) := G.imp fun i _ => by rw [sq_app0]; exact Nat.le_refl _
/-! ### unfit places -/
theorem bad_none : ∀ (L : List Int) (k : Nat), (∀ i, i < L.length → L.getD i 0 = if k + i = 0 then 1 else 0) → bad k L = none
  | [], _, _ => rfl
  | x :: r, k, h => by
    have h0 : x = (if k = 0 then 1 else 0) := h 0 (by simp)
    show (if x = (if k = 0 then 1 else 0) then bad (k + 1) r else some k) = none
    rw [if_pos h0]
    refine bad_none r (k + 1) fun i hi => ?_
    have := h (i + 1) (by simpa using hi)
    rw [show k + 1 + i = k + (i + 1) by omega]
    simpa using this
theorem bad_at : ∀ (L : List Int) (k j : Nat), j < L.length → (∀ i, i < j → L.getD i 0 = if k + i = 0 then 1 else 0) → L.getD j 0 ≠ (if k + j = 0 then 1 else 0) → bad k L = some (k + j)
  | [], _, _, h, _, _ => by simp at h
  | x :: r, k, 0, _, _, h => by
    show (if x = (if k = 0 then 1 else 0) then bad (k + 1) r else some k) = _
    rw [if_neg (show ¬ x = (if k = 0 then 1 else 0) from h)]
    rfl
  | x :: r, k, j + 1, hl, h, hn => by
    have h0 : x = (if k = 0 then 1 else 0) := h 0 (by omega)
    show (if x = (if k = 0 then 1 else 0) then bad (k + 1) r else some k) = _
    rw [if_pos h0, bad_at r (k + 1) j (by simpa using hl) (fun i hi => by
      have := h (i + 1) (by omega)
      rw [show k + 1 + i = k + (i + 1) by omega]
      simpa using this) (by
      rw [show k + 1 + j = k + (j + 1) by omega]
      simpa using hn)]
    rw [show k + 1 + j = k + (j + 1) by omega]
theorem bad_lone (m : Nat) : bad 0 (loneL m) = none := bad_none _ 0 fun i hi => by
  show sq (loneL m) (i + 1) = _
  rw [sq_loneL]
  show (if i + 1 = 1 then (1 : Int) else 0) = _
  by_cases h : i = 0
  · subst h; rfl
  · rw [if_neg (by omega), if_neg (by omega)]
theorem lone_if (i : Nat) : Sq.lone (i + 1) = if 0 + i = 0 then 1 else 0 := by
  show (if i + 1 = 1 then (1 : Int) else 0) = _
  by_cases h : i = 0
  · subst h; rfl
  · rw [if_neg (by omega), if_neg (by omega)]
theorem bad_tog {xs ys : List Int} {m j : Nat} (hj : j < m) (h : ∀ i, 1 ≤ i → i ≤ j → Sq.comp (sq xs) (sq ys) i = Sq.lone i) (hn : Sq.comp (sq xs) (sq ys) (j + 1) ≠ Sq.lone (j + 1)) : bad 0 (tog xs ys m) = some j := by
  have e := bad_at (tog xs ys m) 0 j (by rw [tog_length]; exact hj) (fun i hi => by
    show sq (tog xs ys m) (i + 1) = _
    rw [sq_tog xs ys m i (by omega), h (i + 1) (by omega) (by omega)]
    exact lone_if i) (by
    show sq (tog xs ys m) (j + 1) ≠ _
    rw [sq_tog xs ys m j hj, ← lone_if]
    exact hn)
  rw [e, Nat.zero_add]
end K12

namespace K12
open PySem PySem.Spec PyProof.Rows L2 Dl
def rw' (xs : List Int) : Option Cn := some (.val (.tuple (rowI xs)))
def rowish (d : D) (xs : List Int) : Prop := d = .list (rowI xs) ∨ d = .tuple (rowI xs)
theorem sure_ish {d : D} {xs : List Int} (h : rowish d xs) (h1 : 1 ≤ xs.length) (h40 : xs.length ≤ 40) : g_sure_row [some (.val d)] = .ok (.val (.tuple (rowI xs))) [none] := by
  rcases h with rfl | rfl
  · exact ev_sure_l xs h1 h40
  · exact ev_sure_t xs h1 h40
theorem put_ish {d1 d2 : D} {xs ys : List Int} (i1 : rowish d1 xs) (i2 : rowish d2 ys) (h1 : 1 ≤ xs.length) (h40 : xs.length ≤ 40) (k1 : 1 ≤ ys.length) (k40 : ys.length ≤ 40) (G1 : Gd (sq xs)) (G2 : Gd (sq ys)) :
    g_put_together [some (.val d1), some (.val d2)] = .ok (.val (.tuple (rowI (tog xs ys (min xs.length ys.length))))) [none, none] :=
  ev_put (sure_ish i1 h1 h40) (sure_ish i2 k1 k40) (small_of (by omega) (by rw [List.length_take]; omega) (by rw [List.length_take]; omega) (by rw [List.length_take]; omega) (by rw [List.length_take]; omega) (gd_take G1 _) (gd_take G2 _))
theorem put_tt {xs ys : List Int} {m : Nat} (h : xs.length = m) (k : ys.length = m) (h1 : 1 ≤ m) (h40 : m ≤ 40) (G1 : Gd (sq xs)) (G2 : Gd (sq ys)) :
    g_put_together [some (.val (.tuple (rowI xs))), some (.val (.tuple (rowI ys)))] = .ok (.val (.tuple (rowI (tog xs ys m)))) [none, none] := by
  have := put_ish (.inr rfl) (.inr rfl) (by omega) (by omega) (by omega) (by omega) G1 G2
  rw [show min xs.length ys.length = m by omega] at this
  exact this
theorem apart_tt {xs ys : List Int} {m : Nat} (h : min xs.length ys.length = m) (h1 : 1 ≤ m) (hx : xs.length ≤ 40) (hy : ys.length ≤ 40) (G1 : Gd (sq xs)) (G2 : Gd (sq ys)) :
    g_first_apart [some (.val (.tuple (rowI xs))), some (.val (.tuple (rowI ys)))] = .ok (.val (badD (bad 0 (tog xs (sgnL ys) m)))) [none, none] := by
  subst h
  exact ev_apart (ev_sure_t xs (by omega) hx) (ev_sure_t ys (by omega) hy) (by omega) (by omega) (small_of (by omega) (by rw [List.length_take]; omega) (by rw [List.length_take]; omega) (by rw [sgnL_length, List.length_take]; omega) (by rw [sgnL_length, List.length_take]; omega) (gd_take G1 _) (gd_sgn (gd_take G2 _)))
theorem match_tt {xs ys : List Int} {m : Nat} (h : min xs.length ys.length = m) (h1 : 1 ≤ m) (hx : xs.length ≤ 40) (hy : ys.length ≤ 40) (G1 : Gd (sq xs)) (G2 : Gd (sq ys)) :
    g_do_match [some (.val (.tuple (rowI xs))), some (.val (.tuple (rowI ys)))] = .ok (.val (.bool (bad 0 (tog xs (sgnL ys) m)).isNone)) [none, none] := by
  subst h
  exact ev_match (ev_sure_t xs (by omega) hx) (ev_sure_t ys (by omega) hy) (by omega) (by omega) (small_of (by omega) (by rw [List.length_take]; omega) (by rw [List.length_take]; omega) (by rw [sgnL_length, List.length_take]; omega) (by rw [sgnL_length, List.length_take]; omega) (gd_take G1 _) (gd_sgn (gd_take G2 _)))
theorem contr_ish {d : D} {xs : List Int} {L : Nat} (i1 : rowish d xs) (hl : xs.length = L + 1) (hL : L ≤ 30) (h1 : sq xs 1 = 1) (h5 : R5 xs) : g_contrary_row [some (.val d)] = .ok (.val (.tuple (rowI (invS xs L)))) [none] := by
  have h := ev_contrary (d0 := d) (xs := xs) (by omega) (by omega) (by rw [← h1]; exact sq_get (by omega)) (sure_ish i1 (by omega) (by omega)) fun i hi =>
    small_of (by omega) (by rw [List.length_take]; omega) (by rw [List.length_take]; omega) (by rw [List.length_append, invS_length]; simp) (by rw [List.length_append, invS_length]; simp; omega) (gd_take h5.gd _) (gd_app0 (gd_inv h5 i (by omega)))
  rw [show xs.length - 1 = L by omega] at h
  exact h
theorem contr_back {xs : List Int} {L : Nat} (hl : xs.length = L + 1) (hL : L ≤ 30) (h1 : sq xs 1 = 1) (h5 : R5 xs) : g_contrary_row [some (.val (.tuple (rowI (invS xs L))))] = .ok (.val (.tuple (rowI xs))) [none] := by
  have lb := invS_length xs L
  have h := ev_contrary (d0 := .tuple (rowI (invS xs L))) (xs := invS xs L) (by omega) (by omega) (by rw [← invS_1 xs L]; exact sq_get (by omega)) (ev_sure_t _ (by omega) (by omega)) fun i hi =>
    small_of (by omega) (by rw [List.length_take]; omega) (by rw [List.length_take]; omega) (by rw [List.length_append, invS_length]; simp) (by rw [List.length_append, invS_length]; simp; omega) (gd_take (gd_inv h5 L hL) _) (gd_app0 (by rw [inv_inv h1 hl i (by omega)]; exact gd_take h5.gd _))
  rw [show (invS xs L).length - 1 = L by omega, inv_inv h1 hl L (Nat.le_refl L), List.take_of_length_le (by omega)] at h
  exact h
/-! ### unfit places, all -/
def badsI : Nat → List Int → List Int
  | _, [] => []
  | k, x :: r => if x = (if k = 0 then 1 else 0) then badsI (k + 1) r else ((k : Nat) + 1 : Int) :: badsI (k + 1) r
theorem bad_bads : ∀ (L : List Int) (k : Nat), (bad k L = none ∧ badsI k L = []) ∨ ∃ j r, bad k L = some j ∧ badsI k L = ((j : Nat) + 1 : Int) :: r
  | [], k => .inl ⟨rfl, rfl⟩
  | x :: r, k => by
    by_cases h : x = (if k = 0 then 1 else 0)
    · have e1 : bad k (x :: r) = bad (k + 1) r := if_pos h
      have e2 : badsI k (x :: r) = badsI (k + 1) r := if_pos h
      rw [e1, e2]
      exact bad_bads r (k + 1)
    · exact .inr ⟨k, badsI (k + 1) r, if_neg h, if_neg h⟩
/-- over numbered ints, some taken -/
theorem lcGo_bads {own : List Nat} {tg : Tg} {mc : M Bool} {me : M D} {E : Dl.Env} : ∀ (L : List Int) (k : Nat) (acc : List D), (∀ (k : Nat) (x : Int), ∃ e1, tg (.tuple [.int (k : Nat), .int x]) E = some e1 ∧ mc e1 = .ok (!decide (x = (if k = 0 then 1 else 0))) e1 ∧ me e1 = .ok (.int ((k : Nat) + 1)) e1 ∧ wipeE e1 own = E) →
    lcGo own tg mc me (numFrom k L) acc E = .ok (acc ++ rowI (badsI k L)) E
  | [], k, acc, _ => by
    show lcGo own tg mc me [] acc E = _
    unfold lcGo
    rw [show rowI (badsI k []) = [] from rfl, List.append_nil]
  | x :: r, k, acc, h => by
    obtain ⟨e1, h1, h2, h3, h4⟩ := h k x
    show lcGo own tg mc me (PyData.tuple [.int (k : Nat), .int x] :: numFrom (k + 1) r) acc E = _
    unfold lcGo
    rw [h1]
    dsimp only
    rw [h2]
    by_cases hx : x = (if k = 0 then 1 else 0)
    · rw [decide_eq_true hx]
      show lcGo own tg mc me (numFrom (k + 1) r) acc (wipeE e1 own) = _
      rw [h4, lcGo_bads r (k + 1) acc h]
      have e2 : badsI k (x :: r) = badsI (k + 1) r := if_pos hx
      rw [e2]
    · rw [decide_eq_false hx]
      show (match me e1 with
        | .ok y e3 => lcGo own tg mc me (numFrom (k + 1) r) (acc ++ [y]) (wipeE e3 own)
        | _ => .no) = _
      rw [h3]
      show lcGo own tg mc me (numFrom (k + 1) r) _ (wipeE e1 own) = _
      rw [h4, lcGo_bads r (k + 1) _ h]
      have e2 : badsI k (x :: r) = ((k : Nat) + 1 : Int) :: badsI (k + 1) r := if_neg hx
      rw [e2, List.append_assoc]
      rfl
theorem shaped_rowl (xs : List Int) : SeqAt.shaped (.list (rowI xs)) = true := by
  simp [SeqAt.shaped, PyData.canLay0, PyData.depth, lay_row, depth_row]
theorem dEq_rowl (xs ys : List Int) : dEq (.list (rowI xs)) (.list (rowI ys)) = some (.bool (decide (xs = ys))) := by
  unfold dEq
  rw [if_pos ⟨shaped_rowl xs, shaped_rowl ys⟩, PyData.eqv, eqv_row]
theorem dNe_rowl (xs ys : List Int) : dNe (.list (rowI xs)) (.list (rowI ys)) = some (.bool (!decide (xs = ys))) := by
  unfold dNe
  rw [if_pos ⟨shaped_rowl xs, shaped_rowl ys⟩, PyData.eqv, eqv_row]
noncomputable def E (t : List D) (x1 x2 x3 x4 x5 x6 x7 x8 x9 x10 x11 x12 x13 x14 x15 x16 x17 : Option Cn) : Dl.Env := [some (.ls t), x1, x2, x3, x4, x5, x6, x7, x8, x9, x10, x11, x12, x13, x14, x15, x16, x17]
section
variable {t : List D} {x1 x2 x3 x4 x5 x6 x7 x8 x9 x10 x11 x12 x13 x14 x15 x16 x17 : Option Cn} {xs ys : List Int} {m : Nat}
/-- a draw that may be an amount -/
theorem take_nat {n : Nat} (h : Tin n t) (hn : n ≤ 1000000) (b : Int) (hb : 0 < b) (hb2 : b < 1000000) : ∃ (r : Nat) (t' : List D), g__law_take [some (.ls t), some (.val (.int b))] = .ok (.val (.int (r : Nat))) [some (.ls t'), none] ∧ ((r : Nat) : Int) < b ∧ Tin (n + 1) t' := by
  obtain ⟨r, t', h1, h2, h3, h4⟩ := ev_take h hn b hb hb2
  obtain ⟨k, rfl⟩ := Int.eq_ofNat_of_zero_le h2
  exact ⟨k, t', h1, h3, h4⟩
theorem some_nat {n : Nat} (h : Tin n t) (k : Nat) (hk : k ≤ 1000) (hn : n + k ≤ 1000000) {z : Int} (hz : z = (k : Nat)) : ∃ xs t', g__law_some [some (.ls t), some (.val (.int z))] = .ok (.val (.tuple (rowI xs))) [some (.ls t'), none] ∧ xs.length = k ∧ R5 xs ∧ Tin (n + k) t' := by
  subst hz
  obtain ⟨xs, t', h1, h2, h3, h4⟩ := ev_some h k hk hn
  exact ⟨xs, t', h1, h2, fun x hx => by have := h3 x hx; omega, h4⟩
theorem step1 (h : Tin 0 t) : ∃ xs ys t', lr1 (E t x1 x2 x3 x4 x5 x6 x7 x8 x9 x10 x11 x12 x13 x14 x15 x16 x17) = .ok .nx (E t' (rw' xs) (rw' ys) x3 x4 x5 x6 x7 x8 x9 x10 x11 x12 x13 x14 x15 x16 x17) ∧ (1 ≤ xs.length ∧ xs.length ≤ 6) ∧ (1 ≤ ys.length ∧ ys.length ≤ 6) ∧ R5 xs ∧ R5 ys ∧ Tin 20 t' := by
  obtain ⟨r1, t1, a1, a2, a3⟩ := take_nat h (by omega) 6 (by decide) (by decide)
  obtain ⟨xs, t2, b1, b2, b3, b4⟩ := some_nat a3 (1 + r1) (by omega) (by omega) (z := 1 + (r1 : Nat)) (by omega)
  obtain ⟨r2, t3, c1, c2, c3⟩ := take_nat b4 (by omega) 6 (by decide) (by decide)
  obtain ⟨ys, t4, d1, d2, d3, d4⟩ := some_nat c3 (1 + r2) (by omega) (by omega) (z := 1 + (r2 : Nat)) (by omega)
  refine ⟨xs, ys, t4, ?_, by omega, by omega, b3, d3, d4.mono (by omega)⟩
  simp only [E, rw']
  simp [lr1, a1, b1, c1, d1]
theorem step2 (hx : R5 xs) (hy : R5 ys) (hm : min xs.length ys.length = m) (h6 : m ≤ 6) : lr2 (E t (rw' xs) (rw' ys) x3 x4 x5 x6 x7 x8 x9 x10 x11 x12 x13 x14 x15 x16 x17) = .ok .nx (E t (rw' xs) (rw' ys) (rw' (tog xs ys m)) x4 x5 x6 x7 x8 x9 x10 x11 x12 x13 x14 x15 x16 x17) := by
  have h := ev_law_together xs ys hx hy (by omega)
  rw [hm] at h
  simp only [E, rw']
  simp [lr2, h]
theorem step3 (hl : ys.length ≤ 1000) : lr3 (E t x1 (rw' ys) x3 x4 none none x7 x8 x9 x10 x11 x12 x13 x14 x15 x16 x17) = .ok .nx (E t x1 (rw' ys) x3 (rw' (sgnL ys)) none none x7 x8 x9 x10 x11 x12 x13 x14 x15 x16 x17) := by
  have hc := kLc_ix (own := [5, 6]) (tg := gTp (gsCons (gNm 5) (gsCons (gNm 6) gsNil))) (mc := xYes) (me := xIf (toB (xBin dEq (xBinV dMod 5 (xk (.int 2))) (xk (.int 0)))) (xfr 6) (xBin dSub (xk (.int 0)) (xp 6))) (e1 := E t x1 (rw' ys) x3 x4 none none x7 x8 x9 x10 x11 x12 x13 x14 x15 x16 x17) (fun i => .int (Sq.sgn (sq ys) (i + 1))) (numbered (rowI ys)) (by rw [numbered_length, rowI_length]; omega) (fun i d hd => by
    obtain ⟨x, hx, rfl⟩ := numbered_ix hd
    have hi : i < ys.length := by
      have := (List.getElem?_eq_some_iff.mp hx).1
      rwa [rowI_length] at this
    have hx2 := rowI_get (sq_get hi)
    rw [hx] at hx2
    cases hx2
    refine ⟨E t x1 (rw' ys) x3 x4 (some (.val (.int (i : Nat)))) (some (.val (.int (sq ys (i + 1))))) x7 x8 x9 x10 x11 x12 x13 x14 x15 x16 x17, _, E t x1 (rw' ys) x3 x4 (some (.val (.int (i : Nat)))) (some (.val (.int (sq ys (i + 1))))) x7 x8 x9 x10 x11 x12 x13 x14 x15 x16 x17, rfl, rfl, ?_, rfl⟩
    have hm : dMod (.int (i : Nat)) (.int 2) = some (.int ((i : Int) % 2)) := dMod_i _ _ (by decide)
    rw [sgn_at]
    simp only [E, rw']
    by_cases e : i % 2 = 0
    · have e2 : (((i : Int) % 2) == 0) = true := by simpa using (show ((i : Int) % 2) = 0 by omega)
      rw [if_pos e]
      simp only [xIf_ev, toB_ev, xBin_ev, xBinV_ev, peek_ev, xk_ev, xfr_ev, Out.bind_ok]
      simp [hm, e2]
    · have e2 : (((i : Int) % 2) == 0) = false := by simpa using (show ¬ ((i : Int) % 2) = 0 by omega)
      rw [if_neg e]
      simp only [xIf_ev, toB_ev, xBin_ev, xBinV_ev, peek_ev, xk_ev, xfr_ev, Out.bind_ok]
      simp [hm, e2])
  have e : (List.range (numbered (rowI ys)).length).map (fun i => PyData.int (Sq.sgn (sq ys) (i + 1))) = rowI (sgnL ys) := by
    rw [numbered_length]
    unfold sgnL rowI
    rw [List.map_map, List.length_map]
    rfl
  rw [e] at hc
  simp only [E, rw'] at hc ⊢
  simp at hc
  simp [lr3, hc]
end
end K12

namespace K12
open PySem PySem.Spec PyProof.Rows L2 Dl
@[simp] theorem permIx_10 {α : Type} (a b : α) : permIx [1, 0] [] [a, b] = [b, a] := rfl
@[simp] theorem permIx_0 {α : Type} (a : α) : permIx [0] [] [a] = [a] := rfl
section
variable {t : List D} {x1 x2 x3 x4 x5 x6 x7 x8 x9 x10 x11 x12 x13 x14 x15 x16 x17 : Option Cn} {xs ys : List Int} {m : Nat}
def rT (xs : List Int) : D := .tuple (rowI xs)
theorem step4 {n : Nat} (h : Tin n t) (hn : n ≤ 1000) (lx : 1 ≤ xs.length ∧ xs.length ≤ 6) (ly : 1 ≤ ys.length ∧ ys.length ≤ 6) (hx : R5 xs) (hy : R5 ys) (hm : min xs.length ys.length = m) :
    ∃ t', lr4 (E t (rw' xs) (rw' ys) x3 x4 x5 x6 x7 x8 x9 x10 x11 x12 x13 x14 x15 x16 x17) = .ok .nx (E t' (rw' xs) (rw' ys) x3 x4 x5 x6 (some (.val (.list [rT (tog xs ys m), rT (tog xs ys m), rT (sgnL ys), rT xs]))) x8 x9 x10 x11 x12 x13 x14 x15 x16 x17) ∧ Tin (n + 1) t' := by
  obtain ⟨d, t', m1, m2, m3⟩ := ev_mixed h (by omega) xs (by omega)
  have p1 := put_ish (d1 := d) (d2 := .tuple (rowI ys)) m2 (.inr rfl) (by omega) (by omega) (by omega) (by omega) hx.gd hy.gd
  have p2 := put_ish (d1 := .tuple (rowI xs)) (d2 := .list (rowI ys)) (.inr rfl) (.inl rfl) (by omega) (by omega) (by omega) (by omega) hx.gd hy.gd
  rw [hm] at p1 p2
  have t1 := ev_turned ys (by omega) (by omega)
  have t2 := ev_turned xs (by omega) (by omega)
  have t3 := ev_turned (sgnL xs) (by rw [sgnL_length]; omega) (by rw [sgnL_length]; omega)
  rw [sgnL_sgnL] at t3
  refine ⟨t', ?_, m3⟩
  simp only [E, rw']
  simp [lr4, m1, p1, p2, t1, t2, t3, rT]
theorem fit_row' (n : Nat) (xs : List Int) (hl : xs.length ≤ 1000) : fit (n + 1) (rT xs) := fit_row n xs hl
theorem fit_list (n : Nat) (ds : List D) (hl : ds.length ≤ 100) (h : ∀ d ∈ ds, fit n d) : fit (n + 1) (.list ds) := .inr ⟨ds, .inl rfl, by omega, h⟩
theorem step5 {a b c : List Int} (ha : a.length ≤ 1000) (hb : b.length ≤ 1000) (hc : c.length ≤ 1000) :
    lr5 (E t (rw' c) x2 (rw' a) (rw' b) x5 x6 (some (.val (.list [rT a, rT a, rT b, rT c]))) x8 x9 x10 x11 x12 x13 x14 x15 x16 x17) = .ok .nx (E t (rw' c) x2 (rw' a) (rw' b) x5 x6 (some (.val (.list [rT a, rT a, rT b, rT c]))) x8 x9 x10 x11 x12 x13 x14 x15 x16 x17) := by
  have h := ev_same (.list [rT a, rT a, rT b, rT c]) (fit_list 10 _ (by simp) fun d hd => by
    simp at hd
    rcases hd with rfl | rfl | rfl
    · exact fit_row' 9 a ha
    · exact fit_row' 9 b hb
    · exact fit_row' 9 c hc)
  simp only [rT] at h
  simp only [E, rw', rT]
  simp [lr5, h]
theorem step6 (hx : R5 xs) (hy : R5 ys) (hm : min xs.length ys.length = m) (h6 : m ≤ 6) : lr6 (E t (rw' xs) x2 x3 (rw' (sgnL ys)) x5 x6 x7 x8 x9 x10 x11 x12 x13 x14 x15 x16 x17) = .ok .nx (E t (rw' xs) x2 x3 (rw' (sgnL ys)) x5 x6 x7 (rw' (tog xs (sgnL ys) m)) x9 x10 x11 x12 x13 x14 x15 x16 x17) := by
  have h := ev_law_together xs (sgnL ys) hx hy.sgn (by rw [sgnL_length]; omega)
  rw [sgnL_length, hm] at h
  simp only [E, rw']
  simp [lr6, h]
theorem step7 (zs : List Int) (hl : zs.length ≤ 1000) : lr7 (E t x1 x2 x3 x4 none none x7 (rw' zs) x9 x10 x11 x12 x13 x14 x15 x16 x17) = .ok .nx (E t x1 x2 x3 x4 none none x7 (rw' zs) (some (.ls (rowI (badsI 0 zs)))) x10 x11 x12 x13 x14 x15 x16 x17) := by
  have hc : kLc [5, 6] (gTp (gsCons (gNm 5) (gsCons (gNm 6) (gsNil)))) (toB (xBinV dNe 6 (xUn dInt (xBinV dEq 5 (xk (.int 0)))))) (xBinV dAdd 5 (xk (.int 1))) (numbered (rowI zs)) (E t x1 x2 x3 x4 none none x7 (rw' zs) x9 x10 x11 x12 x13 x14 x15 x16 x17) = .ok (.ls (rowI (badsI 0 zs))) (E t x1 x2 x3 x4 none none x7 (rw' zs) x9 x10 x11 x12 x13 x14 x15 x16 x17) := by
    have hg := lcGo_bads (own := [5, 6]) (tg := gTp (gsCons (gNm 5) (gsCons (gNm 6) (gsNil)))) (mc := toB (xBinV dNe 6 (xUn dInt (xBinV dEq 5 (xk (.int 0)))))) (me := xBinV dAdd 5 (xk (.int 1))) (E := E t x1 x2 x3 x4 none none x7 (rw' zs) x9 x10 x11 x12 x13 x14 x15 x16 x17) zs 0 [] (fun k x => by
      refine ⟨E t x1 x2 x3 x4 (some (.val (.int (k : Nat)))) (some (.val (.int x))) x7 (rw' zs) x9 x10 x11 x12 x13 x14 x15 x16 x17, rfl, ?_, ?_, rfl⟩
      · have e1 : (((k : Nat) : Int) == 0) = decide (k = 0) := by
          by_cases h : k = 0 <;> simp [h]
        simp only [E]
        by_cases hk : k = 0
        · by_cases hx : x = 1
          · simp [e1, hk, hx]
          · have e2 : (x == 1) = false := by simpa using hx
            simp [e1, hk, hx, e2]
        · by_cases hx : x = 0
          · simp [e1, hk, hx]
          · have e2 : (x == 0) = false := by simpa using hx
            simp [e1, hk, hx, e2]
      · simp only [E]
        simp)
    rw [kLc_ev, if_pos (show (numbered (rowI zs)).length ≤ cap from le_cap (by rw [numbered_length, rowI_length]; omega)), numbered_row]
    rw [show wipeE (E t x1 x2 x3 x4 none none x7 (rw' zs) x9 x10 x11 x12 x13 x14 x15 x16 x17) [5, 6] = E t x1 x2 x3 x4 none none x7 (rw' zs) x9 x10 x11 x12 x13 x14 x15 x16 x17 from rfl, hg]
    rfl
  simp only [E, rw'] at hc ⊢
  simp [lr7, hc]
theorem step8 (lx : 1 ≤ xs.length ∧ xs.length ≤ 6) (ly : 1 ≤ ys.length ∧ ys.length ≤ 6) (hx : R5 xs) (hy : R5 ys) (hm : min xs.length ys.length = m) :
    lr8 (E t (rw' xs) (rw' ys) x3 x4 x5 x6 x7 x8 (some (.ls (rowI (badsI 0 (tog xs (sgnL ys) m))))) x10 x11 x12 x13 x14 x15 x16 x17) = .ok .nx (E t (rw' xs) (rw' ys) x3 x4 x5 x6 x7 x8 (some (.ls (rowI (badsI 0 (tog xs (sgnL ys) m))))) x10 x11 x12 x13 x14 x15 x16 x17) := by
  have h1 := apart_tt hm (by omega) (by omega) (by omega) hx.gd hy.gd
  have h2 := match_tt hm (by omega) (by omega) (by omega) hx.gd hy.gd
  have e0 : (PyData.list []) = .list (rowI []) := rfl
  rcases bad_bads (tog xs (sgnL ys) m) 0 with ⟨b1, b2⟩ | ⟨j, r, b1, b2⟩
  · rw [b1] at h1 h2
    have hs := ev_same (.list [.none, .bool true]) (fit_list 10 _ (by simp) fun d hd => by
      simp at hd
      rcases hd with rfl | rfl
      · exact fit_leaf trivial
      · exact fit_leaf trivial)
    have n1 := dNe_rowl [] []
    have n2 := dEq_rowl [] []
    simp only [E, rw', b2]
    rw [show rowI [] = [] from rfl] at n1 n2 ⊢
    simp [lr8, h1, h2, badD, n1, n2, hs]
  · rw [b1] at h1 h2
    have hs := ev_same (.list [.int ((j : Nat) + 1), .bool false]) (fit_list 10 _ (by simp) fun d hd => by
      simp at hd
      rcases hd with rfl | rfl
      · exact fit_leaf trivial
      · exact fit_leaf trivial)
    have n1 := dNe_rowl (((j : Nat) + 1 : Int) :: r) []
    have n2 := dEq_rowl (((j : Nat) + 1 : Int) :: r) []
    have n3 : atI (rowI (((j : Nat) + 1 : Int) :: r)) 0 = some (.int ((j : Nat) + 1)) := rowI_at (i := 0) rfl rfl
    rw [show rowI [] = [] from rfl] at n1 n2
    simp only [E, rw', b2]
    generalize rowI (((j : Nat) + 1 : Int) :: r) = Z at n1 n2 n3 ⊢
    simp [lr8, h1, h2, badD, n1, n2, n3, hs]
theorem step9 {n : Nat} (h : Tin n t) (hn : n ≤ 1000) : ∃ (L : Nat) (t' : List D), lr9 (E t x1 x2 x3 x4 x5 x6 x7 x8 x9 x10 x11 x12 x13 x14 x15 x16 x17) = .ok .nx (E t' x1 x2 x3 x4 x5 x6 x7 x8 x9 (some (.val (.int (L : Nat)))) x11 x12 x13 x14 x15 x16 x17) ∧ 8 ≤ L ∧ L ≤ 20 ∧ Tin (n + 1) t' := by
  obtain ⟨r, t', a1, a2, a3⟩ := take_nat h (by omega) 13 (by decide) (by decide)
  refine ⟨8 + r, t', ?_, by omega, by omega, a3⟩
  simp only [E, Int.natCast_add]
  simp [lr9, a1]
theorem step10 {n L : Nat} (h : Tin n t) (hn : n ≤ 1000) (hL : L ≤ 20) : ∃ a b c t', lr10 (E t x1 x2 x3 x4 x5 x6 x7 x8 x9 (some (.val (.int (L : Nat)))) x11 none x13 x14 x15 x16 x17) = .ok .nx (E t' (rw' a) (rw' b) x3 x4 x5 x6 x7 x8 x9 (some (.val (.int (L : Nat)))) (rw' c) none x13 x14 x15 x16 x17) ∧ a.length = L ∧ b.length = L ∧ c.length = L ∧ R5 a ∧ R5 b ∧ R5 c ∧ Tin (n + 60) t' := by
  obtain ⟨a, t1, a1, a2, a3, a4⟩ := some_nat h L (by omega) (by omega) (z := (L : Nat)) rfl
  obtain ⟨b, t2, b1, b2, b3, b4⟩ := some_nat a4 L (by omega) (by omega) (z := (L : Nat)) rfl
  obtain ⟨c, t3, c1, c2, c3, c4⟩ := some_nat b4 L (by omega) (by omega) (z := (L : Nat)) rfl
  refine ⟨a, b, c, t3, ?_, a2, b2, c2, a3, b3, c3, c4.mono (by omega)⟩
  have hr : ∀ e, kR1 (.int 3) e = .ok (rangeD 0 3) e := fun e => kR1_i _ _ (by decide)
  have e3 : rangeD 0 3 = [.int 0, .int 1, .int 2] := rfl
  simp only [E, rw']
  simp [lr10, hr, e3, kLc_ev, lcGo, xYes, a1, b1, c1]
end
end K12

namespace K12
open PySem PySem.Spec PyProof.Rows L2 Dl
section
variable {t : List D} {x1 x2 x3 x4 x5 x6 x7 x8 x9 x10 x11 x12 x13 x14 x15 x16 x17 : Option Cn} {a b c xs ys : List Int} {L m : Nat}
theorem step11 (la : a.length = L) (lb : b.length = L) (lc : c.length = L) (h1 : 1 ≤ L) (h2 : L ≤ 20) (ha : R5 a) (hb : R5 b) (hc : R5 c) :
    lr11 (E t (rw' a) (rw' b) x3 x4 x5 x6 x7 x8 x9 x10 (rw' c) x12 x13 x14 x15 x16 x17) = .ok .nx (E t (rw' a) (rw' b) x3 x4 x5 x6 x7 x8 x9 x10 (rw' c) x12 x13 x14 x15 x16 x17) := by
  have p1 := put_tt la lb h1 (by omega) ha.gd hb.gd
  have p2 := put_tt (tog_length a b L) lc h1 (by omega) (gd_tog ha hb L h2) hc.gd
  have p3 := put_tt lb lc h1 (by omega) hb.gd hc.gd
  have p4 := put_tt la (tog_length b c L) h1 (by omega) ha.gd (gd_tog hb hc L h2)
  rw [tog_assoc] at p2
  have n1 := dNe_row (tog a (tog b c L) L) (tog a (tog b c L) L)
  simp only [E, rw']
  generalize tog a (tog b c L) L = Z at *
  simp [lr11, p1, p2, p3, p4, n1]
theorem loneD (h : 8 ≤ L) (h2 : L ≤ 20) : dAdd (.tuple [.int 1]) (.tuple (List.replicate (L - 1) (.int 0))) = some (.tuple (rowI (loneL L))) := by
  rw [dAdd_t _ _ (le_cap (by simp; omega))]
  have : rowI (loneL L) = [.int 1] ++ List.replicate (L - 1) (.int 0) := by
    unfold loneL rowI
    rw [List.map_cons, List.map_replicate]
    rfl
  rw [this]
theorem step12 (h : 8 ≤ L) (h2 : L ≤ 20) : lr12 (E t x1 x2 x3 x4 x5 x6 x7 x8 x9 (some (.val (.int (L : Nat)))) x11 x12 x13 x14 x15 x16 x17) = .ok .nx (E t x1 x2 x3 x4 x5 x6 x7 x8 x9 (some (.val (.int (L : Nat)))) x11 x12 (rw' (loneL L)) x14 x15 x16 x17) := by
  have m1 : dMul (.tuple [.int 0]) (.int ((L : Nat) - 1)) = some (.tuple (List.replicate (L - 1) (.int 0))) := by
    rw [dMul_t _ _ (by omega) (by omega), show ((L : Int) - 1).toNat = L - 1 by omega]
  have m2 := loneD h h2
  simp only [E, rw']
  simp [lr12, m1, m2]
theorem gd_lone : Gd (sq (loneL L)) := Gd.of_bits fun i _ => by
  rw [sq_loneL]
  show bits (if i = 1 then 1 else 0) ≤ _
  split
  · exact Nat.le_trans (show bits 1 ≤ 1 by decide) (by decide)
  · exact Nat.le_trans (show bits 0 ≤ 1 by decide) (by decide)
theorem cannotD : SeqAt.shaped (.list [.str "cannot", .bool true]) = true := by decide +kernel
theorem dEq_cannot : dEq (.list [.str "cannot", .bool true]) (.list [.str "cannot", .bool true]) = some (.bool true) := by
  unfold dEq
  rw [if_pos ⟨cannotD, cannotD⟩]
  congr 2
theorem dEq_cannot_row (xs : List Int) : dEq (.tuple (rowI xs)) (.list [.str "cannot", .bool true]) = some (.bool false) := by
  unfold dEq
  rw [if_pos ⟨shaped_row xs, cannotD⟩]
  rfl
theorem heard_row {d : D} {xs : List Int} {K : Nat} (i1 : rowish d xs) (hl : xs.length = K + 1) (hL : K ≤ 30) (h1 : sq xs 1 = 1) (h5 : R5 xs) : g__law_heard [some (.val d)] = .ok (.val (.tuple (rowI (invS xs K)))) [none] := ev_heard (contr_ish i1 hl hL h1 h5)
theorem step13 (la : a.length = L) (h1 : 8 ≤ L) (h2 : L ≤ 20) (ha : R5 a) :
    lr13 (E t (rw' a) x2 x3 x4 x5 x6 x7 x8 x9 x10 x11 x12 (rw' (loneL L)) x14 x15 x16 x17) = .ok .nx (E t (rw' a) x2 x3 x4 x5 x6 x7 x8 x9 x10 x11 x12 (rw' (loneL L)) x14 x15 x16 x17) := by
  have p1 := put_tt la (loneL_length L (by omega)) (by omega) (by omega) ha.gd gd_lone
  have p2 := put_tt (loneL_length L (by omega)) la (by omega) (by omega) gd_lone ha.gd
  rw [tog_lone_r a L la] at p1
  rw [tog_lone_l a L la] at p2
  obtain ⟨K, rfl⟩ : ∃ K, L = K + 1 := ⟨L - 1, by omega⟩
  have g0 : a[0]? = some (sq a 1) := sq_get (by omega)
  have i0 : atI (rowI a) 0 = some (.int (sq a 1)) := rowI_at (i := 0) rfl g0
  by_cases e : sq a 1 = 1
  · have hh := heard_row (d := .tuple (rowI a)) (.inr rfl) la (by omega) e ha
    have q1 := dEq_cannot_row (invS a K)
    have hs := ev_same (.list [rT a, rT a, .bool false]) (fit_list 10 _ (by simp) fun d hd => by
      simp at hd
      rcases hd with rfl | rfl
      · exact fit_row' 9 a (by omega)
      · exact fit_leaf trivial)
    simp only [rT] at hs
    rw [e] at i0
    simp only [E, rw']
    simp [lr13, p1, p2, hh, q1, i0, hs]
  · have hn := ev_heard_no (ev_contrary_no (d0 := .tuple (rowI a)) (sq a 1) (by omega) g0 e (ev_sure_t a (by omega) (by omega)))
    have hs := ev_same (.list [rT a, rT a, .bool true]) (fit_list 10 _ (by simp) fun d hd => by
      simp at hd
      rcases hd with rfl | rfl
      · exact fit_row' 9 a (by omega)
      · exact fit_leaf trivial)
    simp only [rT] at hs
    have e2 : (sq a 1 == 1) = false := by simpa using e
    have q1 := dEq_cannot
    simp only [E, rw']
    generalize sq a 1 = z at *
    simp [lr13, p1, p2, hn, q1, i0, e2, hs]
def one1 (a : List Int) : List Int := 1 :: a.drop 1
theorem one1_length (h : 1 ≤ a.length) : (one1 a).length = a.length := by
  unfold one1
  rw [List.length_cons, List.length_drop]
  omega
theorem one1_R5 (h : R5 a) : R5 (one1 a) := fun x hx => by
  rcases List.mem_cons.mp hx with rfl | hx
  · omega
  · exact h x (List.mem_of_mem_drop hx)
theorem step14 (la : a.length ≤ 1000) : lr14 (E t (rw' a) x2 x3 x4 x5 x6 x7 x8 x9 x10 x11 x12 x13 x14 x15 x16 x17) = .ok .nx (E t (rw' (one1 a)) x2 x3 x4 x5 x6 x7 x8 x9 x10 x11 x12 x13 x14 x15 x16 x17) := by
  have c1 : cut (rowI a) (some 1) none = rowI (a.drop 1) := by
    rw [cut_from _ _ (by decide)]
    exact List.map_drop.symm
  have c2 : dAdd (.tuple [.int 1]) (.tuple (rowI (a.drop 1))) = some (.tuple (rowI (one1 a))) := by
    rw [dAdd_t _ _ (le_cap (by simp; omega))]
    rfl
  simp only [E, rw']
  generalize rowI (a.drop 1) = Z at *
  simp [lr14, c1, c2]
theorem step15 {n K : Nat} (h : Tin n t) (hn : n ≤ 1000) (la : a.length = K + 1) (hK : K ≤ 30) (ha : R5 a) (e : sq a 1 = 1) : ∃ t', lr15 (E t (rw' a) x2 x3 x4 x5 x6 x7 x8 x9 x10 x11 x12 x13 x14 x15 x16 x17) = .ok .nx (E t' (rw' a) x2 x3 x4 x5 x6 x7 x8 x9 x10 x11 x12 x13 (rw' (invS a K)) x15 x16 x17) ∧ Tin (n + 1) t' := by
  obtain ⟨d, t', m1, m2, m3⟩ := ev_mixed h (by omega) a (by omega)
  have hh := heard_row (d := d) m2 la hK e ha
  refine ⟨t', ?_, m3⟩
  simp only [E, rw']
  simp [lr15, m1, hh]
theorem step16 {K : Nat} (la : a.length = K + 1) (hK : K ≤ 19) (ha : R5 a) (e : sq a 1 = 1) :
    lr16 (E t (rw' a) x2 x3 x4 x5 x6 x7 x8 x9 x10 x11 x12 (rw' (loneL (K + 1))) (rw' (invS a K)) x15 x16 x17) = .ok .nx (E t (rw' a) x2 x3 x4 x5 x6 x7 x8 x9 x10 x11 x12 (rw' (loneL (K + 1))) (rw' (invS a K)) x15 x16 x17) := by
  have r : ∀ i, 1 ≤ i → i ≤ K + 1 → Sq.comp (sq a) (sq (invS a K)) i = Sq.lone i := inv_right e K
  have l : ∀ i, 1 ≤ i → i ≤ K + 1 → Sq.comp (sq (invS a K)) (sq a) i = Sq.lone i := Sq.left_inv (L := K + 1) rfl (invS_1 a K) r
  have p1 := put_tt la (invS_length a K) (by omega) (by omega) ha.gd (gd_inv ha K (by omega))
  have p2 := put_tt (invS_length a K) la (by omega) (by omega) (gd_inv ha K (by omega)) ha.gd
  rw [tog_is_lone (by omega) r] at p1
  rw [tog_is_lone (by omega) l] at p2
  have p3 := contr_back la (by omega) e ha
  have hs := ev_same (.list [rT (loneL (K + 1)), rT (loneL (K + 1)), rT a]) (fit_list 10 _ (by simp) fun d hd => by
    simp at hd
    rcases hd with rfl | rfl
    · exact fit_row' 9 _ (by rw [loneL_length _ (by omega)]; omega)
    · exact fit_row' 9 a (by omega))
  simp only [rT] at hs
  simp only [E, rw']
  generalize loneL (K + 1) = Z at *
  simp [lr16, p1, p2, p3, hs]
theorem sq_sgnL1 (e : sq a 1 = 1) : sq (sgnL a) 1 = 1 := by
  rw [sq_sgnL, sgn_at a 0, if_pos rfl, e]
theorem step17 {K : Nat} (la : a.length = K + 1) (hK : K ≤ 19) (ha : R5 a) (e : sq a 1 = 1) :
    lr17 (E t (rw' a) x2 x3 x4 x5 x6 x7 x8 x9 x10 x11 x12 x13 x14 x15 x16 x17) = .ok .nx (E t (rw' a) x2 x3 x4 x5 x6 x7 x8 x9 x10 x11 x12 x13 x14 (rw' (invS (sgnL a) K)) x16 x17) := by
  have t1 := ev_turned a (by omega) (by omega)
  have p := contr_ish (d := .tuple (rowI (sgnL a))) (.inr rfl) (show (sgnL a).length = K + 1 by rw [sgnL_length, la]) (by omega) (sq_sgnL1 e) ha.sgn
  simp only [E, rw']
  simp [lr17, t1, p]
theorem step18 {n K : Nat} (h : Tin n t) (hn : n ≤ 1000) (hK1 : 1 ≤ K) (hK : K ≤ 30) : ∃ (k : Nat) (t' : List D), lr18 (E t x1 x2 x3 x4 x5 x6 x7 x8 x9 (some (.val (.int ((K + 1 : Nat) : Int)))) x11 x12 x13 x14 x15 x16 x17) = .ok .nx (E t' x1 x2 x3 x4 (some (.val (.int (k : Nat)))) x6 x7 x8 x9 (some (.val (.int ((K + 1 : Nat) : Int)))) x11 x12 x13 x14 x15 x16 x17) ∧ 1 ≤ k ∧ k ≤ K ∧ Tin (n + 1) t' := by
  obtain ⟨r, t', a1, a2, a3⟩ := take_nat h (by omega) ((K : Nat) : Int) (by omega) (by omega)
  refine ⟨1 + r, t', ?_, by omega, by omega, a3⟩
  simp only [E, Int.natCast_add]
  simp [lr18, a1]
/-- one place of a row raised -/
def bent (xs : List Int) (k : Nat) (s : Int) : List Int := xs.take k ++ [sq xs (k + 1) + 1 + s] ++ xs.drop (k + 1)
theorem bent_length {xs : List Int} {k : Nat} {s : Int} (h : k < xs.length) : (bent xs k s).length = xs.length := by
  unfold bent
  rw [List.length_append, List.length_append, List.length_take, List.length_drop, List.length_singleton]
  omega
theorem sq_bent {xs : List Int} {k : Nat} {s : Int} (h : k < xs.length) (i : Nat) : sq (bent xs k s) i = if i = k + 1 then sq xs (k + 1) + 1 + s else sq xs i := by
  cases i with
  | zero => rw [if_neg (by omega)]; rfl
  | succ i =>
    unfold bent
    rw [sq_s, sq_s xs i, List.getD_eq_getElem?_getD, List.getD_eq_getElem?_getD]
    have lt : (xs.take k).length = k := by rw [List.length_take]; omega
    by_cases h1 : i < k
    · rw [if_neg (by omega), List.getElem?_append_left (by rw [List.length_append, lt, List.length_singleton]; omega), List.getElem?_append_left (by rw [lt]; exact h1), List.getElem?_take_of_lt h1]
    · by_cases h2 : i = k
      · subst h2
        rw [if_pos rfl, List.getElem?_append_left (by rw [List.length_append, lt, List.length_singleton]; omega), List.getElem?_append_right (by rw [lt]; exact Nat.le_refl _), lt, Nat.sub_self]
        rfl
      · rw [if_neg (by omega), List.getElem?_append_right (by rw [List.length_append, lt, List.length_singleton]; omega), List.length_append, lt, List.length_singleton, List.getElem?_drop, show k + 1 + (i - (k + 1)) = i by omega]
theorem step19 {n k : Nat} (h : Tin n t) (hn : n ≤ 1000) (hk : k < xs.length) (hl : xs.length ≤ 1000) : ∃ (s : Int) (t' : List D), lr19 (E t x1 x2 x3 x4 (some (.val (.int (k : Nat)))) x6 x7 x8 x9 x10 x11 x12 x13 x14 (rw' xs) x16 x17) = .ok .nx (E t' x1 x2 x3 x4 (some (.val (.int (k : Nat)))) x6 x7 x8 x9 x10 x11 x12 x13 x14 (rw' xs) (rw' (bent xs k s)) x17) ∧ 0 ≤ s ∧ s ≤ 2 := by
  obtain ⟨s, t', a1, a2, a3, a4⟩ := ev_take h (by omega) 3 (by decide) (by decide)
  refine ⟨s, t', ?_, a2, by omega⟩
  have c1 := cut_row xs k
  have c2 : cut (rowI xs) (some ((k : Nat) + 1)) none = rowI (xs.drop (k + 1)) := by
    rw [cut_from _ _ (by omega), show ((k : Int) + 1).toNat = k + 1 by omega]
    exact List.map_drop.symm
  have c3 : atI (rowI xs) ((k : Nat) : Int) = some (.int (sq xs (k + 1))) := rowI_at (i := k) rfl (sq_get hk)
  have c4 : dAdd (.tuple (rowI (xs.take k))) (.tuple [.int (sq xs (k + 1) + 1 + s)]) = some (.tuple (rowI (xs.take k ++ [sq xs (k + 1) + 1 + s]))) := by
    rw [dAdd_t _ _ (le_cap (by rw [rowI_length, List.length_take]; simp; omega)), ← rowI_app]
    rfl
  have c5 : dAdd (.tuple (rowI (xs.take k ++ [sq xs (k + 1) + 1 + s]))) (.tuple (rowI (xs.drop (k + 1)))) = some (.tuple (rowI (bent xs k s))) := by
    rw [dAdd_t _ _ (le_cap (by rw [rowI_length, rowI_length, List.length_append, List.length_take, List.length_drop, List.length_singleton]; omega)), rowI_app]
    rfl
  simp only [E, rw']
  generalize rowI (xs.take k ++ [sq xs (k + 1) + 1 + s]) = Z1 at *
  generalize rowI (bent xs k s) = Z2 at *
  generalize sq xs (k + 1) = z at *
  simp [lr19, c1, c2, c3, c4, c5, a1]
end
end K12

namespace K12
open PySem PySem.Spec PyProof.Rows L2 Dl
section
variable {t : List D} {x1 x2 x3 x4 x5 x6 x7 x8 x9 x10 x11 x12 x13 x14 x15 x16 x17 : Option Cn} {a : List Int} {K k : Nat} {s : Int}
theorem gd_bent {xs : List Int} (hx : R5 xs) {n : Nat} (hn : n ≤ 30) (hk : k < (invS xs n).length) (hs : 0 ≤ s ∧ s ≤ 2) : Gd (sq (bent (invS xs n) k s)) := by
  have tpos : 1 ≤ tt := Nat.pow_pos (by decide)
  refine ⟨tt, 1 + 3 * tt, tt, tpos, tpos, ?_, by rw [tt_eq, zz_eq]; exact Nat.pow_le_pow_right (by decide) (by decide), fun i hi => ?_⟩
  · have h1 : 4 * tt ≤ zz := by
      rw [tt_eq, zz_eq, show (4 : Nat) = 2 ^ 2 from rfl, ← Nat.pow_add]
      exact Nat.pow_le_pow_right (by decide) (by decide)
    omega
  · have b := inv_bound hx n hn i hi
    rw [Nat.one_mul] at b
    have p : 1 ≤ tt ^ i := Nat.pow_pos tpos
    have q : (sq (bent (invS xs n) k s) i).natAbs ≤ (sq (invS xs n) i).natAbs + 3 := by
      rw [sq_bent hk]
      split
      · rename_i e
        subst e
        omega
      · omega
    have c := Nat.mul_le_mul_left tt q
    rw [Nat.mul_add] at c
    have d1 : 3 * tt ≤ 3 * tt * tt ^ i := Nat.le_mul_of_pos_right _ p
    rw [Nat.add_mul, Nat.one_mul]
    omega
theorem sgn_lone (n : Nat) : Sq.sgn Sq.lone n = Sq.lone n := by
  show -1 * (Sq.sg n * (if n = 1 then 1 else 0)) = (if n = 1 then 1 else 0)
  by_cases h : n = 1
  · subst h; rfl
  · rw [if_neg h]
    omega
/-- what the mate of a row does -/
theorem mate_facts (la : a.length = K + 1) (e : sq a 1 = 1) :
    (∀ i, 1 ≤ i → i ≤ K + 1 → Sq.comp (sq (invS (sgnL a) K)) (sq (sgnL a)) i = Sq.lone i) ∧ (∀ i, 1 ≤ i → i ≤ K + 1 → Sq.comp (sq a) (sq (sgnL (invS (sgnL a) K))) i = Sq.lone i) := by
  have e1 := sq_sgnL1 e
  have r : ∀ i, 1 ≤ i → i ≤ K + 1 → Sq.comp (sq (sgnL a)) (sq (invS (sgnL a) K)) i = Sq.lone i := inv_right e1 K
  refine ⟨Sq.left_inv (L := K + 1) rfl (invS_1 (sgnL a) K) r, fun i h1 h2 => ?_⟩
  have q : Sq.comp (sq a) (sq (sgnL (invS (sgnL a) K))) i = Sq.sgn (Sq.comp (sq (sgnL a)) (sq (invS (sgnL a) K))) i := by
    rw [← Sq.comp_sgn]
    refine Sq.comp_congr i (fun j _ => ?_) fun j _ _ => sq_sgnL _ j
    show sq a j = -1 * (Sq.sg j * sq (sgnL a) j)
    rw [sq_sgnL]
    exact (Sq.sgn_sgn (sq a) j).symm
  rw [q]
  show -1 * (Sq.sg i * Sq.comp (sq (sgnL a)) (sq (invS (sgnL a) K)) i) = _
  rw [r i h1 h2]
  exact sgn_lone i
theorem step20 (la : a.length = K + 1) (hK : K ≤ 19) (ha : R5 a) (e : sq a 1 = 1) (hk1 : 1 ≤ k) (hk2 : k ≤ K) (hs : 0 ≤ s ∧ s ≤ 2) :
    lr20 (E t (rw' a) x2 x3 x4 x5 x6 x7 x8 x9 x10 x11 x12 x13 x14 (rw' (invS (sgnL a) K)) (rw' (bent (invS (sgnL a) K) k s)) x17) = .ok .nx (E t (rw' a) x2 x3 x4 x5 x6 (some (.val (.list [.bool true, .bool true, .int ((k : Nat) + 1), .int ((k : Nat) + 1), .none]))) x8 x9 x10 x11 x12 x13 x14 (rw' (invS (sgnL a) K)) (rw' (bent (invS (sgnL a) K) k s)) x17) := by
  obtain ⟨f1, f2⟩ := mate_facts la e
  have lm := invS_length (sgnL a) K
  have hkm : k < (invS (sgnL a) K).length := by omega
  have lb := bent_length (s := s) hkm
  have gm := gd_inv ha.sgn K (by omega)
  have gb := gd_bent (k := k) (s := s) ha.sgn (show K ≤ 30 by omega) hkm hs
  have m1 := match_tt (xs := invS (sgnL a) K) (ys := a) (m := K + 1) (by omega) (by omega) (by omega) (by omega) gm ha.gd
  have m2 := match_tt (xs := a) (ys := invS (sgnL a) K) (m := K + 1) (by omega) (by omega) (by omega) (by omega) ha.gd gm
  have p1 := apart_tt (xs := bent (invS (sgnL a) K) k s) (ys := a) (m := K + 1) (by omega) (by omega) (by omega) (by omega) gb ha.gd
  have p2 := apart_tt (xs := a) (ys := bent (invS (sgnL a) K) k s) (m := K + 1) (by omega) (by omega) (by omega) (by omega) ha.gd gb
  have p3 := apart_tt (xs := invS (sgnL a) K) (ys := a) (m := K + 1) (by omega) (by omega) (by omega) (by omega) gm ha.gd
  rw [tog_is_lone (by omega) f1, bad_lone] at m1 p3
  rw [tog_is_lone (by omega) f2, bad_lone] at m2
  -- the bent one, outside
  have b1 : bad 0 (tog (bent (invS (sgnL a) K) k s) (sgnL a) (K + 1)) = some k := bad_tog (by omega) (fun i h1 h2 => by
    rw [← f1 i h1 (by omega)]
    exact Sq.comp_congr i (fun j hj => by rw [sq_bent hkm, if_neg (by omega)]) fun _ _ _ => rfl) (by
    have q := Sq.comp_last_l (f := sq (bent (invS (sgnL a) K) k s)) (f' := sq (invS (sgnL a) K)) (h := sq (sgnL a)) (n := k + 1) fun i hi => by rw [sq_bent hkm, if_neg (by omega)]
    rw [f1 (k + 1) (by omega) (by omega), sq_bent hkm (k + 1), if_pos rfl, sq_sgnL1 e, Int.one_pow] at q
    omega)
  -- the bent one, inside
  have b2 : bad 0 (tog a (sgnL (bent (invS (sgnL a) K) k s)) (K + 1)) = some k := bad_tog (by omega) (fun i h1 h2 => by
    rw [← f2 i h1 (by omega)]
    refine Sq.comp_congr i (fun _ _ => rfl) fun j _ hj => ?_
    rw [sq_sgnL, sq_sgnL]
    show -1 * (Sq.sg j * sq (bent _ k s) j) = -1 * (Sq.sg j * sq (invS (sgnL a) K) j)
    rw [sq_bent hkm, if_neg (by omega)]) (by
    have q := Sq.comp_last_r (f := sq a) (h := sq (sgnL (bent (invS (sgnL a) K) k s))) (h' := sq (sgnL (invS (sgnL a) K))) (n := k + 1) (by omega) fun i _ hi => by
      rw [sq_sgnL, sq_sgnL]
      show -1 * (Sq.sg i * sq (bent _ k s) i) = -1 * (Sq.sg i * sq (invS (sgnL a) K) i)
      rw [sq_bent hkm, if_neg (by omega)]
    rw [f2 (k + 1) (by omega) (by omega), e, sq_sgnL, sq_sgnL, sgn_at, sgn_at, sq_bent hkm (k + 1), if_pos rfl] at q
    split at q <;> omega)
  rw [b1] at p1
  rw [b2] at p2
  simp only [E, rw']
  generalize bent (invS (sgnL a) K) k s = B at *
  simp [lr20, m1, m2, p1, p2, p3, badD]
theorem step21 : lr21 (E t x1 x2 x3 x4 (some (.val (.int (k : Nat)))) x6 (some (.val (.list [.bool true, .bool true, .int ((k : Nat) + 1), .int ((k : Nat) + 1), .none]))) x8 x9 x10 x11 x12 x13 x14 x15 x16 x17) = .ok .nx (E t x1 x2 x3 x4 (some (.val (.int (k : Nat)))) x6 (some (.val (.list [.bool true, .bool true, .int ((k : Nat) + 1), .int ((k : Nat) + 1), .none]))) x8 x9 x10 x11 x12 x13 x14 x15 x16 x17) := by
  have hs := ev_same (.list [.bool true, .bool true, .int ((k : Nat) + 1), .int ((k : Nat) + 1), .none]) (fit_list 10 _ (by simp) fun d hd => by
    simp at hd
    rcases hd with rfl | rfl | rfl
    · exact fit_leaf trivial
    · exact fit_leaf trivial
    · exact fit_leaf trivial)
  simp only [E]
  simp [lr21, hs]
def things (a : List Int) : List D := [.tuple [], .list (rowI a), .tuple [.int 1, .none], .tuple [.bool true], .int 3, .str "1", .tuple (List.replicate 41 (.int 0)), .none]
theorem step22 : lr22 (E t (rw' a) x2 x3 x4 x5 x6 x7 x8 x9 x10 x11 x12 x13 x14 x15 x16 x17) = .ok .nx (E t (rw' a) x2 x3 x4 x5 x6 x7 x8 x9 x10 x11 x12 x13 x14 x15 x16 (some (.val (.list (things a))))) := by
  have m := dMul_t (.int 0) 41 (by decide) (by decide)
  rw [show (41 : Int).toNat = 41 from rfl] at m
  simp only [E, rw', things]
  generalize List.replicate 41 (PyData.int 0) = Z at *
  simp [lr22, m]
/-! ### which are rows -/
theorem num_none : g_is_number [some (.val .none)] = .ok (.val (.bool false)) [none] := by
  simp [g_is_number, runB, m_is_number, pb_is_number, endE]
theorem num_bool (b : Bool) : g_is_number [some (.val (.bool b))] = .ok (.val (.bool false)) [none] := by
  simp [g_is_number, runB, m_is_number, pb_is_number, endE]
theorem row_0 : g_is_row [some (.val (.tuple []))] = .ok (.val (.bool false)) [none] := by
  simp [g_is_row, runB, m_is_row, pb_is_row, endE]
theorem row_list (ds : List D) : g_is_row [some (.val (.list ds))] = .ok (.val (.bool false)) [none] := by
  simp [g_is_row, runB, m_is_row, pb_is_row, endE]
theorem row_int (i : Int) : g_is_row [some (.val (.int i))] = .ok (.val (.bool false)) [none] := by
  simp [g_is_row, runB, m_is_row, pb_is_row, endE]
theorem row_str (z : Str) : g_is_row [some (.val (.str z))] = .ok (.val (.bool false)) [none] := by
  simp [g_is_row, runB, m_is_row, pb_is_row, endE]
theorem row_none : g_is_row [some (.val .none)] = .ok (.val (.bool false)) [none] := by
  simp [g_is_row, runB, m_is_row, pb_is_row, endE]
theorem all_1 : dAll (.list [.bool true, .bool false]) = some (.bool false) := rfl
theorem all_2 : dAll (.list [.bool false]) = some (.bool false) := rfl
theorem row_1n : g_is_row [some (.val (.tuple [.int 1, .none]))] = .ok (.val (.bool false)) [none] := by
  simp [g_is_row, runB, m_is_row, pb_is_row, endE, kLc_ev, lcGo, xYes, ev_is_number, num_none, all_1]
theorem row_t : g_is_row [some (.val (.tuple [.bool true]))] = .ok (.val (.bool false)) [none] := by
  simp [g_is_row, runB, m_is_row, pb_is_row, endE, kLc_ev, lcGo, xYes, num_bool, all_2]
theorem row_long (ds : List D) (h : ds.length = 41) : g_is_row [some (.val (.tuple ds))] = .ok (.val (.bool false)) [none] := by
  have h1 : dLen (.tuple ds) = some (.int 41) := by
    show some (PyData.int ((ds.length : Nat) : Int)) = _
    rw [h]
    rfl
  simp [g_is_row, runB, m_is_row, pb_is_row, endE, -dLen_t, h1]
theorem step23 (la : 1 ≤ a.length ∧ a.length ≤ 40) : lr23 (E t (rw' a) x2 x3 x4 x5 none x7 x8 x9 x10 x11 x12 x13 x14 x15 x16 (some (.val (.list (things a))))) = .ok (.ret (.val (.bool true))) (E t (rw' a) x2 x3 x4 x5 none x7 x8 x9 x10 x11 x12 x13 x14 x15 x16 (some (.val (.list (things a))))) := by
  have r7 := row_long (List.replicate 41 (.int 0)) (by simp)
  have r40 : g_is_row [some (.val (.tuple (List.replicate 40 (.int 0))))] = .ok (.val (.bool true)) [none] := by
    have := ev_is_row (List.replicate 40 0) (by simp) (by simp)
    rw [show rowI (List.replicate 40 0) = List.replicate 40 (.int 0) from List.map_replicate] at this
    exact this
  have ra := ev_is_row a la.1 la.2
  have m := dMul_t (.int 0) 40 (by decide) (by decide)
  rw [show (40 : Int).toNat = 40 from rfl] at m
  have m8 := dMul_l (.bool false) 8 (by decide) (by decide)
  rw [show List.replicate (8 : Int).toNat (PyData.bool false) = [.bool false, .bool false, .bool false, .bool false, .bool false, .bool false, .bool false, .bool false] from rfl] at m8
  have ad : dAdd (.list [.bool false, .bool false, .bool false, .bool false, .bool false, .bool false, .bool false, .bool false]) (.list [.bool true, .bool true]) = some (.list [.bool false, .bool false, .bool false, .bool false, .bool false, .bool false, .bool false, .bool false, .bool true, .bool true]) := dAdd_l _ _ (le_cap (by simp))
  have hs := ev_same (.list [.bool false, .bool false, .bool false, .bool false, .bool false, .bool false, .bool false, .bool false, .bool true, .bool true]) (fit_list 10 _ (by simp) fun d hd => by
    simp at hd
    rcases hd with rfl | rfl
    · exact fit_leaf trivial
    · exact fit_leaf trivial)
  simp only [E, rw', things]
  generalize List.replicate 41 (PyData.int 0) = Z at *
  generalize List.replicate 40 (PyData.int 0) = Z2 at *
  simp [lr23, kLc_ev, lcGo, xYes, row_0, row_list, row_1n, row_t, row_int, row_str, r7, row_none, r40, ra, m, m8, ad, hs]
end
end K12

namespace K12
open PySem PySem.Spec PyProof.Rows L2 Dl
theorem seq_nx {m1 m2 : MS} {e e1 : Dl.Env} {r : Out Fl} (h : m1 e = .ok .nx e1) (h2 : m2 e1 = r) : xSeq m1 m2 e = r := by
  rw [xSeq_ev, h, Out.bind_ok, kSeq_nx, h2]
theorem seq_ret {m1 m2 : MS} {e e1 : Dl.Env} {c : Cn} (h : m1 e = .ok (.ret c) e1) : xSeq m1 m2 e = .ok (.ret c) e1 := by
  rw [xSeq_ev, h, Out.bind_ok, kSeq_ret]
theorem ev_right {t : List D} (h0 : Tin 0 t) : ∃ t', g__law_right [some (.ls t)] = .ok (.val (.bool true)) [some (.ls t')] := by
  obtain ⟨xs, ys, t1, s1, lx, ly, hx, hy, h1⟩ := step1 (x1 := none) (x2 := none) (x3 := none) (x4 := none) (x5 := none) (x6 := none) (x7 := none) (x8 := none) (x9 := none) (x10 := none) (x11 := none) (x12 := none) (x13 := none) (x14 := none) (x15 := none) (x16 := none) (x17 := none) h0
  obtain ⟨m, hm⟩ : ∃ m, min xs.length ys.length = m := ⟨_, rfl⟩
  have hm6 : m ≤ 6 := by omega
  obtain ⟨t2, s4, h2⟩ := step4 (x3 := rw' (tog xs ys m)) (x4 := rw' (sgnL ys)) (x5 := none) (x6 := none) (x7 := none) (x8 := none) (x9 := none) (x10 := none) (x11 := none) (x12 := none) (x13 := none) (x14 := none) (x15 := none) (x16 := none) (x17 := none) h1 (by omega) lx ly hx hy hm
  obtain ⟨L, t3, s9, l1, l2, h3⟩ := step9 (x1 := rw' xs) (x2 := rw' ys) (x3 := rw' (tog xs ys m)) (x4 := rw' (sgnL ys)) (x5 := none) (x6 := none) (x7 := some (.val (.list [rT (tog xs ys m), rT (tog xs ys m), rT (sgnL ys), rT xs]))) (x8 := rw' (tog xs (sgnL ys) m)) (x9 := some (.ls (rowI (badsI 0 (tog xs (sgnL ys) m))))) (x10 := none) (x11 := none) (x12 := none) (x13 := none) (x14 := none) (x15 := none) (x16 := none) (x17 := none) h2 (by omega)
  obtain ⟨a, b, c, t4, s10, la, lb, lc, ha, hb, hc, h4⟩ := step10 (x1 := rw' xs) (x2 := rw' ys) (x3 := rw' (tog xs ys m)) (x4 := rw' (sgnL ys)) (x5 := none) (x6 := none) (x7 := some (.val (.list [rT (tog xs ys m), rT (tog xs ys m), rT (sgnL ys), rT xs]))) (x8 := rw' (tog xs (sgnL ys) m)) (x9 := some (.ls (rowI (badsI 0 (tog xs (sgnL ys) m))))) (x11 := none) (x13 := none) (x14 := none) (x15 := none) (x16 := none) (x17 := none) h3 (by omega) l2
  obtain ⟨K, rfl⟩ : ∃ K, L = K + 1 := ⟨L - 1, by omega⟩
  have lo : (one1 a).length = K + 1 := by rw [one1_length (by omega), la]
  have ho : R5 (one1 a) := one1_R5 ha
  have eo : sq (one1 a) 1 = 1 := rfl
  obtain ⟨t5, s15, h5⟩ := step15 (a := one1 a) (K := K) (x2 := rw' b) (x3 := rw' (tog xs ys m)) (x4 := rw' (sgnL ys)) (x5 := none) (x6 := none) (x7 := some (.val (.list [rT (tog xs ys m), rT (tog xs ys m), rT (sgnL ys), rT xs]))) (x8 := rw' (tog xs (sgnL ys) m)) (x9 := some (.ls (rowI (badsI 0 (tog xs (sgnL ys) m))))) (x10 := some (.val (.int ((K + 1 : Nat) : Int)))) (x11 := rw' c) (x12 := none) (x13 := rw' (loneL (K + 1))) (x14 := none) (x15 := none) (x16 := none) (x17 := none) h4 (by omega) lo (by omega) ho eo
  obtain ⟨k, t6, s18, k1, k2, h6⟩ := step18 (K := K) (x1 := rw' (one1 a)) (x2 := rw' b) (x3 := rw' (tog xs ys m)) (x4 := rw' (sgnL ys)) (x5 := none) (x6 := none) (x7 := some (.val (.list [rT (tog xs ys m), rT (tog xs ys m), rT (sgnL ys), rT xs]))) (x8 := rw' (tog xs (sgnL ys) m)) (x9 := some (.ls (rowI (badsI 0 (tog xs (sgnL ys) m))))) (x11 := rw' c) (x12 := none) (x13 := rw' (loneL (K + 1))) (x14 := rw' (invS (one1 a) K)) (x15 := rw' (invS (sgnL (one1 a)) K)) (x16 := none) (x17 := none) h5 (by omega) (by omega) (by omega)
  obtain ⟨s, t7, s19, z1, z2⟩ := step19 (xs := invS (sgnL (one1 a)) K) (k := k) (x1 := rw' (one1 a)) (x2 := rw' b) (x3 := rw' (tog xs ys m)) (x4 := rw' (sgnL ys)) (x6 := none) (x7 := some (.val (.list [rT (tog xs ys m), rT (tog xs ys m), rT (sgnL ys), rT xs]))) (x8 := rw' (tog xs (sgnL ys) m)) (x9 := some (.ls (rowI (badsI 0 (tog xs (sgnL ys) m))))) (x10 := some (.val (.int ((K + 1 : Nat) : Int)))) (x11 := rw' c) (x12 := none) (x13 := rw' (loneL (K + 1))) (x14 := rw' (invS (one1 a) K)) (x16 := none) (x17 := none) h6 (by omega) (by rw [invS_length]; omega) (by rw [invS_length]; omega)
  refine ⟨t7, ?_⟩
  have all : (m__law_right g_is_row g_put_together g_turned_row g_contrary_row g_do_match g_first_apart g__law_take g__law_mixed g__law_same g__law_together g__law_heard g__law_some) (E t none none none none none none none none none none none none none none none none none) =
      .ok (.ret (.val (.bool true))) (E t7 (rw' (one1 a)) (rw' b) (rw' (tog xs ys m)) (rw' (sgnL ys)) (some (.val (.int (k : Nat)))) none (some (.val (.list [.bool true, .bool true, .int ((k : Nat) + 1), .int ((k : Nat) + 1), .none]))) (rw' (tog xs (sgnL ys) m)) (some (.ls (rowI (badsI 0 (tog xs (sgnL ys) m))))) (some (.val (.int ((K + 1 : Nat) : Int)))) (rw' c) none (rw' (loneL (K + 1))) (rw' (invS (one1 a) K)) (rw' (invS (sgnL (one1 a)) K)) (rw' (bent (invS (sgnL (one1 a)) K) k s)) (some (.val (.list (things (one1 a)))))) := by
    rw [lr_all]
    refine seq_nx s1 (seq_nx (step2 hx hy hm hm6) (seq_nx (step3 (by omega)) (seq_nx s4 (seq_nx (step5 (by rw [tog_length]; omega) (by rw [sgnL_length]; omega) (by omega)) ?_))))
    refine seq_nx (step6 hx hy hm hm6) (seq_nx (step7 _ (by rw [tog_length]; omega)) (seq_nx (step8 lx ly hx hy hm) (seq_nx s9 (seq_nx s10 ?_))))
    refine seq_nx (step11 la lb lc (by omega) l2 ha hb hc) (seq_nx (step12 l1 l2) (seq_nx (step13 la l1 l2 ha) (seq_nx (step14 (by omega)) (seq_nx s15 ?_))))
    refine seq_nx (step16 lo (by omega) ho eo) (seq_nx (step17 lo (by omega) ho eo) (seq_nx s18 (seq_nx s19 ?_)))
    refine seq_nx (step20 lo (by omega) ho eo k1 k2 ⟨z1, z2⟩) (seq_nx step21 (seq_nx step22 (seq_ret (step23 (by omega)))))
  have e2 : g__law_right [some (.ls t)] = runB pb__law_right 17 (m__law_right g_is_row g_put_together g_turned_row g_contrary_row g_do_match g_first_apart g__law_take g__law_mixed g__law_same g__law_together g__law_heard g__law_some) [some (.ls t)] := rfl
  rw [e2]
  unfold runB
  rw [show [some (Cn.ls t)] ++ List.replicate 17 none = E t none none none none none none none none none none none none none none none none none from rfl, all]
  rfl
theorem law_true : LawTrue := by
  intro ns hn hb
  obtain ⟨cs, c1, c2, c3, c4⟩ := ev_cells ns 1 (by decide) (by decide) hn hb
  have hl : cs.length = 1 := by omega
  have hc := kLc_range (own := [2]) (tg := gNm 2) (mc := xYes) (me := xFz (xCall 1 g__law_right [none] (aNew (xCall 2 g__law_box [none, none] (aVal (xfr 1) (aVal (xfr 2) (aNil)))) (aNil)))) (e1 := [some (.ro (rowI ns)), some (.val (.list (rowI cs))), none]) (fun _ => .bool true) 0 1 (by decide) (fun i hi => by
    obtain ⟨t, b1, b2⟩ := ev_box cs 0 (by omega) (by decide) c4
    obtain ⟨t', r1⟩ := ev_right b2
    have e0 : i = 0 := by omega
    subst e0
    have b1' : g__law_box [some (.val (.list (rowI cs))), some (.val (.int 0))] = .ok (.ls t) [none, none] := b1
    exact ⟨[some (.ro (rowI ns)), some (.val (.list (rowI cs))), some (.val (.int 0))], _, [some (.ro (rowI ns)), some (.val (.list (rowI cs))), some (.val (.int 0))], rfl, rfl, by simp [b1', r1], rfl⟩)
  have hr : ∀ e, kR1 (.int ((cs.length : Nat) : Int)) e = .ok (rangeD 0 1) e := fun e => by
    rw [hl]
    exact kR1_i _ _ (by decide)
  have c1' : g__law_cells [some (.ro (rowI ns)), some (.val (.int 1))] = .ok (.ls (rowI cs)) [some (.ro (rowI ns)), none] := c1
  have ha : dAll (.list ((List.range 1).map fun _ => PyData.bool true)) = some (.bool true) := rfl
  refine ⟨[some (.ro (rowI ns))], ?_⟩
  show g_law [some (.ro (rowI ns))] = _
  generalize (List.range 1).map (fun _ => PyData.bool true) = Z at *
  simp at hc
  simp [g_law, runB, m_law, pb_law, endE, c1', hr, hc, ha]
end K12

open PySem PySem.W PyProof.Rows
set_option maxHeartbeats 0 in
theorem PySem.Challenge.cw_boughrules_k12_main_rows_put_together_holds : PySem.Challenge.rw_boughrules_k12_main_rows_put_together.Holds := by
  w_on; o_law; k_head; (case hw => w_witness2)
  k_fill
  refine L2.walk_ofB (l := PySem.Challenge.rw_boughrules_k12_main_rows_put_together) (n := 63) (k := 17) (x := "script") (CX := fun w => L2.CX PySem.Challenge.pw_boughrules_k12_main_rows_put_together w) (sp := fun w => Dl.spLaw _) rfl (by decide) rfl ⟨rfl, by decide, by decide⟩ (fun w h Y => PySem.W.kIn_of Y) ?F (fun _ _ a ns hl hb _ hS => ⟨a, ns, rfl, hS, hl, hb, fun _ => rfl⟩) ?X
  case X =>
    intro w H s e s' h
    obtain ⟨_, _, _, _, _, _, _, _, _, _, _, _, z⟩ := h
    exact z
  case F =>
    intro w mg fa h KX G hmg
    refine' K12.all_mk K12.law_true KX G hmg ?a0 ?l0 ?c0 ?k0 ?a1 ?l1 ?c1 ?k1 ?a2 ?l2 ?c2 ?k2 ?a3 ?l3 ?c3 ?k3 ?a4 ?l4 ?c4 ?k4 ?a5 ?l5 ?c5 ?k5 ?a6 ?l6 ?c6 ?k6 ?a7 ?l7 ?c7 ?k7 ?a8 ?l8 ?c8 ?k8 ?a9 ?l9 ?c9 ?k9 ?a10 ?l10 ?c10 ?k10 ?a11 ?l11 ?c11 ?k11 ?a12 ?l12 ?c12 ?k12 ?a13 ?l13 ?c13 ?k13 ?a14 ?l14 ?c14 ?k14 ?a15 ?l15 ?c15 ?k15 ?a16 ?l16 ?c16 ?k16 ?a17 ?l17 ?c17 ?k17 ?a18 ?l18 ?c18 ?k18 ?a19 ?l19 ?c19 ?k19 ?a20 ?l20 ?c20 ?k20 ?a21 ?l21 ?c21 ?k21 ?a22 ?l22 ?c22 ?k22 ?a23 ?l23 ?c23 ?k23 ?a24 ?l24 ?c24 ?k24 ?a25 ?l25 ?c25 ?k25 ?z_ValueError ?z_abs ?z_all ?z_bool ?z_enumerate ?z_int ?z_isinstance ?z_len ?z_list ?z_min ?z_range ?z_str ?z_sum ?z_tuple ?z_zip ?v_MOST_ROW ?xa_CanNot ?xx_CanNot ?xk_CanNot ?xb_CanNot ?xt_CanNot ?hg_CanNot ?hk_CanNot ?hd_CanNot ?ha_CanNot ?hn_CanNot ?ht_CanNot ?hm_CanNot ?hs_CanNot ?hv_CanNot ?xa_Unfit ?xx_Unfit ?xk_Unfit ?xb_Unfit ?xt_Unfit
    (case a0 => k_is)
    (case l0 => k_is)
    (case c0 => k_is)
    (case k0 => k_is)
    (case a1 => k_is)
    (case l1 => k_is)
    (case c1 => k_is)
    (case k1 => k_is)
    (case a2 => k_is)
    (case l2 => k_is)
    (case c2 => k_is)
    (case k2 => k_is)
    (case a3 => k_is)
    (case l3 => k_is)
    (case c3 => k_is)
    (case k3 => k_is)
    (case a4 => k_is)
    (case l4 => k_is)
    (case c4 => k_is)
    (case k4 => k_is)
    (case a5 => k_is)
    (case l5 => k_is)
    (case c5 => k_is)
    (case k5 => k_is)
    (case a6 => k_is)
    (case l6 => k_is)
    (case c6 => k_is)
    (case k6 => k_is)
    (case a7 => k_is)
    (case l7 => k_is)
    (case c7 => k_is)
    (case k7 => k_is)
    (case a8 => k_is)
    (case l8 => k_is)
    (case c8 => k_is)
    (case k8 => k_is)
    (case a9 => k_is)
    (case l9 => k_is)
    (case c9 => k_is)
    (case k9 => k_is)
    (case a10 => k_is)
    (case l10 => k_is)
    (case c10 => k_is)
    (case k10 => k_is)
    (case a11 => k_is)
    (case l11 => k_is)
    (case c11 => k_is)
    (case k11 => k_is)
    (case a12 => k_is)
    (case l12 => k_is)
    (case c12 => k_is)
    (case k12 => k_is)
    (case a13 => k_is)
    (case l13 => k_is)
    (case c13 => k_is)
    (case k13 => k_is)
    (case a14 => k_is)
    (case l14 => k_is)
    (case c14 => k_is)
    (case k14 => k_is)
    (case a15 => k_is)
    (case l15 => k_is)
    (case c15 => k_is)
    (case k15 => k_is)
    (case a16 => k_is)
    (case l16 => k_is)
    (case c16 => k_is)
    (case k16 => k_is)
    (case a17 => k_is)
    (case l17 => k_is)
    (case c17 => k_is)
    (case k17 => k_is)
    (case a18 => k_is)
    (case l18 => k_is)
    (case c18 => k_is)
    (case k18 => k_is)
    (case a19 => k_is)
    (case l19 => k_is)
    (case c19 => k_is)
    (case k19 => k_is)
    (case a20 => k_is)
    (case l20 => k_is)
    (case c20 => k_is)
    (case k20 => k_is)
    (case a21 => k_is)
    (case l21 => k_is)
    (case c21 => k_is)
    (case k21 => k_is)
    (case a22 => k_is)
    (case l22 => k_is)
    (case c22 => k_is)
    (case k22 => k_is)
    (case a23 => k_is)
    (case l23 => k_is)
    (case c23 => k_is)
    (case k23 => k_is)
    (case a24 => k_is)
    (case l24 => k_is)
    (case c24 => k_is)
    (case k24 => k_is)
    (case a25 => k_is)
    (case l25 => k_is)
    (case c25 => k_is)
    (case k25 => k_is)
    (case z_ValueError => k_is)
    (case z_abs => k_is)
    (case z_all => k_is)
    (case z_bool => k_is)
    (case z_enumerate => k_is)
    (case z_int => k_is)
    (case z_isinstance => k_is)
    (case z_len => k_is)
    (case z_list => k_is)
    (case z_min => k_is)
    (case z_range => k_is)
    (case z_str => k_is)
    (case z_sum => k_is)
    (case z_tuple => k_is)
    (case z_zip => k_is)
    (case v_MOST_ROW => k_is)
    (case xa_CanNot => k_is)
    (case xx_CanNot => k_exc)
    (case xk_CanNot => k_is)
    (case xb_CanNot => k_is)
    (case xt_CanNot => k_is)
    (case hg_CanNot => k_is)
    (case hk_CanNot => k_is)
    (case hd_CanNot => k_is)
    (case ha_CanNot => k_is)
    (case hn_CanNot => k_is)
    (case ht_CanNot => k_is)
    (case hm_CanNot => k_is)
    (case hs_CanNot => k_is)
    (case hv_CanNot => k_is)
    (case xa_Unfit => k_is)
    (case xx_Unfit => k_exc)
    (case xk_Unfit => k_is)
    (case xb_Unfit => k_is)
    (case xt_Unfit => k_is)
