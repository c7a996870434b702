import PyProof.Rows.All
import Wide.All
import OpenK.AllK
import Wide.FinOn
import KE.KStateDown
import KE.DataEq
import KE.KMinKey
import HandS.ForMost
import HandS.More
import HandS.WordsExc
import HandS.Defaults
import HandS.EndBits
import HandS.IsInst
import HandS.WideBits
import HandS.SortKw
import HandS.Head0
import HandS.Head1
import HandS.Head2
import HandS.HeadEnd
import HandS.HeadHook1
import HandS.HeadHook2
import PySem.Challenge.RW_surepresses_k22_depth_of_a_plan
set_option Elab.async false
set_option linter.all false
set_option maxRecDepth 100000
set_option maxHeartbeats 7000000
namespace Sx
open PySem PySem.Spec PyProof.Rows L2
/-! ### the heap in two parts: B, what is fixed for good, and ch, the objects that may still change -/
structure Hd (B : Hp) (ch : List (Addr × HO)) (H : Hp) : Prop where
  old : Same B H
  at_ : ∀ p ∈ ch, H p.1 = some p.2 ∧ B p.1 = none
  nd : (ch.map (·.1)).Nodup
section
variable {K : PySem.W.Frag} {B B' H H' : Hp} {ch : List (Addr × HO)} {p a : Addr} {o o' : HO} {xs : List V}
theorem Hd.base (H : Hp) : Hd H [] H := ⟨Same.refl H, fun _ h => (nomatch h), List.nodup_nil⟩
theorem Hd.seq (S : Hd B ch H) (h : SqL K B a xs) : SqL K H a xs := S.old.seq h
theorem seqT {H H' : Hp} (e : Same H H') (h : SqT K H a xs) : SqT K H' a xs := by
  rcases h with (h | ⟨o, h⟩) | h
  · exact .inl (.inl (e _ _ h))
  · exact .inl (.inr ⟨o, e _ _ h⟩)
  · exact .inr h
theorem Hd.sqt (S : Hd B ch H) (h : SqT K B a xs) : SqT K H a xs := seqT S.old h
theorem Hd.get (S : Hd B ((p, o) :: ch) H) : H p = some o := (S.at_ (p, o) List.mem_cons_self).1
theorem Hd.no (S : Hd B ((p, o) :: ch) H) : B p = none := (S.at_ (p, o) List.mem_cons_self).2
theorem Hd.free (S : Hd B ch H) (hp : H p = none) : B p = none := S.old.free hp
theorem Hd.out (S : Hd B ch H) (hp : H p = none) : p ∉ ch.map (·.1) := fun m => by
  obtain ⟨q, hq, e⟩ := List.mem_map.mp m
  have h := (S.at_ q hq).1
  rw [e, hp] at h
  cases h
theorem same_upd {B : Hp} {p : Addr} (h : B p = none) (o : HO) : Same B (upd B p o) := fun b u e => by
  rw [upd_ne (ne_of_none e h)]
  exact e
theorem same_upd2 {B H : Hp} {p : Addr} (s : Same B H) (h : B p = none) (o : HO) : Same B (upd H p o) := fun b u e => by
  rw [upd_ne (ne_of_none e h)]
  exact s b u e
theorem same_both {B H : Hp} {p : Addr} (s : Same B H) (o : HO) : Same (upd B p o) (upd H p o) := fun b u e => by
  by_cases hb : b = p
  · subst hb
    rw [upd_same] at e ⊢
    exact e
  · rw [upd_ne hb] at e ⊢
    exact s b u e
/-- the first of the changing objects is changed -/
theorem Hd.put (S : Hd B ((p, o) :: ch) H) (o' : HO) : Hd B ((p, o') :: ch) (upd H p o') := by
  have nd := List.nodup_cons.mp S.nd
  refine ⟨same_upd2 S.old S.no o', fun q hq => ?_, S.nd⟩
  rcases List.mem_cons.mp hq with e | hq
  · subst e
    exact ⟨upd_same, S.no⟩
  · have h := S.at_ q (List.mem_cons_of_mem _ hq)
    have ne : q.1 ≠ p := fun e => nd.1 (List.mem_map.mpr ⟨q, hq, e⟩)
    exact ⟨by rw [upd_ne ne]; exact h.1, h.2⟩
/-- a new object that stays as it is -/
theorem Hd.fix (S : Hd B ch H) (hp : H p = none) (o : HO) : Hd (upd B p o) ch (upd H p o) := by
  refine ⟨same_both S.old o, fun q hq => ?_, S.nd⟩
  have h := S.at_ q hq
  have ne : q.1 ≠ p := ne_of_none h.1 hp
  exact ⟨by rw [upd_ne ne]; exact h.1, by rw [upd_ne ne]; exact h.2⟩
/-- a new object that will change -/
theorem Hd.new (S : Hd B ch H) (hp : H p = none) (o : HO) : Hd B ((p, o) :: ch) (upd H p o) := by
  refine ⟨same_upd2 S.old (S.free hp) o, fun q hq => ?_, List.nodup_cons.mpr ⟨S.out hp, S.nd⟩⟩
  rcases List.mem_cons.mp hq with e | hq
  · subst e
    exact ⟨upd_same, S.free hp⟩
  · have h := S.at_ q hq
    have ne : q.1 ≠ p := ne_of_none h.1 hp
    exact ⟨by rw [upd_ne ne]; exact h.1, h.2⟩
/-- a new object of no interest -/
theorem Hd.skip (S : Hd B ch H) (hp : H p = none) (o : HO) : Hd B ch (upd H p o) := by
  refine ⟨same_upd2 S.old (S.free hp) o, fun q hq => ?_, S.nd⟩
  have h := S.at_ q hq
  have ne : q.1 ≠ p := ne_of_none h.1 hp
  exact ⟨by rw [upd_ne ne]; exact h.1, h.2⟩
/-- the first of the changing objects is fixed from here on -/
theorem Hd.done (S : Hd B ((p, o) :: ch) H) : Hd (upd B p o) ch H := by
  have nd := List.nodup_cons.mp S.nd
  refine ⟨fun b u e => ?_, fun q hq => ?_, nd.2⟩
  · by_cases hb : b = p
    · subst hb
      rw [upd_same] at e
      rw [← e]
      exact S.get
    · rw [upd_ne hb] at e
      exact S.old b u e
  · have h := S.at_ q (List.mem_cons_of_mem _ hq)
    have ne : q.1 ≠ p := fun e => nd.1 (List.mem_map.mpr ⟨q, hq, e⟩)
    exact ⟨h.1, by rw [upd_ne ne]; exact h.2⟩
theorem Hd.drop {q : Addr × HO} (S : Hd B (q :: ch) H) : Hd B ch H := ⟨S.old, fun p hp => S.at_ p (List.mem_cons_of_mem _ hp), (List.nodup_cons.mp S.nd).2⟩
theorem Hd.perm {ch' : List (Addr × HO)} (S : Hd B ch H) (h : ch'.Perm ch) : Hd B ch' H := ⟨S.old, fun p hp => S.at_ p (h.mem_iff.mp hp), (h.map (·.1)).nodup_iff.mpr S.nd⟩
theorem Hd.swap {q r : Addr × HO} (S : Hd B (q :: r :: ch) H) : Hd B (r :: q :: ch) H := S.perm (.swap q r ch)
/-- the third to the front -/
theorem Hd.third {q r t : Addr × HO} (S : Hd B (q :: r :: t :: ch) H) : Hd B (t :: q :: r :: ch) H := S.perm ((List.Perm.swap q t (r :: ch)).trans (.cons q (.swap r t ch)))
/-- the first behind the third -/
theorem Hd.back {q r t : Addr × HO} (S : Hd B (q :: r :: t :: ch) H) : Hd B (r :: t :: q :: ch) H := S.perm ((List.Perm.cons r (.swap q t ch)).trans (.swap q r (t :: ch)))
theorem Hd.same (S : Hd B ch H) (s : Same H H') : Hd B ch H' := ⟨S.old.trans s, fun p hp => ⟨s _ _ (S.at_ p hp).1, (S.at_ p hp).2⟩, S.nd⟩
theorem Hd.less (S : Hd B' ch H) (s : Same B B') : Hd B ch H := ⟨s.trans S.old, fun p hp => ⟨(S.at_ p hp).1, s.free (S.at_ p hp).2⟩, S.nd⟩
theorem Hd.ne (S : Hd B ((p, o) :: ch) H) {q : Addr} {u : HO} (h : B q = some u) : q ≠ p := ne_of_none h S.no
end

/-! ### data stays as it is -/
section
variable {K : PySem.W.Frag} {B B' : Hp}
mutual
theorem dmono (s : Same B B') : ∀ (d : PyData) (v : V), Dp K B v d → Dp K B' v d
  | .none, _, h => by cases h; exact .non
  | .bool b, _, h => by cases h; exact .bl b
  | .int i, _, h => by cases h; exact .int i
  | .str x, _, h => by cases h; exact .str x
  | .list ds, _, h => by
    cases h with
    | lst hs ha => exact .lst (s.seq hs) (dmonoA s ds _ ha)
  | .tuple ds, _, h => by
    cases h with
    | tup hs ha => exact .tup (seqT s hs) (dmonoA s ds _ ha)
  | .dict _, _, h => by cases h
theorem dmonoA (s : Same B B') : ∀ (ds : List PyData) (vs : List V), DpAll K B vs ds → DpAll K B' vs ds
  | [], _, h => by cases h; exact .nil
  | d :: ds, _, h => by
    cases h with
    | cons h1 h2 => exact .cons (dmono s d _ h1) (dmonoA s ds _ h2)
end
theorem Dpm {d : PyData} {v : V} (h : Dp K B v d) (s : Same B B') : Dp K B' v d := dmono s d v h
theorem DpmA {ds : List PyData} {vs : List V} (h : DpAll K B vs ds) (s : Same B B') : DpAll K B' vs ds := dmonoA s ds vs h
theorem dpA_len : ∀ {ds : List PyData} {vs : List V}, DpAll K B vs ds → vs.length = ds.length
  | [], _, h => by cases h; rfl
  | _ :: _, _, h => by
    cases h with
    | cons _ h2 => exact congrArg (· + 1) (dpA_len h2)
theorem dpA_at : ∀ {ds : List PyData} {vs : List V} {i : Nat} {v : V}, DpAll K B vs ds → vs[i]? = some v → ∃ d, ds[i]? = some d ∧ Dp K B v d
  | [], _, _, _, h, e => by cases h; simp at e
  | d :: ds, _, 0, _, h, e => by
    cases h with
    | cons h1 h2 => simp at e; subst e; exact ⟨d, rfl, h1⟩
  | d :: ds, _, i + 1, _, h, e => by
    cases h with
    | cons h1 h2 =>
      obtain ⟨u, q1, q2⟩ := dpA_at (i := i) h2 (by simpa using e)
      exact ⟨u, by simpa using q1, q2⟩
theorem dpA_app : ∀ {ds : List PyData} {vs : List V} {d : PyData} {v : V}, DpAll K B vs ds → Dp K B v d → DpAll K B (vs ++ [v]) (ds ++ [d])
  | [], _, _, _, h, e => by cases h; exact .cons e .nil
  | x :: ds, _, _, _, h, e => by
    cases h with
    | cons h1 h2 => exact .cons h1 (dpA_app h2 e)
theorem dpA_cat : ∀ {ds es : List PyData} {vs us : List V}, DpAll K B vs ds → DpAll K B us es → DpAll K B (vs ++ us) (ds ++ es)
  | [], _, _, _, h, e => by cases h; exact e
  | x :: ds, _, _, _, h, e => by
    cases h with
    | cons h1 h2 => exact .cons h1 (dpA_cat h2 e)
theorem dpA_strs : ∀ (l : List Str), DpAll K B (l.map V.str) (l.map PyData.str)
  | [] => .nil
  | x :: l => .cons (.str x) (dpA_strs l)
theorem dpA_ints : ∀ (l : List Int), DpAll K B (l.map V.int) (l.map PyData.int)
  | [] => .nil
  | x :: l => .cons (.int x) (dpA_ints l)
theorem dpA_strs_inv : ∀ {l : List Str} {vs : List V}, DpAll K B vs (l.map PyData.str) → vs = l.map V.str
  | [], _, h => by cases h; rfl
  | x :: l, _, h => by
    cases h with
    | cons h1 h2 => cases h1; rw [dpA_strs_inv h2]; rfl
theorem dpA_ints_inv : ∀ {l : List Int} {vs : List V}, DpAll K B vs (l.map PyData.int) → vs = l.map V.int
  | [], _, h => by cases h; rfl
  | x :: l, _, h => by
    cases h with
    | cons h1 h2 => cases h1; rw [dpA_ints_inv h2]; rfl
theorem dp_lst {ds : List PyData} {v : V} (h : Dp K B v (.list ds)) : ∃ a xs, v = .ref a ∧ SqL K B a xs ∧ DpAll K B xs ds := by
  cases h with
  | lst hs ha => exact ⟨_, _, rfl, hs, ha⟩
theorem dp_tup {ds : List PyData} {v : V} (h : Dp K B v (.tuple ds)) : ∃ a xs, v = .ref a ∧ SqT K B a xs ∧ DpAll K B xs ds := by
  cases h with
  | tup hs ha => exact ⟨_, _, rfl, hs, ha⟩
theorem dp_strs {l : List Str} {v : V} (h : Dp K B v (.list (l.map .str))) : ∃ a, v = .ref a ∧ SqL K B a (l.map V.str) := by
  obtain ⟨a, xs, e, hs, ha⟩ := dp_lst h
  rw [dpA_strs_inv ha] at hs
  exact ⟨a, e, hs⟩
theorem dp_ints {l : List Int} {v : V} (h : Dp K B v (.list (l.map .int))) : ∃ a, v = .ref a ∧ SqL K B a (l.map V.int) := by
  obtain ⟨a, xs, e, hs, ha⟩ := dp_lst h
  rw [dpA_ints_inv ha] at hs
  exact ⟨a, e, hs⟩
end
end Sx
namespace Sx
open PySem PySem.Spec PyProof.Rows L2
/-! ### data as trees, and how a value of the heap bears them -/
inductive Dt where
  | non | bl (b : Bool) | int (i : Int) | str (x : Str) | lst (xs : List Dt) | tup (xs : List Dt)
  | dic (kvs : List (Key × Dt)) | dit (kvs : List (List Key × Dt)) | ins (C : Addr) (fs : List (Str × Dt)) | scr (ns : List Int) | ty (n : String)
mutual
inductive Rp (K : PySem.W.Frag) (B : Hp) : V → Dt → Prop
  | non : Rp K B .non .non
  | bl (b : Bool) : Rp K B (.bl b) (.bl b)
  | int (i : Int) : Rp K B (.int i) (.int i)
  | str (x : Str) : Rp K B (.str x) (.str x)
  | lst {a : Addr} {xs : List V} {ds : List Dt} : B a = some (.lst xs) → RpA K B xs ds → Rp K B (.ref a) (.lst ds)
  | tup {a : Addr} {xs : List V} {ds : List Dt} : B a = some (.tup xs) → RpA K B xs ds → Rp K B (.ref a) (.tup ds)
  | dic {a : Addr} {kvs : List (Key × V)} {ds : List (Key × Dt)} : Rd B a (.dK kvs) → kvs.map (·.1) = ds.map (·.1) → RpA K B (kvs.map (·.2)) (ds.map (·.2)) → Rp K B (.ref a) (.dic ds)
  | dit {a : Addr} {kvs : List (List Key × V)} {ds : List (List Key × Dt)} : Rd B a (.dT kvs) → kvs.map (·.1) = ds.map (·.1) → RpA K B (kvs.map (·.2)) (ds.map (·.2)) → Rp K B (.ref a) (.dit ds)
  | ins {a C dx : Addr} {fs : List (Str × V)} {ds : List (Str × Dt)} : B a = some (.ins C dx fs) → fs.map (·.1) = ds.map (·.1) → RpA K B (fs.map (·.2)) (ds.map (·.2)) → Rp K B (.ref a) (.ins C ds)
  | scr {a : Addr} {ns : List Int} : SqL K B a (ns.map V.int) → Rp K B (.ref a) (.scr ns)
  | ty (n : String) : Rp K B (.ty n) (.ty n)
inductive RpA (K : PySem.W.Frag) (B : Hp) : List V → List Dt → Prop
  | nil : RpA K B [] []
  | cons {v : V} {vs : List V} {d : Dt} {ds : List Dt} : Rp K B v d → RpA K B vs ds → RpA K B (v :: vs) (d :: ds)
end
/-! ### what is fixed may grow, and its dicts may be locked and unlocked -/
def isDict : HO → Prop
  | .dK _ => True
  | .dT _ => True
  | _ => False
def Lv (B B' : Hp) : Prop := ∀ b o, B b = some o → B' b = some o ∨ ∃ u, isDict u ∧ (o = u ∨ ∃ ob, o = .frz ob u) ∧ (B' b = some u ∨ ∃ ob, B' b = some (.frz ob u))
theorem Lv.of {B B' : Hp} (s : Same B B') : Lv B B' := fun b o e => .inl (s b o e)
theorem Lv.refl (B : Hp) : Lv B B := fun _ _ e => .inl e
theorem isDict_frz {ob : Obj} {u : HO} : ¬ isDict (.frz ob u) := fun z => z
theorem Lv.trans {B B1 B2 : Hp} (s : Lv B B1) (t : Lv B1 B2) : Lv B B2 := fun b o e => by
  rcases s b o e with h | ⟨u, hu, ho, hb⟩
  · exact t b o h
  · rcases hb with hb | ⟨ob, hb⟩
    · rcases t b _ hb with g | ⟨w, hw, gw, gb⟩
      · exact .inr ⟨u, hu, ho, .inl g⟩
      · rcases gw with gw | ⟨oc, gw⟩
        · subst gw; exact .inr ⟨u, hu, ho, gb⟩
        · subst gw; exact absurd hu isDict_frz
    · rcases t b _ hb with g | ⟨w, hw, gw, gb⟩
      · exact .inr ⟨u, hu, ho, .inr ⟨ob, g⟩⟩
      · rcases gw with gw | ⟨oc, gw⟩
        · subst gw; exact absurd hw isDict_frz
        · injection gw with _ g2
          subst g2
          exact .inr ⟨u, hu, ho, gb⟩
theorem Lv.keep {B B' : Hp} {b : Addr} {o : HO} (s : Lv B B') (e : B b = some o) (h1 : ¬ isDict o) (h2 : ∀ ob u, o = .frz ob u → ¬ isDict u) : B' b = some o := by
  rcases s b o e with h | ⟨u, hu, ho, _⟩
  · exact h
  · rcases ho with ho | ⟨ob, ho⟩
    · subst ho; exact absurd hu h1
    · exact absurd hu (h2 ob u ho)
theorem Lv.lst {B B' : Hp} {b : Addr} {xs : List V} (s : Lv B B') (e : B b = some (.lst xs)) : B' b = some (.lst xs) := s.keep e (fun z => z) (fun _ _ h => by cases h)
theorem Lv.tup {B B' : Hp} {b : Addr} {xs : List V} (s : Lv B B') (e : B b = some (.tup xs)) : B' b = some (.tup xs) := s.keep e (fun z => z) (fun _ _ h => by cases h)
theorem Lv.ins {B B' : Hp} {b C dx : Addr} {fs : List (Str × V)} (s : Lv B B') (e : B b = some (.ins C dx fs)) : B' b = some (.ins C dx fs) := s.keep e (fun z => z) (fun _ _ h => by cases h)
theorem Lv.rd {B B' : Hp} {b : Addr} {u : HO} (s : Lv B B') (hu : isDict u) (e : Rd B b u) : Rd B' b u := by
  rcases e with e | ⟨ob, e⟩
  · rcases s b _ e with h | ⟨w, hw, ho, hb⟩
    · exact .inl h
    · rcases ho with ho | ⟨oc, ho⟩
      · subst ho; rcases hb with hb | ⟨od, hb⟩
        · exact .inl hb
        · exact .inr ⟨od, hb⟩
      · subst ho; exact absurd hu isDict_frz
  · rcases s b _ e with h | ⟨w, hw, ho, hb⟩
    · exact .inr ⟨ob, h⟩
    · rcases ho with ho | ⟨oc, ho⟩
      · subst ho; exact absurd hw isDict_frz
      · injection ho with _ h2
        subst h2
        rcases hb with hb | ⟨od, hb⟩
        · exact .inl hb
        · exact .inr ⟨od, hb⟩
theorem Lv.sql {K : PySem.W.Frag} {B B' : Hp} {a : Addr} {xs : List V} (s : Lv B B') (h : SqL K B a xs) : SqL K B' a xs := by
  rcases h with (h | ⟨o, h⟩) | h
  · exact .inl (.inl (s.lst h))
  · exact .inl (.inr ⟨o, s.keep h (fun z => z) (fun _ _ q => by injection q with _ q2; subst q2; exact fun z => z)⟩)
  · exact .inr h
/-- .. where dicts may be locked, not unlocked -/
def Le (B B' : Hp) : Prop := ∀ b o, B b = some o → B' b = some o ∨ (isDict o ∧ ∃ ob, B' b = some (.frz ob o))
theorem Le.lv {B B' : Hp} (s : Le B B') : Lv B B' := fun b o e => by
  rcases s b o e with h | ⟨h, ob, g⟩
  · exact .inl h
  · exact .inr ⟨o, h, .inl rfl, .inr ⟨ob, g⟩⟩
theorem Le.of {B B' : Hp} (s : Same B B') : Le B B' := fun b o e => .inl (s b o e)
theorem Le.refl (B : Hp) : Le B B := fun _ _ e => .inl e
theorem Le.trans {B B1 B2 : Hp} (s : Le B B1) (t : Le B1 B2) : Le B B2 := fun b o e => by
  rcases s b o e with h | ⟨h, ob, g⟩
  · exact t b o h
  · rcases t b _ g with g2 | ⟨g2, _⟩
    · exact .inr ⟨h, ob, g2⟩
    · exact absurd g2 isDict_frz
theorem Le.lst {B B' : Hp} {b : Addr} {xs : List V} (s : Le B B') (e : B b = some (.lst xs)) : B' b = some (.lst xs) := s.lv.lst e
theorem Le.tup {B B' : Hp} {b : Addr} {xs : List V} (s : Le B B') (e : B b = some (.tup xs)) : B' b = some (.tup xs) := s.lv.tup e
theorem Le.frz {B B' : Hp} {b : Addr} {ob : Obj} {u : HO} (s : Le B B') (e : B b = some (.frz ob u)) : B' b = some (.frz ob u) := by
  rcases s b _ e with h | ⟨h, _⟩
  · exact h
  · exact absurd h isDict_frz
theorem Le.sql {K : PySem.W.Frag} {B B' : Hp} {a : Addr} {xs : List V} (s : Le B B') (h : SqL K B a xs) : SqL K B' a xs := s.lv.sql h
section
variable {K : PySem.W.Frag} {B B' : Hp}
mutual
theorem Rp.monoV (s : Lv B B') : ∀ {v : V} {d : Dt}, Rp K B v d → Rp K B' v d
  | _, _, .non => .non
  | _, _, .bl b => .bl b
  | _, _, .int i => .int i
  | _, _, .str x => .str x
  | _, _, .lst h a => .lst (s.lst h) (RpA.monoV s a)
  | _, _, .tup h a => .tup (s.tup h) (RpA.monoV s a)
  | _, _, .dic h e a => .dic (s.rd trivial h) e (RpA.monoV s a)
  | _, _, .dit h e a => .dit (s.rd trivial h) e (RpA.monoV s a)
  | _, _, .ins h e a => .ins (s.ins h) e (RpA.monoV s a)
  | _, _, .scr h => .scr (s.sql h)
  | _, _, .ty n => .ty n
theorem RpA.monoV (s : Lv B B') : ∀ {vs : List V} {ds : List Dt}, RpA K B vs ds → RpA K B' vs ds
  | _, _, .nil => .nil
  | _, _, .cons h a => .cons (Rp.monoV s h) (RpA.monoV s a)
end
theorem RpA.paired : ∀ {vs : List V} {ds : List Dt}, RpA K B vs ds → Paired (Rp K B) vs ds
  | _, _, .nil => .nil
  | _, _, .cons h a => .cons h (RpA.paired a)
theorem RpA.of : ∀ {vs : List V} {ds : List Dt}, Paired (Rp K B) vs ds → RpA K B vs ds
  | _, _, .nil => .nil
  | _, _, .cons h a => .cons h (RpA.of a)
theorem RpA.len {vs : List V} {ds : List Dt} (h : RpA K B vs ds) : vs.length = ds.length := h.paired.length
end
/-! ### lists in step -/
section
variable {α β : Type} {F : α → β → Prop}
theorem pget : ∀ {l : List α} {m : List β} {i : Nat} {a : α}, Paired F l m → l[i]? = some a → ∃ b, m[i]? = some b ∧ F a b
  | _, _, _, _, .nil, e => by simp at e
  | _, _, 0, _, .cons h _, e => by simp at e; subst e; exact ⟨_, rfl, h⟩
  | _, _, i + 1, _, .cons _ t, e => by
    obtain ⟨b, h1, h2⟩ := pget (i := i) t (by simpa using e)
    exact ⟨b, by simpa using h1, h2⟩
theorem pget' : ∀ {l : List α} {m : List β} {i : Nat} {b : β}, Paired F l m → m[i]? = some b → ∃ a, l[i]? = some a ∧ F a b
  | _, _, _, _, .nil, e => by simp at e
  | _, _, 0, _, .cons h _, e => by simp at e; subst e; exact ⟨_, rfl, h⟩
  | _, _, i + 1, _, .cons _ t, e => by
    obtain ⟨b, h1, h2⟩ := pget' (i := i) t (by simpa using e)
    exact ⟨b, by simpa using h1, h2⟩
theorem pset {a : α} {b : β} (h : F a b) : ∀ {l : List α} {m : List β} (i : Nat), Paired F l m → Paired F (l.set i a) (m.set i b)
  | _, _, _, .nil => .nil
  | _, _, 0, .cons _ t => .cons h t
  | _, _, i + 1, .cons g t => .cons g (pset h i t)
theorem papp : ∀ {l l' : List α} {m m' : List β}, Paired F l m → Paired F l' m' → Paired F (l ++ l') (m ++ m')
  | _, _, _, _, .nil, t => t
  | _, _, _, _, .cons h s, t => .cons h (papp s t)
theorem ptake : ∀ {l : List α} {m : List β} (n : Nat), Paired F l m → Paired F (l.take n) (m.take n)
  | _, _, 0, _ => .nil
  | _, _, _ + 1, .nil => .nil
  | _, _, n + 1, .cons h t => .cons h (ptake n t)
theorem pdrop : ∀ {l : List α} {m : List β} (n : Nat), Paired F l m → Paired F (l.drop n) (m.drop n)
  | _, _, 0, h => h
  | _, _, _ + 1, .nil => .nil
  | _, _, n + 1, .cons _ t => pdrop n t
theorem perase : ∀ {l : List α} {m : List β} (n : Nat), Paired F l m → Paired F (l.eraseIdx n) (m.eraseIdx n)
  | _, _, _, .nil => .nil
  | _, _, 0, .cons _ t => t
  | _, _, n + 1, .cons h t => .cons h (perase n t)
theorem prev : ∀ {l : List α} {m : List β}, Paired F l m → Paired F l.reverse m.reverse
  | _, _, .nil => .nil
  | _, _, .cons h t => by rw [List.reverse_cons, List.reverse_cons]; exact papp (prev t) (.cons h .nil)
theorem plast : ∀ {l : List α} {m : List β}, Paired F l m → Paired F l.dropLast m.dropLast
  | _, _, .nil => .nil
  | _, _, .cons h .nil => .nil
  | _, _, .cons h (.cons g t) => .cons h (plast (.cons g t))
theorem pempty : ∀ {l : List α} {m : List β}, Paired F l m → l.isEmpty = m.isEmpty
  | _, _, .nil => rfl
  | _, _, .cons _ _ => rfl
theorem psplit : ∀ {l1 l2 : List α} {m : List β}, Paired F (l1 ++ l2) m → ∃ m1 m2, m = m1 ++ m2 ∧ Paired F l1 m1 ∧ Paired F l2 m2
  | [], _, m, h => ⟨[], m, rfl, .nil, h⟩
  | a :: l1, l2, _, .cons h t => by
    obtain ⟨m1, m2, e, h1, h2⟩ := psplit (l1 := l1) t
    exact ⟨_ :: m1, m2, by rw [e]; rfl, .cons h h1, h2⟩
end
/-! ### slots and changing objects, told by data -/
inductive Sl where
  | no | dt (d : Dt) | pt (a : Addr)
def SlR (K : PySem.W.Frag) (B : Hp) : Sl → V → Prop
  | .no, _ => False
  | .dt d, v => Rp K B v d
  | .pt a, v => v = .ref a
def OkS (K : PySem.W.Frag) (B : Hp) (s : Sl) (o : Option V) : Prop := s = .no ∨ ∃ v, o = some v ∧ SlR K B s v
abbrev EnR (K : PySem.W.Frag) (B : Hp) (ρ : List Sl) (σ : L2.St) : Prop := Paired (OkS K B) ρ σ
inductive Co where
  | lst (xs : List Sl) | dic (kvs : List (Key × Sl)) | dit (kvs : List (List Key × Sl)) | ins (C dx : Addr) (fs : List (Str × Sl)) | raw (o : HO)
def KvR (K : PySem.W.Frag) (B : Hp) {κ : Type} (p : κ × Sl) (q : κ × V) : Prop := p.1 = q.1 ∧ SlR K B p.2 q.2
def CoR (K : PySem.W.Frag) (B : Hp) : Co → HO → Prop
  | .lst ss, o => ∃ xs, o = .lst xs ∧ Paired (SlR K B) ss xs
  | .dic ss, o => ∃ kvs, o = .dK kvs ∧ Paired (KvR K B) ss kvs
  | .dit ss, o => ∃ kvs, o = .dT kvs ∧ Paired (KvR K B) ss kvs
  | .ins C dx ss, o => ∃ fs, o = .ins C dx fs ∧ Paired (KvR K B) ss fs
  | .raw u, o => o = u
abbrev Chs := List (Addr × Co)
def ChR (K : PySem.W.Frag) (B : Hp) (p : Addr × Co) (q : Addr × HO) : Prop := p.1 = q.1 ∧ CoR K B p.2 q.2
def Hc (K : PySem.W.Frag) (B : Hp) (L : Chs) (Fr : List (Addr × HO)) (H : Hp) : Prop := ∃ ho, Paired (ChR K B) L ho ∧ Hd B (ho ++ Fr) H
section
variable {K : PySem.W.Frag} {B B' H H' : Hp} {L : Chs} {Fr : List (Addr × HO)}
theorem SlR.monoV (s : Lv B B') : ∀ {r : Sl} {v : V}, SlR K B r v → SlR K B' r v
  | .no, _, h => h
  | .dt _, _, h => Rp.monoV s h
  | .pt _, _, h => h
theorem OkS.monoV (s : Lv B B') {r : Sl} {o : Option V} (h : OkS K B r o) : OkS K B' r o := by
  rcases h with h | ⟨v, e, h⟩
  · exact .inl h
  · exact .inr ⟨v, e, h.monoV s⟩
theorem EnR.monoV (s : Lv B B') {ρ : List Sl} {σ : L2.St} (h : EnR K B ρ σ) : EnR K B' ρ σ := Paired.mapP h fun _ _ q => q.monoV s
theorem KvR.monoV {κ : Type} (s : Lv B B') {p : κ × Sl} {q : κ × V} (h : KvR K B p q) : KvR K B' p q := ⟨h.1, h.2.monoV s⟩
theorem CoR.monoV (s : Lv B B') : ∀ {c : Co} {o : HO}, CoR K B c o → CoR K B' c o
  | .lst _, _, ⟨xs, e, h⟩ => ⟨xs, e, Paired.mapP h fun _ _ q => q.monoV s⟩
  | .dic _, _, ⟨xs, e, h⟩ => ⟨xs, e, Paired.mapP h fun _ _ q => q.monoV s⟩
  | .dit _, _, ⟨xs, e, h⟩ => ⟨xs, e, Paired.mapP h fun _ _ q => q.monoV s⟩
  | .ins _ _ _, _, ⟨xs, e, h⟩ => ⟨xs, e, Paired.mapP h fun _ _ q => q.monoV s⟩
  | .raw _, _, h => h
theorem ChR.monoV (s : Lv B B') {p : Addr × Co} {q : Addr × HO} (h : ChR K B p q) : ChR K B' p q := ⟨h.1, h.2.monoV s⟩
theorem chs_monoV (s : Lv B B') {ho : List (Addr × HO)} (h : Paired (ChR K B) L ho) : Paired (ChR K B') L ho := Paired.mapP h fun _ _ q => q.monoV s
theorem Hc.seq (S : Hc K B L Fr H) : Same B H := by obtain ⟨_, _, S⟩ := S; exact S.old
/-- the k-th changing object as it stands -/
theorem hd_at : ∀ {ho : List (Addr × HO)} {k : Nat} {p : Addr} {o : HO}, Hd B ho H → ho[k]? = some (p, o) → H p = some o := fun S e => (S.at_ _ (List.mem_of_getElem? e)).1
theorem hd_no {ho : List (Addr × HO)} {k : Nat} {p : Addr} {o : HO} (S : Hd B ho H) (e : ho[k]? = some (p, o)) : B p = none := (S.at_ _ (List.mem_of_getElem? e)).2
theorem map_set {α β : Type} (f : α → β) : ∀ (l : List α) (k : Nat) (x : α), (l.set k x).map f = (l.map f).set k (f x)
  | [], _, _ => rfl
  | _ :: _, 0, _ => rfl
  | a :: l, k + 1, x => congrArg (f a :: ·) (map_set f l k x)
theorem set_same {α : Type} : ∀ {l : List α} {k : Nat} {x : α}, l[k]? = some x → l.set k x = l
  | [], _, _, h => by simp at h
  | _ :: _, 0, _, h => by simp at h; subst h; rfl
  | a :: l, k + 1, x, h => congrArg (a :: ·) (set_same (l := l) (k := k) (by simpa using h))
theorem hd_put {ho : List (Addr × HO)} {k : Nat} {p : Addr} {o : HO} (S : Hd B ho H) (e : ho[k]? = some (p, o)) (o' : HO) : Hd B (ho.set k (p, o')) (upd H p o') := by
  have hm : (ho.set k (p, o')).map (·.1) = ho.map (·.1) := by
    rw [map_set]
    exact set_same (by rw [List.getElem?_map, e]; rfl)
  refine ⟨same_upd2 S.old (hd_no S e) o', fun q hq => ?_, by rw [hm]; exact S.nd⟩
  obtain ⟨j, hj⟩ := List.mem_iff_getElem?.mp hq
  by_cases hjk : k = j
  · subst hjk
    have hlt : k < ho.length := (List.getElem?_eq_some_iff.mp e).1
    rw [List.getElem?_set_self hlt] at hj
    cases hj
    exact ⟨upd_same, hd_no S e⟩
  · rw [List.getElem?_set_ne hjk] at hj
    have h := S.at_ q (List.mem_of_getElem? hj)
    have ne : q.1 ≠ p := fun z => by
      have e1 : (ho.map (·.1))[j]? = some p := by rw [List.getElem?_map, hj, ← z]; rfl
      have e2 : (ho.map (·.1))[k]? = some p := by rw [List.getElem?_map, e]; rfl
      exact hjk (nd_ix S.nd e2 e1)
    exact ⟨by rw [upd_ne ne]; exact h.1, h.2⟩
theorem Hc.at_ (S : Hc K B L Fr H) {k : Nat} {p : Addr} {c : Co} (e : L[k]? = some (p, c)) : ∃ o, H p = some o ∧ CoR K B c o ∧ B p = none := by
  obtain ⟨ho, h1, S⟩ := S
  obtain ⟨⟨q, o⟩, e2, h2⟩ := pget h1 e
  obtain ⟨ep, hc⟩ := h2
  have ep : p = q := ep
  subst ep
  have e3 : (ho ++ Fr)[k]? = some (p, o) := by
    rw [List.getElem?_append_left (List.getElem?_eq_some_iff.mp e2).1]; exact e2
  exact ⟨o, hd_at S e3, hc, hd_no S e3⟩
theorem Hc.put (S : Hc K B L Fr H) {k : Nat} {p : Addr} {c : Co} (e : L[k]? = some (p, c)) {c' : Co} {o' : HO} (h : CoR K B c' o') : Hc K B (L.set k (p, c')) Fr (upd H p o') := by
  obtain ⟨ho, h1, S⟩ := S
  obtain ⟨⟨q, o⟩, e2, h2⟩ := pget h1 e
  have ep : p = q := h2.1
  subst ep
  have hlt := (List.getElem?_eq_some_iff.mp e2).1
  have e3 : (ho ++ Fr)[k]? = some (p, o) := by rw [List.getElem?_append_left hlt]; exact e2
  refine ⟨ho.set k (p, o'), pset (F := ChR K B) (a := (p, c')) (b := (p, o')) ⟨rfl, h⟩ k h1, ?_⟩
  have S2 := hd_put S e3 o'
  rwa [List.set_append_left _ _ hlt] at S2
/-- a new object that stays as it is -/
theorem Hc.fix (S : Hc K B L Fr H) {p : Addr} (hp : H p = none) (o : HO) : Le B (upd B p o) ∧ Hc K (upd B p o) L Fr (upd H p o) := by
  obtain ⟨ho, h1, S⟩ := S
  have s : Le B (upd B p o) := Le.of (same_upd (S.free hp) o)
  exact ⟨s, ho, chs_monoV s.lv h1, S.fix hp o⟩
theorem Hc.skip (S : Hc K B L Fr H) {p : Addr} (hp : H p = none) (o : HO) : Hc K B L Fr (upd H p o) := by
  obtain ⟨ho, h1, S⟩ := S
  exact ⟨ho, h1, S.skip hp o⟩
theorem Hc.new (S : Hc K B L Fr H) {p : Addr} (hp : H p = none) {c : Co} {o : HO} (h : CoR K B c o) : Hc K B (L ++ [(p, c)]) Fr (upd H p o) := by
  obtain ⟨ho, h1, S⟩ := S
  have S2 := S.new hp o
  refine ⟨ho ++ [(p, o)], papp h1 (.cons ⟨rfl, h⟩ .nil), S2.perm ?_⟩
  rw [List.append_assoc]
  exact List.perm_middle
theorem Hc.free (S : Hc K B L Fr H) {p : Addr} (hp : H p = none) : B p = none := S.seq.free hp
theorem hd_split {h1 h2 Fr : List (Addr × HO)} (S : Hd B ((h1 ++ h2) ++ Fr) H) : Hd B (h1 ++ (h2 ++ Fr)) H := by rw [← List.append_assoc]; exact S
/-- a part of the changing objects is laid aside -/
theorem Hc.aside {L1 L2 : Chs} (S : Hc K B (L1 ++ L2) Fr H) : ∃ h2, Paired (ChR K B) L2 h2 ∧ Hc K B L1 (h2 ++ Fr) H := by
  obtain ⟨ho, h1, S⟩ := S
  obtain ⟨m1, m2, e, p1, p2⟩ := psplit h1
  subst e
  exact ⟨m2, p2, m1, p1, hd_split S⟩
theorem Hc.again {L1 L2 : Chs} {h2 : List (Addr × HO)} (S : Hc K B L1 (h2 ++ Fr) H) (p2 : Paired (ChR K B) L2 h2) : Hc K B (L1 ++ L2) Fr H := by
  obtain ⟨m1, p1, S⟩ := S
  exact ⟨m1 ++ h2, papp p1 p2, by rw [List.append_assoc]; exact S⟩
theorem perm_paired {α β : Type} {F : α → β → Prop} {l l' : List α} (h : l.Perm l') : ∀ {m : List β}, Paired F l m → ∃ m', m.Perm m' ∧ Paired F l' m' := by
  induction h with
  | nil => intro m h; exact ⟨m, .refl m, h⟩
  | cons x _ ih =>
    intro m h
    cases h with
    | cons a t =>
      obtain ⟨m', q1, q2⟩ := ih t
      exact ⟨_ :: m', .cons _ q1, .cons a q2⟩
  | swap x y l =>
    intro m h
    cases h with
    | cons a t => cases t with
      | cons b t => exact ⟨_, .swap _ _ _, .cons b (.cons a t)⟩
  | trans _ _ ih1 ih2 =>
    intro m h
    obtain ⟨m1, q1, q2⟩ := ih1 h
    obtain ⟨m2, q3, q4⟩ := ih2 q2
    exact ⟨m2, q1.trans q3, q4⟩
theorem Hc.perm {L' : Chs} (S : Hc K B L Fr H) (h : L.Perm L') : Hc K B L' Fr H := by
  obtain ⟨ho, h1, S⟩ := S
  obtain ⟨m, q1, q2⟩ := perm_paired h h1
  exact ⟨m, q2, S.perm (q1.symm.append_right Fr)⟩
end
section
variable {K : PySem.W.Frag} {B B' : Hp}
theorem Rp.mono (s : Le B B') {v : V} {d : Dt} (h : Rp K B v d) : Rp K B' v d := Rp.monoV s.lv h
theorem RpA.mono (s : Le B B') {vs : List V} {ds : List Dt} (h : RpA K B vs ds) : RpA K B' vs ds := RpA.monoV s.lv h
theorem SlR.mono (s : Le B B') {r : Sl} {v : V} (h : SlR K B r v) : SlR K B' r v := h.monoV s.lv
theorem OkS.mono (s : Le B B') {r : Sl} {o : Option V} (h : OkS K B r o) : OkS K B' r o := h.monoV s.lv
theorem EnR.mono (s : Le B B') {ρ : List Sl} {σ : L2.St} (h : EnR K B ρ σ) : EnR K B' ρ σ := EnR.monoV s.lv h
theorem KvR.mono {κ : Type} (s : Le B B') {p : κ × Sl} {q : κ × V} (h : KvR K B p q) : KvR K B' p q := h.monoV s.lv
theorem CoR.mono (s : Le B B') {c : Co} {o : HO} (h : CoR K B c o) : CoR K B' c o := h.monoV s.lv
theorem ChR.mono (s : Le B B') {p : Addr × Co} {q : Addr × HO} (h : ChR K B p q) : ChR K B' p q := h.monoV s.lv
theorem chs_mono (s : Le B B') {L : Chs} {ho : List (Addr × HO)} (h : Paired (ChR K B) L ho) : Paired (ChR K B') L ho := chs_monoV s.lv h
end
/-! ### the second calculus: what must hold, by data -/
abbrev Pd := Sl → Chs → Prop
def WE (K : PySem.W.Frag) (te : TE) (ρ : List Sl) (L : Chs) (Φ : Pd) : Prop :=
  ∀ (Fr : List (Addr × HO)) (B : Hp) (σ : L2.St) (H : Hp) (Q : VK), EnR K B ρ σ → Hc K B L Fr H → (∀ r L' v B' H', Φ r L' → Le B B' → Hc K B' L' Fr H' → SlR K B' r v → Q v H') → te σ H Q
def WT (K : PySem.W.Frag) (tt : TT) (ρ : List Sl) (L : Chs) (Φ : Bool → Chs → Prop) : Prop :=
  ∀ (Fr : List (Addr × HO)) (B : Hp) (σ : L2.St) (H : Hp) (Q : Bool → Hp → Prop), EnR K B ρ σ → Hc K B L Fr H → (∀ b L' B' H', Φ b L' → Le B B' → Hc K B' L' Fr H' → Q b H') → tt σ H Q
def WA (K : PySem.W.Frag) (ta : TA) (ρ : List Sl) (L : Chs) (Φ : List Sl → Chs → Prop) : Prop :=
  ∀ (Fr : List (Addr × HO)) (B : Hp) (σ : L2.St) (H : Hp) (Q : List V → Hp → Prop), EnR K B ρ σ → Hc K B L Fr H → (∀ rs L' vs B' H', Φ rs L' → Le B B' → Hc K B' L' Fr H' → Paired (SlR K B') rs vs → Q vs H') → ta σ H Q
/-- an operation on values -/
def WR (K : PySem.W.Frag) (r : R2) (x y : Sl) (L : Chs) (Φ : Pd) : Prop :=
  ∀ (Fr : List (Addr × HO)) (B : Hp) (H : Hp) (Q : VK) (v u : V), Hc K B L Fr H → SlR K B x v → SlR K B y u → (∀ r L' v B' H', Φ r L' → Le B B' → Hc K B' L' Fr H' → SlR K B' r v → Q v H') → r v u H Q
def WC (K : PySem.W.Frag) (r : List V → Hp → VK → Prop) (xs : List Sl) (L : Chs) (Φ : Pd) : Prop :=
  ∀ (Fr : List (Addr × HO)) (B : Hp) (H : Hp) (Q : VK) (vs : List V), Hc K B L Fr H → Paired (SlR K B) xs vs → (∀ r L' v B' H', Φ r L' → Le B B' → Hc K B' L' Fr H' → SlR K B' r v → Q v H') → r vs H Q
def WM (K : PySem.W.Frag) (r : V → List V → Hp → VK → Prop) (x : Sl) (xs : List Sl) (L : Chs) (Φ : Pd) : Prop :=
  ∀ (Fr : List (Addr × HO)) (B : Hp) (H : Hp) (Q : VK) (v : V) (vs : List V), Hc K B L Fr H → SlR K B x v → Paired (SlR K B) xs vs → (∀ r L' v B' H', Φ r L' → Le B B' → Hc K B' L' Fr H' → SlR K B' r v → Q v H') → r v vs H Q
structure En2 where
  nx : List Sl → Chs → Prop
  rt : Pd
  bk : List Sl → Chs → Prop := fun _ _ => False
  ct : List Sl → Chs → Prop := fun _ _ => False
structure EnOk (K : PySem.W.Frag) (D : En2) (Fr : List (Addr × HO)) (B : Hp) (D' : Ends) : Prop where
  nx : ∀ ρ L σ B' H', D.nx ρ L → Le B B' → EnR K B' ρ σ → Hc K B' L Fr H' → D'.nx σ H'
  rt : ∀ r L v B' H', D.rt r L → Le B B' → Hc K B' L Fr H' → SlR K B' r v → D'.rt v H'
  bk : ∀ ρ L σ B' H', D.bk ρ L → Le B B' → EnR K B' ρ σ → Hc K B' L Fr H' → D'.bk σ H'
  ct : ∀ ρ L σ B' H', D.ct ρ L → Le B B' → EnR K B' ρ σ → Hc K B' L Fr H' → D'.ct σ H'
theorem EnOk.mono {K : PySem.W.Frag} {D : En2} {Fr : List (Addr × HO)} {B B1 : Hp} {D' : Ends} (h : EnOk K D Fr B D') (s : Le B B1) : EnOk K D Fr B1 D' :=
  ⟨fun ρ L σ B' H' a b c d => h.nx ρ L σ B' H' a (s.trans b) c d, fun r L v B' H' a b c d => h.rt r L v B' H' a (s.trans b) c d, fun ρ L σ B' H' a b c d => h.bk ρ L σ B' H' a (s.trans b) c d, fun ρ L σ B' H' a b c d => h.ct ρ L σ B' H' a (s.trans b) c d⟩
def WS (K : PySem.W.Frag) (t : TS) (D : En2) (ρ : List Sl) (L : Chs) : Prop :=
  ∀ (Fr : List (Addr × HO)) (B : Hp) (σ : L2.St) (H : Hp) (D' : Ends), EnR K B ρ σ → Hc K B L Fr H → EnOk K D Fr B D' → t D' σ H
end Sx
namespace Sx
open PySem PySem.Spec PyProof.Rows L2
section
variable {K : PySem.W.Frag} {ρ : List Sl} {L : Chs} {Φ : Pd} {te ta tb tc : TE} {t u : TS} {D : En2} {r : R2}
def Sl.ok : Sl → Bool
  | .no => false
  | _ => true
theorem lz {n : Nat} (h : Nat.ble n sizeLine = true) : n ≤ sizeLine := Nat.le_of_ble_eq_true h
theorem lz' {n : Nat} (h : Nat.ble (n + 1) sizeLine = true) : n < sizeLine := Nat.le_of_ble_eq_true h
theorem sz {n : Nat} (h : n ≤ 1000000) : n ≤ sizeLine := Nat.le_trans h (by decide)
theorem szl {n : Nat} (h : n < 1000000) : n < sizeLine := Nat.lt_of_lt_of_le h (by decide)
/-! ### names, constants -/
theorem w_var {i : Nat} {s : Sl} (h : ρ[i]? = some s) (hs : s.ok = true) (q : Φ s L) : WE K (tVar i) ρ L Φ := by
  intro Fr B σ H Q he hc k
  obtain ⟨o, e, g⟩ := pget he h
  rcases g with g | ⟨v, g1, g2⟩
  · subst g; cases hs
  · subst g1
    exact ⟨v, e, k s L v B H q (Le.refl B) hc g2⟩
theorem w_int {i : Int} (q : Φ (.dt (.int i)) L) : WE K (tC (.int i)) ρ L Φ := fun _ B _ H _ _ hc k => k _ L _ B H q (Le.refl B) hc (.int i)
theorem w_str {x : Str} (q : Φ (.dt (.str x)) L) : WE K (tC (.str x)) ρ L Φ := fun _ B _ H _ _ hc k => k _ L _ B H q (Le.refl B) hc (.str x)
theorem w_bl {b : Bool} (q : Φ (.dt (.bl b)) L) : WE K (tC (.bl b)) ρ L Φ := fun _ B _ H _ _ hc k => k _ L _ B H q (Le.refl B) hc (.bl b)
theorem w_non (q : Φ (.dt .non) L) : WE K (tC .non) ρ L Φ := fun _ B _ H _ _ hc k => k _ L _ B H q (Le.refl B) hc .non
theorem w_imp {Ψ : Pd} (h : WE K te ρ L Ψ) (i : ∀ r L', Ψ r L' → Φ r L') : WE K te ρ L Φ := fun Fr B σ H Q he hc k => h Fr B σ H Q he hc fun r L' v B' H' a b c d => k r L' v B' H' (i r L' a) b c d
/-- what the changing objects are is told in another order -/
theorem w_permE {L' : Chs} (p : L.Perm L') (h : WE K te ρ L' Φ) : WE K te ρ L Φ := fun Fr B σ H Q he hc k => h Fr B σ H Q he (hc.perm p) k
theorem w_permS {L' : Chs} (p : L.Perm L') (h : WS K t D ρ L') : WS K t D ρ L := fun Fr B σ H Q he hc k => h Fr B σ H Q he (hc.perm p) k
/-! ### operators -/
theorem w_op (h : WE K ta ρ L fun x L1 => WE K tb ρ L1 fun y L2 => WR K r x y L2 Φ) : WE K (tOp r ta tb) ρ L Φ := by
  intro Fr B σ H Q he hc k
  refine h Fr B σ H _ he hc fun x L1 v B1 H1 h1 s1 hc1 r1 => ?_
  refine h1 Fr B1 σ H1 _ (he.mono s1) hc1 fun y L2 u B2 H2 h2 s2 hc2 r2 => ?_
  exact h2 Fr B2 H2 Q v u hc2 (r1.mono s2) r2 fun r L' v' B' H' a b c d => k r L' v' B' H' a ((s1.trans s2).trans b) c d
theorem w_un {f : V → Hp → VK → Prop} (h : WE K ta ρ L fun x L1 => WR K (fun v _ H Q => f v H Q) x x L1 Φ) : WE K (tUn f ta) ρ L Φ := by
  intro Fr B σ H Q he hc k
  refine h Fr B σ H _ he hc fun x L1 v B1 H1 h1 s1 hc1 r1 => ?_
  exact h1 Fr B1 H1 Q v v hc1 r1 r1 fun r L' v' B' H' a b c d => k r L' v' B' H' a (s1.trans b) c d
theorem r_II {g : Int → Int → Int} {i j : Int} (q : Φ (.dt (.int (g i j))) L) : WR K (rI0 fun i j => .int (g i j)) (.dt (.int i)) (.dt (.int j)) L Φ := by
  intro Fr B H Q v u hc rx ry k
  cases rx; cases ry
  exact ⟨i, j, rfl, rfl, k _ L _ B H q (Le.refl B) hc (.int _)⟩
theorem r_IB {g : Int → Int → Bool} {i j : Int} (q : Φ (.dt (.bl (g i j))) L) : WR K (rI0 fun i j => .bl (g i j)) (.dt (.int i)) (.dt (.int j)) L Φ := by
  intro Fr B H Q v u hc rx ry k
  cases rx; cases ry
  exact ⟨i, j, rfl, rfl, k _ L _ B H q (Le.refl B) hc (.bl _)⟩
theorem r_CI {C : Int → Int → Prop} {g : Int → Int → Int} {i j : Int} (hc : C i j) (q : Φ (.dt (.int (g i j))) L) : WR K (rI C fun i j => .int (g i j)) (.dt (.int i)) (.dt (.int j)) L Φ := by
  intro Fr B H Q v u h rx ry k
  cases rx; cases ry
  exact ⟨i, j, rfl, rfl, hc, k _ L _ B H q (Le.refl B) h (.int _)⟩
theorem r_mod {i j : Int} (hj : 0 < j) (q : Φ (.dt (.int (i % j))) L) : WR K (rI (fun _ j => 0 < j) fun i j => .int (i % j)) (.dt (.int i)) (.dt (.int j)) L Φ := r_CI hj q
theorem r_fdiv {i j : Int} (hj : 0 < j) (hm : j < 1073741824) (q : Φ (.dt (.int (i / j))) L) : WR K (rI CDiv fun i j => .int (i / j)) (.dt (.int i)) (.dt (.int j)) L Φ := r_CI ⟨hj, hm⟩ q
theorem r_mul {i j : Int} (h : (-(2 ^ 64) < i ∧ i < 2 ^ 64) ∨ (-(2 ^ 64) < j ∧ j < 2 ^ 64)) (q : Φ (.dt (.int (i * j))) L) : WR K (rI CMul fun i j => .int (i * j)) (.dt (.int i)) (.dt (.int j)) L Φ := r_CI h q
/-- a power of written numbers: n is its value -/
theorem r_pow (n : Int) {i j : Int} (hn : decide (i ^ j.toNat = n) = true) (h : (decide (0 ≤ j) && (decide (j ≤ 1000000) && decide (i.natAbs < 18446744073709551616))) = true) (q : Φ (.dt (.int n)) L) :
    WR K (rI CPow fun i j => .int (i ^ j.toNat)) (.dt (.int i)) (.dt (.int j)) L Φ := by
  have e := of_decide_eq_true hn
  simp only [Bool.and_eq_true, decide_eq_true_eq] at h
  subst e
  exact r_CI ⟨h.1, h.2.1, h.2.2⟩ q
theorem r_neg {i : Int} (q : Φ (.dt (.int (-i))) L) : WR K (fun v _ H Q => rU (fun i => .int (-i)) v H Q) (.dt (.int i)) (.dt (.int i)) L Φ := by
  intro Fr B H Q v u h rx ry k
  cases rx
  exact ⟨i, rfl, k _ L _ B H q (Le.refl B) h (.int _)⟩
theorem r_addib {i : Int} {b : Bool} (q : Φ (.dt (.int (i + b2i b))) L) : WR K (fun x y H Q => ∃ i k, x = .int i ∧ y = .bl k ∧ Q (.int (i + b2i k)) H) (.dt (.int i)) (.dt (.bl b)) L Φ := by
  intro Fr B H Q v u h rx ry k
  cases rx; cases ry
  exact ⟨i, b, rfl, rfl, k _ L _ B H q (Le.refl B) h (.int _)⟩
theorem dec_iff {p q : Prop} [Decidable p] [Decidable q] (h : p ↔ q) : decide p = decide q := by
  by_cases hp : p
  · rw [decide_eq_true hp, decide_eq_true (h.mp hp)]
  · rw [decide_eq_false hp, decide_eq_false fun z => hp (h.mpr z)]
theorem r_eqI {i j : Int} (q : Φ (.dt (.bl (decide (i = j)))) L) : WR K rEq (.dt (.int i)) (.dt (.int j)) L Φ := by
  intro Fr B H Q v u h rx ry k
  cases rx; cases ry
  refine ⟨rfl, k _ L _ B H q (Le.refl B) h ?_⟩
  rw [dec_iff (p := V.int i = V.int j) (q := i = j) ⟨fun e => by injection e, fun e => by rw [e]⟩]
  exact .bl _
theorem r_neI {i j : Int} (q : Φ (.dt (.bl (!decide (i = j)))) L) : WR K rNe (.dt (.int i)) (.dt (.int j)) L Φ := by
  intro Fr B H Q v u h rx ry k
  cases rx; cases ry
  refine ⟨rfl, k _ L _ B H q (Le.refl B) h ?_⟩
  rw [dec_iff (p := V.int i = V.int j) (q := i = j) ⟨fun e => by injection e, fun e => by rw [e]⟩]
  exact .bl _
theorem r_eqS {i j : Str} (q : Φ (.dt (.bl (decide (i = j)))) L) : WR K rEq (.dt (.str i)) (.dt (.str j)) L Φ := by
  intro Fr B H Q v u h rx ry k
  cases rx; cases ry
  refine ⟨rfl, k _ L _ B H q (Le.refl B) h ?_⟩
  rw [dec_iff (p := V.str i = V.str j) (q := i = j) ⟨fun e => by injection e, fun e => by rw [e]⟩]
  exact .bl _
theorem r_neS {i j : Str} (q : Φ (.dt (.bl (!decide (i = j)))) L) : WR K rNe (.dt (.str i)) (.dt (.str j)) L Φ := by
  intro Fr B H Q v u h rx ry k
  cases rx; cases ry
  refine ⟨rfl, k _ L _ B H q (Le.refl B) h ?_⟩
  rw [dec_iff (p := V.str i = V.str j) (q := i = j) ⟨fun e => by injection e, fun e => by rw [e]⟩]
  exact .bl _
theorem r_eqB {i j : Bool} (q : Φ (.dt (.bl (decide (i = j)))) L) : WR K rEq (.dt (.bl i)) (.dt (.bl j)) L Φ := by
  intro Fr B H Q v u h rx ry k
  cases rx; cases ry
  refine ⟨rfl, k _ L _ B H q (Le.refl B) h ?_⟩
  rw [dec_iff (p := V.bl i = V.bl j) (q := i = j) ⟨fun e => by injection e, fun e => by rw [e]⟩]
  exact .bl _
theorem r_addS {i j : Str} (hl : i.length + j.length ≤ 1000000) (q : Φ (.dt (.str (i ++ j))) L) : WR K (fun x y H Q => ∃ i j, x = .str i ∧ y = .str j ∧ i.length + j.length ≤ sizeLine ∧ Q (.str (i ++ j)) H) (.dt (.str i)) (.dt (.str j)) L Φ := by
  intro Fr B H Q v u h rx ry k
  cases rx; cases ry
  exact ⟨i, j, rfl, rfl, sz hl, k _ L _ B H q (Le.refl B) h (.str _)⟩
/-- x is None -/
def isNonD : Sl → Bool
  | .dt .non => true
  | _ => false
theorem isNon_iff {B : Hp} {x : Sl} {v : V} (h : SlR K B x v) : decide (v = .non) = isNonD x := by
  cases x with
  | no => exact h.elim
  | pt a => cases h; rfl
  | dt d => cases h <;> rfl
theorem r_isN {x : Sl} (q : Φ (.dt (.bl (isNonD x))) L) : WR K (fun x y H Q => y = .non ∧ Q (.bl (decide (x = .non))) H) x (.dt .non) L Φ := by
  intro Fr B H Q v u h rx ry k
  cases ry
  refine ⟨rfl, k _ L _ B H q (Le.refl B) h ?_⟩
  rw [isNon_iff rx]
  exact .bl _
theorem r_notN {x : Sl} (q : Φ (.dt (.bl (!isNonD x))) L) : WR K (fun x y H Q => y = .non ∧ Q (.bl (!decide (x = .non))) H) x (.dt .non) L Φ := by
  intro Fr B H Q v u h rx ry k
  cases ry
  refine ⟨rfl, k _ L _ B H q (Le.refl B) h ?_⟩
  rw [isNon_iff rx]
  exact .bl _
/-! ### subscripts -/
theorem rpa_atI {B : Hp} {xs : List V} {ds : List Dt} {i : Int} {d : Dt} (ha : RpA K B xs ds) (e : atI ds i = some d) : ∃ v, atI xs i = some v ∧ Rp K B v d := by
  unfold atI at e ⊢
  rw [ha.len]
  cases q : ixN ds.length i with
  | none => rw [q] at e; cases e
  | some j =>
    rw [q] at e
    exact pget' ha.paired e
theorem pair_atI {α β : Type} {F : α → β → Prop} {xs : List β} {ds : List α} {i : Int} {d : α} (ha : Paired F ds xs) (e : atI ds i = some d) : ∃ v, atI xs i = some v ∧ F d v := by
  unfold atI at e ⊢
  rw [← ha.length]
  cases q : ixN ds.length i with
  | none => rw [q] at e; cases e
  | some j =>
    rw [q] at e
    exact pget ha e
theorem r_ixL {ds : List Dt} {i : Int} {d : Dt} (h : atI ds i = some d) (q : Φ (.dt d) L) : WR K (rIxL K) (.dt (.lst ds)) (.dt (.int i)) L Φ := by
  intro Fr B H Q v u hc rx ry k
  cases ry
  cases rx with
  | lst hb ha =>
    obtain ⟨v, e, r⟩ := rpa_atI ha h
    exact ⟨_, _, i, v, rfl, rfl, SqL.of (hc.seq _ _ hb), e, k _ L _ B H q (Le.refl B) hc r⟩
theorem r_ixT {ds : List Dt} {i : Int} {d : Dt} (h : atI ds i = some d) (q : Φ (.dt d) L) : WR K (rIxT K) (.dt (.tup ds)) (.dt (.int i)) L Φ := by
  intro Fr B H Q v u hc rx ry k
  cases ry
  cases rx with
  | tup hb ha =>
    obtain ⟨v, e, r⟩ := rpa_atI ha h
    exact ⟨_, _, i, v, rfl, rfl, SqT.of (hc.seq _ _ hb), e, k _ L _ B H q (Le.refl B) hc r⟩
theorem r_ixS {z : Str} {i : Int} {c : Nat} (hz : z.length ≤ 1000000) (h : atI z.cps.toList i = some c) (q : Φ (.dt (.str ⟨#[c]⟩)) L) : WR K rIxS (.dt (.str z)) (.dt (.int i)) L Φ := by
  intro Fr B H Q v u hc rx ry k
  cases ry
  cases rx
  exact ⟨_, i, c, rfl, rfl, sz hz, h, k _ L _ B H q (Le.refl B) hc (.str _)⟩
/-- a changing list -/
theorem r_ixP {p : Addr} {k : Nat} {ss : List Sl} {i : Int} {s : Sl} (e : L[k]? = some (p, .lst ss)) (h : atI ss i = some s) (q : Φ s L) : WR K (rIxL K) (.pt p) (.dt (.int i)) L Φ := by
  intro Fr B H Q v u hc rx ry kk
  cases ry
  cases rx
  obtain ⟨o, h1, ⟨xs, h2, h3⟩, _⟩ := hc.at_ e
  subst h2
  obtain ⟨v, h4, r⟩ := pair_atI h3 h
  exact ⟨_, _, i, v, rfl, rfl, SqL.of h1, h4, kk _ L _ B H q (Le.refl B) hc r⟩
theorem r_ixScr {ns : List Int} {i n : Int} (h : atI ns i = some n) (q : Φ (.dt (.int n)) L) : WR K (rIxL K) (.dt (.scr ns)) (.dt (.int i)) L Φ := by
  intro Fr B H Q v u hc rx ry k
  cases ry
  cases rx with
  | scr hb =>
    have e : atI (ns.map V.int) i = some (V.int n) := by
      unfold atI at h ⊢
      rw [List.length_map]
      cases q : ixN ns.length i with
      | none => rw [q] at h; cases h
      | some j =>
        rw [q] at h
        have h : ns[j]? = some n := h
        show (ns.map V.int)[j]? = some (V.int n)
        rw [List.getElem?_map, h]; rfl
    exact ⟨_, _, i, _, rfl, rfl, hc.seq.seq hb, e, k _ L _ B H q (Le.refl B) hc (.int n)⟩
/-! ### lists and tuples made -/
def WD (K : PySem.W.Frag) (ta : TA) (ρ : List Sl) (L : Chs) (Φ : List Dt → Chs → Prop) : Prop :=
  ∀ (Fr : List (Addr × HO)) (B : Hp) (σ : L2.St) (H : Hp) (Q : List V → Hp → Prop), EnR K B ρ σ → Hc K B L Fr H → (∀ ds L' vs B' H', Φ ds L' → Le B B' → Hc K B' L' Fr H' → RpA K B' vs ds → Q vs H') → ta σ H Q
theorem wd_nil {Φ : List Dt → Chs → Prop} (q : Φ [] L) : WD K tNil ρ L Φ := fun _ B _ H _ _ hc k => k [] L [] B H q (Le.refl B) hc .nil
theorem wd_cons {tr : TA} {Φ : List Dt → Chs → Prop} (h : WE K te ρ L fun r L1 => ∃ d, r = .dt d ∧ WD K tr ρ L1 fun ds L2 => Φ (d :: ds) L2) : WD K (tCons te tr) ρ L Φ := by
  intro Fr B σ H Q he hc k
  refine h Fr B σ H _ he hc fun x L1 v B1 H1 h1 s1 hc1 r1 => ?_
  obtain ⟨d, e, h1⟩ := h1
  subst e
  refine h1 Fr B1 σ H1 _ (he.mono s1) hc1 fun ds L2 vs B2 H2 h2 s2 hc2 r2 => ?_
  exact k _ L2 _ B2 H2 h2 (s1.trans s2) hc2 (.cons (Rp.mono s2 r1) r2)
theorem wa_nil {Φ : List Sl → Chs → Prop} (q : Φ [] L) : WA K tNil ρ L Φ := fun _ B _ H _ _ hc k => k [] L [] B H q (Le.refl B) hc .nil
theorem wa_cons {tr : TA} {Φ : List Sl → Chs → Prop} (h : WE K te ρ L fun r L1 => WA K tr ρ L1 fun rs L2 => Φ (r :: rs) L2) : WA K (tCons te tr) ρ L Φ := by
  intro Fr B σ H Q he hc k
  refine h Fr B σ H _ he hc fun x L1 v B1 H1 h1 s1 hc1 r1 => ?_
  refine h1 Fr B1 σ H1 _ (he.mono s1) hc1 fun rs L2 vs B2 H2 h2 s2 hc2 r2 => ?_
  exact k _ L2 _ B2 H2 h2 (s1.trans s2) hc2 (.cons (SlR.mono s2 r1) r2)
theorem w_tup {ta' : TA} (h : WD K ta' ρ L fun ds L1 => ds.length ≤ sizeLine ∧ Φ (.dt (.tup ds)) L1) : WE K (tTup ta') ρ L Φ := by
  intro Fr B σ H Q he hc k
  refine h Fr B σ H _ he hc fun ds L1 vs B1 H1 h1 s1 hc1 r1 => ⟨by rw [r1.len]; exact h1.1, fun p hp => ?_⟩
  obtain ⟨s2, hc2⟩ := hc1.fix hp (.tup vs)
  exact k _ L1 _ _ _ h1.2 (s1.trans s2) hc2 (.tup upd_same (RpA.mono s2 r1))
/-- a new list that stays as it is -/
theorem w_lst {ta' : TA} (h : WD K ta' ρ L fun ds L1 => ds.length ≤ sizeLine ∧ Φ (.dt (.lst ds)) L1) : WE K (tLst ta') ρ L Φ := by
  intro Fr B σ H Q he hc k
  refine h Fr B σ H _ he hc fun ds L1 vs B1 H1 h1 s1 hc1 r1 => ⟨by rw [r1.len]; exact h1.1, fun p hp => ?_⟩
  obtain ⟨s2, hc2⟩ := hc1.fix hp (.lst vs)
  exact k _ L1 _ _ _ h1.2 (s1.trans s2) hc2 (.lst upd_same (RpA.mono s2 r1))
/-- a new list that will change -/
theorem w_lstM {ta' : TA} (h : WA K ta' ρ L fun rs L1 => rs.length ≤ sizeLine ∧ ∀ p, Φ (.pt p) (L1 ++ [(p, .lst rs)])) : WE K (tLst ta') ρ L Φ := by
  intro Fr B σ H Q he hc k
  refine h Fr B σ H _ he hc fun rs L1 vs B1 H1 h1 s1 hc1 r1 => ⟨by rw [← r1.length]; exact h1.1, fun p hp => ?_⟩
  exact k _ _ _ _ _ (h1.2 p) s1 (hc1.new hp (c := .lst rs) ⟨vs, rfl, r1⟩) rfl
theorem w_dnK (h : ∀ p, Φ (.pt p) (L ++ [(p, .dic [])])) : WE K tDNewK ρ L Φ := fun _ B _ H _ _ hc k p hp =>
  k _ _ _ _ _ (h p) (Le.refl B) (hc.new hp (c := .dic []) ⟨[], rfl, .nil⟩) rfl
theorem w_dnT (h : ∀ p, Φ (.pt p) (L ++ [(p, .dit [])])) : WE K tDNewT ρ L Φ := fun _ B _ H _ _ hc k p hp =>
  k _ _ _ _ _ (h p) (Le.refl B) (hc.new hp (c := .dit []) ⟨[], rfl, .nil⟩) rfl
end
end Sx
namespace Sx
open PySem PySem.Spec PyProof.Rows L2
section
variable {K : PySem.W.Frag} {ρ : List Sl} {L : Chs} {Φ : Pd} {te ta tb tc : TE} {t u : TS} {D : En2} {r : R2} {tt tt2 : TT} {aa : TA}
/-! ### tests -/
theorem wt_test {Φ : Bool → Chs → Prop} (h : WE K te ρ L fun r L1 => ∃ b, r = .dt (.bl b) ∧ Φ b L1) : WT K (tTest te) ρ L Φ := by
  intro Fr B σ H Q he hc k
  refine h Fr B σ H _ he hc fun x L1 v B1 H1 h1 s1 hc1 r1 => ?_
  obtain ⟨b, e, q⟩ := h1
  subst e
  cases r1
  exact ⟨b, rfl, k b L1 B1 H1 q s1 hc1⟩
theorem wt_B {Φ : Bool → Chs → Prop} (h : WE K te ρ L fun r L1 => ∃ b, r = .dt (.bl b) ∧ Φ b L1) : WT K (tB te) ρ L Φ := wt_test h
theorem wt_and {Φ : Bool → Chs → Prop} (h : WT K tt ρ L fun b L1 => if b = true then WT K tt2 ρ L1 Φ else Φ false L1) : WT K (tAnd tt tt2) ρ L Φ := by
  intro Fr B σ H Q he hc k
  refine h Fr B σ H _ he hc fun b L1 B1 H1 h1 s1 hc1 => ?_
  cases b with
  | true => exact h1 Fr B1 σ H1 Q (he.mono s1) hc1 fun b L' B' H' a c d => k b L' B' H' a (s1.trans c) d
  | false => exact k false L1 B1 H1 h1 s1 hc1
theorem wt_or {Φ : Bool → Chs → Prop} (h : WT K tt ρ L fun b L1 => if b = true then Φ true L1 else WT K tt2 ρ L1 Φ) : WT K (tOr tt tt2) ρ L Φ := by
  intro Fr B σ H Q he hc k
  refine h Fr B σ H _ he hc fun b L1 B1 H1 h1 s1 hc1 => ?_
  cases b with
  | false => exact h1 Fr B1 σ H1 Q (he.mono s1) hc1 fun b L' B' H' a c d => k b L' B' H' a (s1.trans c) d
  | true => exact k true L1 B1 H1 h1 s1 hc1
theorem wt_not {Φ : Bool → Chs → Prop} (h : WT K tt ρ L fun b L1 => Φ (!b) L1) : WT K (tNot tt) ρ L Φ := fun Fr B σ H Q he hc k =>
  h Fr B σ H _ he hc fun b L1 B1 H1 h1 s1 hc1 => k (!b) L1 B1 H1 h1 s1 hc1
theorem wt_yes {Φ : Bool → Chs → Prop} (q : Φ true L) : WT K tYes ρ L Φ := fun _ B _ H _ _ hc k => k true L B H q (Le.refl B) hc
/-! the same as values -/
theorem w_and (h : WE K ta ρ L fun r L1 => ∃ b, r = .dt (.bl b) ∧ if b = true then WE K tb ρ L1 Φ else Φ (.dt (.bl false)) L1) : WE K (tAndV ta tb) ρ L Φ := by
  intro Fr B σ H Q he hc k
  refine h Fr B σ H _ he hc fun x L1 v B1 H1 h1 s1 hc1 r1 => ?_
  obtain ⟨b, e, q⟩ := h1
  subst e
  cases r1
  refine ⟨b, rfl, ?_⟩
  cases b with
  | true => exact q Fr B1 σ H1 Q (he.mono s1) hc1 fun r L' v B' H' a c d e => k r L' v B' H' a (s1.trans c) d e
  | false => exact k _ L1 _ B1 H1 q s1 hc1 (.bl false)
theorem w_or (h : WE K ta ρ L fun r L1 => ∃ b, r = .dt (.bl b) ∧ if b = true then Φ (.dt (.bl true)) L1 else WE K tb ρ L1 Φ) : WE K (tOrV ta tb) ρ L Φ := by
  intro Fr B σ H Q he hc k
  refine h Fr B σ H _ he hc fun x L1 v B1 H1 h1 s1 hc1 r1 => ?_
  obtain ⟨b, e, q⟩ := h1
  subst e
  cases r1
  refine ⟨b, rfl, ?_⟩
  cases b with
  | false => exact q Fr B1 σ H1 Q (he.mono s1) hc1 fun r L' v B' H' a c d e => k r L' v B' H' a (s1.trans c) d e
  | true => exact k _ L1 _ B1 H1 q s1 hc1 (.bl true)
theorem w_not (h : WE K ta ρ L fun r L1 => ∃ b, r = .dt (.bl b) ∧ Φ (.dt (.bl (!b))) L1) : WE K (tNotV ta) ρ L Φ := by
  intro Fr B σ H Q he hc k
  refine h Fr B σ H _ he hc fun x L1 v B1 H1 h1 s1 hc1 r1 => ?_
  obtain ⟨b, e, q⟩ := h1
  subst e
  cases r1
  exact ⟨b, rfl, k _ L1 _ B1 H1 q s1 hc1 (.bl _)⟩
theorem w_if (h : WT K tt ρ L fun b L1 => if b = true then WE K ta ρ L1 Φ else WE K tb ρ L1 Φ) : WE K (tIf tt ta tb) ρ L Φ := by
  intro Fr B σ H Q he hc k
  refine h Fr B σ H _ he hc fun b L1 B1 H1 h1 s1 hc1 => ?_
  cases b with
  | true => exact h1 Fr B1 σ H1 Q (he.mono s1) hc1 fun r L' v B' H' a c d e => k r L' v B' H' a (s1.trans c) d e
  | false => exact h1 Fr B1 σ H1 Q (he.mono s1) hc1 fun r L' v B' H' a c d e => k r L' v B' H' a (s1.trans c) d e
/-- a < b < c -/
theorem w_chain {r2 : R2} (h : WE K ta ρ L fun x L1 => WE K tb ρ L1 fun y L2 => WR K r x y L2 fun z L3 => ∃ b, z = .dt (.bl b) ∧ if b = true then WE K tc ρ L3 (fun w L4 => WR K r2 y w L4 Φ) else Φ (.dt (.bl false)) L3) : WE K (tChain r r2 ta tb tc) ρ L Φ := by
  intro Fr B σ H Q he hc k
  refine h Fr B σ H _ he hc fun x L1 v B1 H1 h1 s1 hc1 r1 => ?_
  refine h1 Fr B1 σ H1 _ (he.mono s1) hc1 fun y L2 u B2 H2 h2 s2 hc2 q2 => ?_
  refine h2 Fr B2 H2 _ v u hc2 (r1.mono s2) q2 fun z L3 zv B3 H3 h3 s3 hc3 q3 => ?_
  obtain ⟨b, e, q⟩ := h3
  subst e
  cases q3
  refine ⟨b, rfl, ?_⟩
  cases b with
  | true =>
    refine q Fr B3 σ H3 _ ((he.mono s1).mono (s2.trans s3)) hc3 fun w L4 wv B4 H4 h4 s4 hc4 q4 => ?_
    exact h4 Fr B4 H4 Q u wv hc4 (q2.mono (s3.trans s4)) q4 fun r L' v B' H' a c d e => k r L' v B' H' a ((((s1.trans s2).trans s3).trans s4).trans c) d e
  | false => exact k _ L3 _ B3 H3 q ((s1.trans s2).trans s3) hc3 (.bl false)
/-! ### statements -/
theorem s_seq (h : WS K t { D with nx := fun ρ' L' => WS K u D ρ' L' } ρ L) : WS K (tSeq t u) D ρ L := by
  intro Fr B σ H D' he hc ok
  refine h Fr B σ H _ he hc ⟨fun ρ' L' σ' B' H' a s e c => a Fr B' σ' H' D' e c (ok.mono s), ok.rt, ok.bk, ok.ct⟩
theorem s_next (q : D.nx ρ L) : WS K tNext D ρ L := fun Fr B σ H D' he hc ok => ok.nx ρ L σ B H q (Le.refl B) he hc
theorem s_break (q : D.bk ρ L) : WS K tBreak D ρ L := fun Fr B σ H D' he hc ok => ok.bk ρ L σ B H q (Le.refl B) he hc
theorem s_cont (q : D.ct ρ L) : WS K tCont D ρ L := fun Fr B σ H D' he hc ok => ok.ct ρ L σ B H q (Le.refl B) he hc
theorem s_drop (h : WE K te ρ L fun _ L1 => D.nx ρ L1) : WS K (tDrop te) D ρ L := by
  intro Fr B σ H D' he hc ok
  exact h Fr B σ H _ he hc fun x L1 v B1 H1 h1 s1 hc1 r1 => ok.nx ρ L1 σ B1 H1 h1 s1 (he.mono s1) hc1
theorem s_ret (h : WE K te ρ L D.rt) : WS K (tRet te) D ρ L := by
  intro Fr B σ H D' he hc ok
  exact h Fr B σ H _ he hc fun x L1 v B1 H1 h1 s1 hc1 r1 => ok.rt x L1 v B1 H1 h1 s1 hc1 r1
theorem s_retN (h : D.rt (.dt .non) L) : WS K tRetN D ρ L := fun Fr B σ H D' he hc ok => ok.rt _ L _ B H h (Le.refl B) hc .non
theorem s_if (h : WT K tt ρ L fun b L1 => if b = true then WS K t D ρ L1 else WS K u D ρ L1) : WS K (tIfS tt t u) D ρ L := by
  intro Fr B σ H D' he hc ok
  refine h Fr B σ H _ he hc fun b L1 B1 H1 h1 s1 hc1 => ?_
  cases b with
  | true => exact h1 Fr B1 σ H1 D' (he.mono s1) hc1 (ok.mono s1)
  | false => exact h1 Fr B1 σ H1 D' (he.mono s1) hc1 (ok.mono s1)
/-- the slot i: a value -/
theorem en_set {B : Hp} {σ : L2.St} {i : Nat} {r : Sl} {v : V} (he : EnR K B ρ σ) (h : SlR K B r v) : EnR K B (ρ.set i r) (σ.set i (some v)) := pset (F := OkS K B) (Or.inr ⟨v, rfl, h⟩) i he
theorem s_asg {i : Nat} (h : WE K te ρ L fun r L1 => D.nx (ρ.set i r) L1) : WS K (tAsg te (gName i)) D ρ L := by
  intro Fr B σ H D' he hc ok
  exact h Fr B σ H _ he hc fun x L1 v B1 H1 h1 s1 hc1 r1 => ok.nx _ L1 _ B1 H1 h1 s1 (en_set (he.mono s1) r1) hc1
/-- x op= e -/
theorem s_aug {i : Nat} {f : Int → Int → Int} {a : Int} (hx : ρ[i]? = some (.dt (.int a))) (h : WE K te ρ L fun r L1 => ∃ b, r = .dt (.int b) ∧ D.nx (ρ.set i (.dt (.int (f a b)))) L1) : WS K (tAug i te (ipI f)) D ρ L := by
  intro Fr B σ H D' he hc ok
  obtain ⟨o, e, g⟩ := pget he hx
  rcases g with g | ⟨v, g1, g2⟩
  · cases g
  · subst g1
    cases g2
    refine ⟨_, e, ?_⟩
    refine h Fr B σ H _ he hc fun x L1 v B1 H1 h1 s1 hc1 r1 => ?_
    obtain ⟨b, e2, q⟩ := h1
    subst e2
    cases r1
    exact ⟨a, b, rfl, rfl, ok.nx _ L1 _ B1 H1 q s1 (en_set (he.mono s1) (r := .dt (.int (f a b))) (.int _)) hc1⟩
/-- targets of several names -/
def WG (K : PySem.W.Frag) (g : TG) (r : Sl) (ρ : List Sl) (L : Chs) (N : List Sl → Chs → Prop) : Prop :=
  ∀ (Fr : List (Addr × HO)) (B : Hp) (σ : L2.St) (H : Hp) (v : V) (Q : L2.St → Hp → Prop), EnR K B ρ σ → Hc K B L Fr H → SlR K B r v → (∀ ρ' L' σ' B' H', N ρ' L' → Le B B' → EnR K B' ρ' σ' → Hc K B' L' Fr H' → Q σ' H') → g v σ H Q
def WGs (K : PySem.W.Frag) (g : TGs) (rs : List Sl) (ρ : List Sl) (L : Chs) (N : List Sl → Chs → Prop) : Prop :=
  ∀ (Fr : List (Addr × HO)) (B : Hp) (σ : L2.St) (H : Hp) (vs : List V) (Q : L2.St → Hp → Prop), EnR K B ρ σ → Hc K B L Fr H → Paired (SlR K B) rs vs → (∀ ρ' L' σ' B' H', N ρ' L' → Le B B' → EnR K B' ρ' σ' → Hc K B' L' Fr H' → Q σ' H') → g vs σ H Q
theorem g_name {i : Nat} {r : Sl} {N : List Sl → Chs → Prop} (q : N (ρ.set i r) L) : WG K (gName i) r ρ L N := fun Fr B σ H v Q he hc hr k => k _ L _ B H q (Le.refl B) (en_set he hr) hc
theorem gs_nil {N : List Sl → Chs → Prop} (q : N ρ L) : WGs K gNil [] ρ L N := fun Fr B σ H vs Q he hc hr k => by
  cases hr
  exact ⟨rfl, k ρ L σ B H q (Le.refl B) he hc⟩
theorem gs_cons {g : TG} {gs : TGs} {r : Sl} {rs : List Sl} {N : List Sl → Chs → Prop} (h : WG K g r ρ L fun ρ1 L1 => WGs K gs rs ρ1 L1 N) : WGs K (gCons g gs) (r :: rs) ρ L N := fun Fr B σ H vs Q he hc hr k => by
  cases hr with
  | cons h1 h2 =>
    refine ⟨_, _, rfl, ?_⟩
    refine h Fr B σ H _ _ he hc h1 fun ρ1 L1 σ1 B1 H1 a s e c => ?_
    exact a Fr B1 σ1 H1 _ Q e c (Paired.mapP h2 fun _ _ q => q.mono s) fun ρ2 L2 σ2 B2 H2 a2 s2 e2 c2 => k ρ2 L2 σ2 B2 H2 a2 (s.trans s2) e2 c2
theorem sl_dts {B : Hp} : ∀ {vs : List V} {ds : List Dt}, RpA K B vs ds → Paired (SlR K B) (ds.map Sl.dt) vs
  | _, _, .nil => .nil
  | _, _, .cons h a => .cons h (sl_dts a)
theorem dts_sl {B : Hp} : ∀ {ds : List Dt} {vs : List V}, Paired (SlR K B) (ds.map Sl.dt) vs → RpA K B vs ds
  | [], _, h => by cases h; exact .nil
  | d :: ds, _, h => by
    cases h with
    | cons h1 h2 => exact .cons h1 (dts_sl h2)
theorem g_tup {n : Nat} {gs : TGs} {ds : List Dt} {N : List Sl → Chs → Prop} (hn : ds.length = n) (h : WGs K gs (ds.map Sl.dt) ρ L N) : WG K (gTup K n gs) (.dt (.tup ds)) ρ L N := fun Fr B σ H v Q he hc hr k => by
  cases hr with
  | tup hb ha =>
    refine ⟨_, _, rfl, SqT.of (hc.seq _ _ hb), by rw [ha.len, hn], ?_⟩
    exact h Fr B σ H _ Q he hc (sl_dts ha) k
theorem s_asgG {g : TG} (h : WE K te ρ L fun r L1 => WG K g r ρ L1 D.nx) : WS K (tAsg te g) D ρ L := by
  intro Fr B σ H D' he hc ok
  refine h Fr B σ H _ he hc fun x L1 v B1 H1 h1 s1 hc1 r1 => ?_
  exact h1 Fr B1 σ H1 v _ (he.mono s1) hc1 r1 fun ρ2 L2 σ2 B2 H2 a2 s2 e2 c2 => ok.nx ρ2 L2 σ2 B2 H2 a2 (s1.trans s2) e2 c2
/-- xs[i] = v of a changing list -/
theorem s_setL (h : WE K te ρ L fun r L1 => WE K ta ρ L1 fun x L2 => WE K tb ρ L2 fun y L3 => ∃ p k ss i j, x = .pt p ∧ y = .dt (.int i) ∧ L3[k]? = some (p, .lst ss) ∧ ixN ss.length i = some j ∧ D.nx ρ (L3.set k (p, .lst (ss.set j r)))) :
    WS K (tAsg te (gSub ta tb rSetL)) D ρ L := by
  intro Fr B σ H D' he hc ok
  refine h Fr B σ H _ he hc fun r L1 v B1 H1 h1 s1 hc1 r1 => ?_
  refine h1 Fr B1 σ H1 _ (he.mono s1) hc1 fun x L2 xv B2 H2 h2 s2 hc2 r2 => ?_
  refine h2 Fr B2 σ H2 _ ((he.mono s1).mono s2) hc2 fun y L3 yv B3 H3 h3 s3 hc3 r3 => ?_
  obtain ⟨p, k, ss, i, j, e1, e2, e3, e4, q⟩ := h3
  subst e1 e2
  cases r3
  cases r2
  obtain ⟨o, g1, ⟨xs, g2, g3⟩, _⟩ := hc3.at_ e3
  subst g2
  refine ⟨p, xs, i, j, rfl, rfl, g1, by rw [← g3.length]; exact e4, ?_⟩
  exact ok.nx _ _ _ B3 _ q ((s1.trans s2).trans s3) (((he.mono s1).mono s2).mono s3) (hc3.put e3 (c' := .lst (ss.set j r)) ⟨_, rfl, pset (r1.mono (s2.trans s3)) j g3⟩)
/-! ### calls -/
/-- a promise told by data -/
def SpD (K : PySem.W.Frag) (F : List Sl → Chs → Pd → Prop) : Sp := fun vs H Q _ => ∃ B Fr ss L Φ, Paired (SlR K B) ss vs ∧ Hc K B L Fr H ∧ F ss L Φ ∧ ∀ r L' v B' H', Φ r L' → Le B B' → Hc K B' L' Fr H' → SlR K B' r v → Q v H'
theorem w_call {F : List Sl → Chs → Pd → Prop} {E : XK} (h : WA K aa ρ L fun ss L1 => F ss L1 Φ) : WE K (tCall (SpD K F) [] E aa) ρ L Φ := by
  intro Fr B σ H Q he hc k
  refine h Fr B σ H _ he hc fun ss L1 vs B1 H1 h1 s1 hc1 r1 => ?_
  rw [List.append_nil]
  exact ⟨B1, Fr, ss, L1, Φ, r1, hc1, h1, fun r L' v B' H' a b c d => k r L' v B' H' a (s1.trans b) c d⟩
/-- the callee sees the first n changing objects alone -/
theorem w_callN (n : Nat) {F : List Sl → Chs → Pd → Prop} {E : XK} (h : WA K aa ρ L fun ss L1 => F ss (L1.take n) fun r M => Φ r (M ++ L1.drop n)) : WE K (tCall (SpD K F) [] E aa) ρ L Φ := by
  intro Fr B σ H Q he hc k
  refine h Fr B σ H _ he hc fun ss L1 vs B1 H1 h1 s1 hc1 r1 => ?_
  rw [List.append_nil]
  have hc2 : Hc K B1 (L1.take n ++ L1.drop n) Fr H1 := by rw [List.take_append_drop]; exact hc1
  obtain ⟨h2, p2, hc3⟩ := hc2.aside
  refine ⟨B1, h2 ++ Fr, ss, L1.take n, _, r1, hc3, h1, fun r L' v B' H' a b c d => ?_⟩
  exact k r _ v B' H' a (s1.trans b) (Hc.again c (chs_mono b p2)) d
theorem w_callK {F : List Sl → Chs → Pd → Prop} {E : XK} {kk : TA} {gV : List V → List V → List V} {gS : List Sl → List Sl → List Sl} (n : Nat)
    (hg : ∀ (B : Hp) (xs ys : List Sl) (vs us : List V), Paired (SlR K B) xs vs → Paired (SlR K B) ys us → Paired (SlR K B) (gS xs ys) (gV vs us))
    (h : WA K aa ρ L fun xs L1 => WA K kk ρ L1 fun ys L2 => F (gS xs ys) (L2.take n) fun r M => Φ r (M ++ L2.drop n)) : WE K (tCallK (SpD K F) gV E aa kk) ρ L Φ := by
  intro Fr B σ H Q he hc k
  refine h Fr B σ H _ he hc fun xs L1 vs B1 H1 h1 s1 hc1 r1 => ?_
  refine h1 Fr B1 σ H1 _ (he.mono s1) hc1 fun ys L2 us B2 H2 h2 s2 hc2 r2 => ?_
  have hc3 : Hc K B2 (L2.take n ++ L2.drop n) Fr H2 := by rw [List.take_append_drop]; exact hc2
  obtain ⟨h3, p3, hc4⟩ := hc3.aside
  refine ⟨B2, h3 ++ Fr, gS xs ys, L2.take n, _, hg B2 xs ys vs us (Paired.mapP r1 fun _ _ q => q.mono s2) r2, hc4, h2, fun r L' v B' H' a b c d => ?_⟩
  exact k r _ v B' H' a ((s1.trans s2).trans b) (Hc.again c (chs_mono b p3)) d
/-- a built-in called by values -/
theorem w_cb {f : List V → Hp → VK → Prop} (h : WA K aa ρ L fun xs L1 => WC K f xs L1 Φ) : WE K (tCB f aa) ρ L Φ := by
  intro Fr B σ H Q he hc k
  refine h Fr B σ H _ he hc fun ss L1 vs B1 H1 h1 s1 hc1 r1 => ?_
  exact h1 Fr B1 H1 Q vs hc1 r1 fun r L' v B' H' a b c d => k r L' v B' H' a (s1.trans b) c d
/-! ### the body of a def -/
def st2 (N : List Str) (ss : List Sl) : List Sl := ss ++ List.replicate (N.length - ss.length) .no
theorem en_no {B : Hp} : ∀ n : Nat, EnR K B (List.replicate n .no) (List.replicate n none)
  | 0 => .nil
  | n + 1 => .cons (.inl rfl) (en_no n)
theorem en_start {B : Hp} {ss : List Sl} {vs : List V} (N : List Str) (h : Paired (SlR K B) ss vs) : EnR K B (st2 N ss) (L2.start N vs) := by
  unfold st2 L2.start
  rw [h.length]
  refine papp ?_ (en_no _)
  have : ∀ {ss : List Sl} {vs : List V}, Paired (SlR K B) ss vs → EnR K B ss (vs.map some) := fun {ss vs} h => by
    induction h with
    | nil => exact .nil
    | cons a _ ih => exact .cons (.inr ⟨_, rfl, a⟩) ih
  exact this h
theorem sp_body {F : List Sl → Chs → Pd → Prop} {N : List Str} {vs : List V} {H : Hp} {Q : VK} {E : XK} (h : SpD K F vs H Q E) (b : ∀ ss L Φ, F ss L Φ → WS K t { nx := fun _ L' => Φ (.dt .non) L', rt := Φ } (st2 N ss) L) :
    t { nx := fun _ H' => Q .non H', rt := Q } (L2.start N vs) H := by
  obtain ⟨B, Fr, ss, L, Φ, r, hc, hF, k⟩ := h
  refine b ss L Φ hF Fr B _ H _ (en_start N r) hc ⟨fun ρ' L' σ' B' H' a s e c => k _ L' _ B' H' a s c .non, fun r L' v B' H' a s c e => k r L' v B' H' a s c e, fun _ _ _ _ _ a => a.elim, fun _ _ _ _ _ a => a.elim⟩
theorem sp_len {F : List Sl → Chs → Pd → Prop} {n : Nat} (h : ∀ ss L Φ, F ss L Φ → ss.length = n) : ∀ vs H Q E, SpD K F vs H Q E → vs.length = n := fun vs H Q E ⟨B, Fr, ss, L, Φ, r, _, hF, _⟩ => by
  rw [← r.length]
  exact h ss L Φ hF
/-! ### forgetting -/
def Wk : List Sl → List Sl → Prop
  | [], [] => True
  | a :: as, b :: bs => (b = .no ∨ a = b) ∧ Wk as bs
  | _, _ => False
theorem wk_refl : ∀ ρ : List Sl, Wk ρ ρ
  | [] => trivial
  | _ :: r => ⟨.inr rfl, wk_refl r⟩
theorem Wk.en {B : Hp} : ∀ {ρ ρ' : List Sl} {σ : L2.St}, Wk ρ ρ' → EnR K B ρ σ → EnR K B ρ' σ
  | [], [], _, _, h => h
  | a :: as, b :: bs, _, ⟨h1, h2⟩, .cons g r => by
    refine .cons ?_ (Wk.en h2 r)
    rcases h1 with h1 | h1
    · exact .inl h1
    · subst h1; exact g
  | [], _ :: _, _, h, _ => h.elim
  | _ :: _, [], _, h, _ => h.elim
theorem s_wk {ρ' : List Sl} (w : Wk ρ ρ') (h : WS K t D ρ' L) : WS K t D ρ L := fun Fr B σ H D' he hc ok => h Fr B σ H D' (w.en he) hc ok
end
end Sx
namespace Sx
open PySem PySem.Spec PyProof.Rows L2
section
variable {K : PySem.W.Frag} {ρ : List Sl} {L : Chs} {Φ : Pd} {te ta tb tc tl : TE} {t u : TS} {D : En2} {r : R2} {tt tt2 : TT} {aa : TA} {g : TG} {wi : TI}
/-! ### what is walked, told by data -/
def ItD (K : PySem.W.Frag) (J : It) (B0 : Hp) (ds : List Dt) : Prop :=
  ∀ (B H : Hp) (L : Chs) (Fr : List (Addr × HO)) (i : Nat), Le B0 B → Hc K B L Fr H →
    (∀ d, ds[i]? = some d → J.go i H ∧ ∀ x H', J.yld i H x H' → ∃ B', Le B B' ∧ Hc K B' L Fr H' ∧ Rp K B' x d) ∧ (ds.length ≤ i → J.stop i H)
def WI (K : PySem.W.Frag) (wi : TI) (ρ : List Sl) (L : Chs) (Ψ : List Dt → Chs → Prop) : Prop :=
  ∀ (Fr : List (Addr × HO)) (B : Hp) (σ : L2.St) (H : Hp) (R : It → Hp → Prop), EnR K B ρ σ → Hc K B L Fr H →
    (∀ ds L' J B' H', Ψ ds L' → Le B B' → Hc K B' L' Fr H' → ItD K J B' ds → R J H') → wi σ H R
theorem itd_list {B0 : Hp} {a : Addr} {xs : List V} {ds : List Dt} (h : B0 a = some (.lst xs)) (ha : RpA K B0 xs ds) : ItD K (Itl K a) B0 ds := fun B H L Fr i s hc => by
  have hq : SqL K H a xs := SqL.of (hc.seq _ _ (s.lst h))
  refine ⟨fun d hd => ?_, fun hl => ⟨xs, hq, by rw [ha.len]; exact hl⟩⟩
  obtain ⟨v, e, rv⟩ := pget' ha.paired hd
  refine ⟨⟨xs, v, hq, e⟩, fun x H' y => ?_⟩
  obtain ⟨e1, e2⟩ := y
  subst e1
  have e3 := e2 xs hq
  rw [e] at e3
  cases e3
  exact ⟨B, Le.refl B, hc, rv.mono s⟩
theorem itd_tup {B0 : Hp} {a : Addr} {xs : List V} {ds : List Dt} (h : B0 a = some (.tup xs)) (ha : RpA K B0 xs ds) : ItD K (Itt K a) B0 ds := fun B H L Fr i s hc => by
  have hq : SqT K H a xs := SqT.of (hc.seq _ _ (s.tup h))
  refine ⟨fun d hd => ?_, fun hl => ⟨xs, hq, by rw [ha.len]; exact hl⟩⟩
  obtain ⟨v, e, rv⟩ := pget' ha.paired hd
  refine ⟨⟨xs, v, hq, e⟩, fun x H' y => ?_⟩
  obtain ⟨e1, e2⟩ := y
  subst e1
  have e3 := e2 xs hq
  rw [e] at e3
  cases e3
  exact ⟨B, Le.refl B, hc, rv.mono s⟩
theorem itd_scr {B0 : Hp} {a : Addr} {ns : List Int} (h : SqL K B0 a (ns.map V.int)) : ItD K (Itl K a) B0 (ns.map Dt.int) := fun B H L Fr i s hc => by
  have hq : SqL K H a (ns.map V.int) := hc.seq.seq (s.sql h)
  refine ⟨fun d hd => ?_, fun hl => ⟨_, hq, by rw [List.length_map] at hl ⊢; exact hl⟩⟩
  rw [List.getElem?_map] at hd
  cases q : ns[i]? with
  | none => rw [q] at hd; cases hd
  | some n =>
    rw [q] at hd
    cases hd
    have e : (ns.map V.int)[i]? = some (V.int n) := by rw [List.getElem?_map, q]; rfl
    refine ⟨⟨_, _, hq, e⟩, fun x H' y => ?_⟩
    obtain ⟨e1, e2⟩ := y
    subst e1
    have e3 := e2 _ hq
    rw [e] at e3
    cases e3
    exact ⟨B, Le.refl B, hc, .int n⟩
def rngD (lo : Int) (n : Nat) : List Dt := (List.range n).map fun k : Nat => Dt.int (lo + (k : Int))
theorem rngD_len (lo : Int) (n : Nat) : (rngD lo n).length = n := by unfold rngD; rw [List.length_map, List.length_range]
theorem rngD_at {lo : Int} {n i : Nat} {d : Dt} (h : (rngD lo n)[i]? = some d) : i < n ∧ d = .int (lo + (i : Int)) := by
  have hl := (List.getElem?_eq_some_iff.mp h).1
  rw [rngD_len] at hl
  unfold rngD at h
  rw [List.getElem?_map, List.getElem?_range hl] at h
  cases h
  exact ⟨hl, rfl⟩
theorem itd_rng {B0 : Hp} {lo : Int} {n : Nat} : ItD K (Itr lo n) B0 (rngD lo n) := fun B H L Fr i s hc => by
  refine ⟨fun d hd => ?_, fun hl => by rw [rngD_len] at hl; exact hl⟩
  obtain ⟨h1, h2⟩ := rngD_at hd
  subst h2
  refine ⟨h1, fun x H' y => ?_⟩
  obtain ⟨e1, e2⟩ := y
  subst e1 e2
  exact ⟨B, Le.refl B, hc, .int _⟩
theorem wi_list {Ψ : List Dt → Chs → Prop} (h : WE K tl ρ L fun r L1 => ∃ ds, r = .dt (.lst ds) ∧ Ψ ds L1) : WI K (iList K tl) ρ L Ψ := by
  intro Fr B σ H R he hc k
  refine h Fr B σ H _ he hc fun x L1 v B1 H1 h1 s1 hc1 r1 => ?_
  obtain ⟨ds, e, q⟩ := h1
  subst e
  cases r1 with
  | lst hb ha => exact ⟨_, rfl, ⟨_, SqL.of (hc1.seq _ _ hb)⟩, k ds L1 _ B1 H1 q s1 hc1 (itd_list hb ha)⟩
theorem wi_scr {Ψ : List Dt → Chs → Prop} (h : WE K tl ρ L fun r L1 => ∃ ns, r = .dt (.scr ns) ∧ Ψ (ns.map Dt.int) L1) : WI K (iList K tl) ρ L Ψ := by
  intro Fr B σ H R he hc k
  refine h Fr B σ H _ he hc fun x L1 v B1 H1 h1 s1 hc1 r1 => ?_
  obtain ⟨ds, e, q⟩ := h1
  subst e
  cases r1 with
  | scr hb => exact ⟨_, rfl, ⟨_, hc1.seq.seq hb⟩, k _ L1 _ B1 H1 q s1 hc1 (itd_scr hb)⟩
theorem wi_tup {Ψ : List Dt → Chs → Prop} (h : WE K tl ρ L fun r L1 => ∃ ds, r = .dt (.tup ds) ∧ Ψ ds L1) : WI K (iTup K tl) ρ L Ψ := by
  intro Fr B σ H R he hc k
  refine h Fr B σ H _ he hc fun x L1 v B1 H1 h1 s1 hc1 r1 => ?_
  obtain ⟨ds, e, q⟩ := h1
  subst e
  cases r1 with
  | tup hb ha => exact ⟨_, rfl, ⟨_, SqT.of (hc1.seq _ _ hb)⟩, k ds L1 _ B1 H1 q s1 hc1 (itd_tup hb ha)⟩
theorem wi_rng1 {Ψ : List Dt → Chs → Prop} (h : WA K aa ρ L fun rs L1 => ∃ n : Int, rs = [.dt (.int n)] ∧ n < 2 ^ 62 ∧ -(2 ^ 62) ≤ n ∧ Ψ (rngD 0 n.toNat) L1) : WI K (iRng1 aa) ρ L Ψ := by
  intro Fr B σ H R he hc k
  refine h Fr B σ H _ he hc fun x L1 vs B1 H1 h1 s1 hc1 r1 => ?_
  obtain ⟨n, e, b1, b2, q⟩ := h1
  subst e
  cases r1 with
  | cons a b =>
    cases b
    cases a
    exact ⟨n, rfl, b2, b1, k _ L1 _ B1 H1 q s1 hc1 itd_rng⟩
theorem wi_rng2 {Ψ : List Dt → Chs → Prop} (h : WA K aa ρ L fun rs L1 => ∃ m n : Int, rs = [.dt (.int m), .dt (.int n)] ∧ (-(2 ^ 62) ≤ m ∧ m < 2 ^ 62 ∧ -(2 ^ 62) ≤ n ∧ n < 2 ^ 62) ∧ Ψ (rngD m (n - m).toNat) L1) : WI K (iRng2 aa) ρ L Ψ := by
  intro Fr B σ H R he hc k
  refine h Fr B σ H _ he hc fun x L1 vs B1 H1 h1 s1 hc1 r1 => ?_
  obtain ⟨m, n, e, b1, q⟩ := h1
  subst e
  cases r1 with
  | cons a b =>
    cases a
    cases b with
    | cons a b =>
      cases a
      cases b
      exact ⟨m, n, rfl, b1, k _ L1 _ B1 H1 q s1 hc1 itd_rng⟩
/-- a text, sign by sign -/
def sgn (c : Nat) : Str := ⟨#[c]⟩
theorem itd_str {B0 : Hp} {z : Str} : ItD K (Its z) B0 (z.cps.toList.map fun c => .str (sgn c)) := fun B H L Fr i s hc => by
  refine ⟨fun d hd => ?_, fun hl => by rw [List.length_map, Array.length_toList] at hl; exact hl⟩
  rw [List.getElem?_map] at hd
  cases q : z.cps.toList[i]? with
  | none => rw [q] at hd; cases hd
  | some c =>
    rw [q] at hd
    cases hd
    have hi := (List.getElem?_eq_some_iff.mp q).1
    rw [Array.length_toList] at hi
    refine ⟨hi, fun x H' y => ?_⟩
    obtain ⟨e1, c', e2, e3⟩ := y
    subst e1 e3
    have e4 : c' = c := by
      rw [Array.getElem?_toList] at q
      rw [q] at e2
      exact (Option.some.inj e2).symm
    subst e4
    exact ⟨B, Le.refl B, hc, .str _⟩
theorem wi_str {Ψ : List Dt → Chs → Prop} (h : WE K tl ρ L fun r L1 => ∃ z, r = .dt (.str z) ∧ Ψ (z.cps.toList.map fun c => .str (sgn c)) L1) : WI K (iStr tl) ρ L Ψ := by
  intro Fr B σ H R he hc k
  refine h Fr B σ H _ he hc fun x L1 v B1 H1 h1 s1 hc1 r1 => ?_
  obtain ⟨z, e, q⟩ := h1
  subst e
  cases r1
  exact ⟨_, rfl, k _ L1 _ B1 H1 q s1 hc1 itd_str⟩
def enumD (ds : List Dt) : List Dt := ds.zipIdx.map fun p => .tup [.int (p.2 : Int), p.1]
theorem enumD_len (ds : List Dt) : (enumD ds).length = ds.length := by unfold enumD; simp
theorem enumD_at {ds : List Dt} {i : Nat} {d : Dt} (h : (enumD ds)[i]? = some d) : ∃ e, ds[i]? = some e ∧ d = .tup [.int (i : Int), e] := by
  unfold enumD at h
  rw [List.getElem?_map, List.getElem?_zipIdx] at h
  cases q : ds[i]? with
  | none => rw [q] at h; cases h
  | some e =>
    rw [q] at h
    have h : some (Dt.tup [.int ((0 + i : Nat) : Int), e]) = some d := h
    rw [Nat.zero_add] at h
    exact ⟨e, rfl, (Option.some.inj h).symm⟩
theorem itd_enum {B0 : Hp} {a : Addr} {xs : List V} {ds : List Dt} (h : B0 a = some (.lst xs)) (ha : RpA K B0 xs ds) : ItD K (Ite K a) B0 (enumD ds) := fun B H L Fr i s hc => by
  have hq : SqL K H a xs := SqL.of (hc.seq _ _ (s.lst h))
  refine ⟨fun d hd => ?_, fun hl => ⟨xs, hq, by rw [ha.len]; rw [enumD_len] at hl; exact hl⟩⟩
  obtain ⟨e0, h0, e⟩ := enumD_at hd
  subst e
  obtain ⟨v, e, rv⟩ := pget' ha.paired h0
  refine ⟨⟨xs, v, hq, e⟩, fun x H' y => ?_⟩
  obtain ⟨T, x', rfl, hT, rfl, e2⟩ := y
  have e3 := e2 xs hq
  rw [e] at e3
  cases e3
  obtain ⟨s2, hc2⟩ := hc.fix hT (.tup [.int (i : Nat), v])
  exact ⟨_, s2, hc2, .tup upd_same (.cons (.int _) (.cons (rv.mono (s.trans s2)) .nil))⟩
theorem wi_enum {Ψ : List Dt → Chs → Prop} (h : WD K aa ρ L fun es L1 => ∃ ds, es = [.lst ds] ∧ Ψ (enumD ds) L1) : WI K (iEnum K aa) ρ L Ψ := by
  intro Fr B σ H R he hc k
  refine h Fr B σ H _ he hc fun x L1 vs B1 H1 h1 s1 hc1 r1 => ?_
  obtain ⟨ds, e, q⟩ := h1
  subst e
  cases r1 with
  | cons a b =>
    cases b
    cases a with
    | lst hb ha => exact ⟨_, _, rfl, SqL.of (hc1.seq _ _ hb), k _ L1 _ B1 H1 q s1 hc1 (itd_enum hb ha)⟩
def zipD (ds es : List Dt) : List Dt := (ds.zip es).map fun p => .tup [p.1, p.2]
theorem zipD_at {ds es : List Dt} {i : Nat} {d : Dt} (h : (zipD ds es)[i]? = some d) : ∃ a b, ds[i]? = some a ∧ es[i]? = some b ∧ d = .tup [a, b] := by
  unfold zipD at h
  rw [List.getElem?_map] at h
  cases q : (ds.zip es)[i]? with
  | none => rw [q] at h; cases h
  | some p =>
    rw [q] at h
    obtain ⟨h1, h2⟩ := List.getElem?_zip_eq_some.mp q
    exact ⟨p.1, p.2, h1, h2, (Option.some.inj h).symm⟩
theorem itd_zip {B0 : Hp} {a b : Addr} {xs ys : List V} {ds es : List Dt} (h : B0 a = some (.lst xs)) (ha : RpA K B0 xs ds) (h2 : B0 b = some (.lst ys)) (hb : RpA K B0 ys es) : ItD K (Itz K a b) B0 (zipD ds es) := fun B H L Fr i s hc => by
  have hq : SqL K H a xs := SqL.of (hc.seq _ _ (s.lst h))
  have hq2 : SqL K H b ys := SqL.of (hc.seq _ _ (s.lst h2))
  refine ⟨fun d hd => ?_, fun hl => ⟨xs, ys, hq, hq2, ?_⟩⟩
  · obtain ⟨e1, e2, f1, f2, e⟩ := zipD_at hd
    subst e
    obtain ⟨v, g1, rv⟩ := pget' ha.paired f1
    obtain ⟨w, g2, rw'⟩ := pget' hb.paired f2
    refine ⟨⟨xs, ys, v, w, hq, hq2, g1, g2⟩, fun x H' y => ?_⟩
    obtain ⟨T, x', y', rfl, hT, rfl, k1, k2⟩ := y
    have e3 := k1 xs hq
    rw [g1] at e3
    cases e3
    have e4 := k2 ys hq2
    rw [g2] at e4
    cases e4
    obtain ⟨s2, hc2⟩ := hc.fix hT (.tup [v, w])
    exact ⟨_, s2, hc2, .tup upd_same (.cons (rv.mono (s.trans s2)) (.cons (rw'.mono (s.trans s2)) .nil))⟩
  · have e : (zipD ds es).length = min ds.length es.length := by unfold zipD; simp
    rw [e] at hl
    rw [ha.len, hb.len]
    omega
theorem wi_zip {Ψ : List Dt → Chs → Prop} (h : WD K aa ρ L fun zs L1 => ∃ ds es, zs = [.lst ds, .lst es] ∧ Ψ (zipD ds es) L1) : WI K (iZip K aa) ρ L Ψ := by
  intro Fr B σ H R he hc k
  refine h Fr B σ H _ he hc fun x L1 vs B1 H1 h1 s1 hc1 r1 => ?_
  obtain ⟨ds, es, e, q⟩ := h1
  subst e
  cases r1 with
  | cons a b =>
    cases a with
    | lst hb ha =>
      cases b with
      | cons a b =>
        cases b
        cases a with
        | lst hb2 ha2 => exact ⟨_, _, _, _, rfl, SqL.of (hc1.seq _ _ hb), SqL.of (hc1.seq _ _ hb2), k _ L1 _ B1 H1 q s1 hc1 (itd_zip hb ha hb2 ha2)⟩
/-! ### for -/
def Nxt (Inv : Nat → List Sl → Chs → Prop) (i : Nat) (ρ : List Sl) (L : Chs) : Prop := ∃ ρ2, Wk ρ ρ2 ∧ Inv i ρ2 L
theorem s_for (h : WI K wi ρ L fun ds L1 => ∃ Inv : Nat → List Sl → Chs → Prop, Nxt Inv 0 ρ L1 ∧
    (∀ i d ρ' L', ds[i]? = some d → Inv i ρ' L' → WG K g (.dt d) ρ' L' fun ρ2 L2 => WS K t { nx := Nxt Inv (i + 1), ct := Nxt Inv (i + 1), bk := D.nx, rt := D.rt } ρ2 L2) ∧ (∀ ρ' L', Inv ds.length ρ' L' → D.nx ρ' L')) :
    WS K (tFor wi g t) D ρ L := by
  intro Fr B σ H D' he hc ok
  refine h Fr B σ H _ he hc fun ds L1 J B1 H1 h1 s1 hc1 hit => ?_
  obtain ⟨Inv, h0, hs, hd⟩ := h1
  let Pv : Nat → L2.St → Hp → Prop := fun i σ' H' => ∃ ρ' L' B', Inv i ρ' L' ∧ Le B1 B' ∧ EnR K B' ρ' σ' ∧ Hc K B' L' Fr H'
  have nxt : ∀ {i : Nat} {ρ' : List Sl} {L' : Chs} {B' : Hp} {σ' : L2.St} {H' : Hp}, Nxt Inv i ρ' L' → Le B1 B' → EnR K B' ρ' σ' → Hc K B' L' Fr H' → Pv i σ' H' := fun ⟨ρ2, w, q⟩ s e c => ⟨ρ2, _, _, q, s, w.en e, c⟩
  refine ⟨fun i m σ' H' => m = ds.length - i ∧ i ≤ ds.length ∧ Pv i σ' H', ⟨ds.length, by simp, Nat.zero_le _, nxt h0 (Le.refl B1) (he.mono s1) hc1⟩, ?_⟩
  rintro i m σ' H' ⟨rfl, hi, ρ', L', B', q, s, e, c⟩
  obtain ⟨hgo, hstop⟩ := hit B' H' L' Fr i s c
  by_cases hlt : i < ds.length
  · have hdi : ds[i]? = some ds[i] := List.getElem?_eq_getElem hlt
    obtain ⟨g1, g2⟩ := hgo _ hdi
    refine .inr ⟨g1, Pv (i + 1), fun σ2 H2 p => ⟨ds.length - (i + 1), by omega, rfl, hlt, p⟩, fun x H2 y => ?_⟩
    obtain ⟨B2, s2, c2, r2⟩ := g2 x H2 y
    refine hs i _ ρ' L' hdi q Fr B2 σ' H2 x _ (e.mono s2) c2 r2 fun ρ3 L3 σ3 B3 H3 a3 s3 e3 c3 => ?_
    have s13 := (s.trans s2).trans s3
    refine a3 Fr B3 σ3 H3 _ e3 c3 ⟨fun ρ4 L4 σ4 B4 H4 a4 s4 e4 c4 => nxt a4 (s13.trans s4) e4 c4, fun r L' v B' H' a b c d => ok.rt r L' v B' H' a ((s1.trans s13).trans b) c d,
      fun ρ4 L4 σ4 B4 H4 a4 s4 e4 c4 => ok.nx ρ4 L4 σ4 B4 H4 a4 ((s1.trans s13).trans s4) e4 c4, fun ρ4 L4 σ4 B4 H4 a4 s4 e4 c4 => nxt a4 (s13.trans s4) e4 c4⟩
  · have ei : i = ds.length := by omega
    subst ei
    exact .inl ⟨hstop (Nat.le_refl _), ok.nx ρ' L' σ' B' H' (hd ρ' L' q) (s1.trans s) e c⟩
/-! ### while -/
theorem s_while (Inv : List Sl → Chs → Prop) (μ : List Sl → Chs → Nat) (h0 : ∃ ρ2, Wk ρ ρ2 ∧ Inv ρ2 L)
    (hs : ∀ ρ' L', Inv ρ' L' → WT K tt ρ' L' fun b L1 => if b = true then WS K t { nx := fun ρ2 L2 => ∃ ρ3, Wk ρ2 ρ3 ∧ Inv ρ3 L2 ∧ μ ρ3 L2 < μ ρ' L', ct := fun ρ2 L2 => ∃ ρ3, Wk ρ2 ρ3 ∧ Inv ρ3 L2 ∧ μ ρ3 L2 < μ ρ' L', bk := D.nx, rt := D.rt } ρ' L1 else D.nx ρ' L1) :
    WS K (tWhile tt t) D ρ L := by
  intro Fr B σ H D' he hc ok
  obtain ⟨ρ0, w0, i0⟩ := h0
  let Pv : Nat → L2.St → Hp → Prop := fun m σ' H' => ∃ ρ' L' B', m = μ ρ' L' ∧ Inv ρ' L' ∧ Le B B' ∧ EnR K B' ρ' σ' ∧ Hc K B' L' Fr H'
  refine ⟨Pv, ⟨_, ρ0, L, B, rfl, i0, Le.refl B, w0.en he, hc⟩, ?_⟩
  rintro m σ' H' ⟨ρ', L', B', rfl, q, s, e, c⟩
  refine hs ρ' L' q Fr B' σ' H' _ e c fun b L1 B1 H1 h1 s1 c1 => ?_
  cases b with
  | true =>
    show if true = true then _ else _
    rw [if_pos rfl]
    refine ⟨fun σ2 H2 => ∃ ρ3 L2 B2, (Inv ρ3 L2 ∧ μ ρ3 L2 < μ ρ' L') ∧ Le B B2 ∧ EnR K B2 ρ3 σ2 ∧ Hc K B2 L2 Fr H2, fun σ2 H2 ⟨ρ3, L2, B2, ⟨i3, m3⟩, s3, e3, c3⟩ => ⟨_, m3, ρ3, L2, B2, rfl, i3, s3, e3, c3⟩, ?_⟩
    have h1 : WS K t _ ρ' L1 := h1
    have s01 := s.trans s1
    refine h1 Fr B1 σ' H1 _ (e.mono s1) c1 ⟨fun ρ4 L4 σ4 B4 H4 a4 s4 e4 c4 => ?_, fun r L' v B' H' a b c d => ok.rt r L' v B' H' a (s01.trans b) c d, fun ρ4 L4 σ4 B4 H4 a4 s4 e4 c4 => ok.nx ρ4 L4 σ4 B4 H4 a4 (s01.trans s4) e4 c4, fun ρ4 L4 σ4 B4 H4 a4 s4 e4 c4 => ?_⟩
    all_goals
      obtain ⟨ρ3, w3, i3, m3⟩ := a4
      exact ⟨ρ3, L4, B4, ⟨i3, m3⟩, s01.trans s4, w3.en e4, c4⟩
  | false =>
    show if false = true then _ else _
    rw [if_neg Bool.false_ne_true]
    exact ok.nx ρ' L1 σ' B1 H1 h1 (s.trans s1) (e.mono s1) c1
/-! ### comprehensions -/
def wipeS (ρ : List Sl) : List Nat → List Sl
  | [] => ρ
  | v :: vs => (wipeS ρ vs).set v .no
theorem en_wipe {B : Hp} {σ : L2.St} (he : EnR K B ρ σ) : ∀ vs : List Nat, EnR K B (wipeS ρ vs) (wipe σ vs)
  | [] => he
  | v :: vs => pset (F := OkS K B) (Or.inl rfl) v (en_wipe he vs)
theorem wipe_comm (σ : L2.St) (v : Nat) (o : Option V) : ∀ vs : List Nat, v ∈ vs → wipe (σ.set v o) vs = wipe σ vs
  | [], h => by cases h
  | w :: vs, h => by
    unfold wipe
    by_cases hv : v ∈ vs
    · rw [wipe_comm σ v o vs hv]
    · have e : v = w := by
        rcases List.mem_cons.mp h with h | h
        · exact h
        · exact absurd h hv
      subst e
      have gen : ∀ (vs : List Nat) (σ : L2.St), wipe (σ.set v o) vs = if v ∈ vs then wipe σ vs else (wipe σ vs).set v o := fun vs => by
        induction vs with
        | nil => intro σ; rfl
        | cons u us ih =>
          intro σ
          unfold wipe
          rw [ih σ]
          by_cases hu : v ∈ us
          · rw [if_pos hu, if_pos (List.mem_cons_of_mem _ hu)]
          · rw [if_neg hu]
            by_cases hvu : v = u
            · subst hvu
              rw [if_pos List.mem_cons_self, List.set_set]
            · rw [if_neg (fun z => (List.mem_cons.mp z).elim hvu hu)]
              exact List.set_comm _ _ hvu
      rw [gen vs σ, if_neg hv, List.set_set]
theorem wipe_set (σ : L2.St) (v w : Nat) (h : v ≠ w) (o : Option V) (vs : List Nat) (hv : ¬ v ∈ vs) : wipe (σ.set v o) vs = (wipe σ vs).set v o := by
  induction vs generalizing σ with
  | nil => rfl
  | cons u us ih =>
    have h1 : ¬ v ∈ us := fun z => hv (List.mem_cons_of_mem _ z)
    have h2 : v ≠ u := fun z => hv (z ▸ List.mem_cons_self)
    unfold wipe
    rw [ih σ h1]
    exact List.set_comm _ _ h2
theorem wipe_idem (σ : L2.St) : ∀ vs : List Nat, wipe (wipe σ vs) vs = wipe σ vs := fun vs => by
  have gen : ∀ (ws : List Nat), (∀ w ∈ ws, w ∈ vs) → wipe (wipe σ ws) vs = wipe σ vs := fun ws => by
    induction ws with
    | nil => intro _; rfl
    | cons w ws ih =>
      intro h
      show wipe ((wipe σ ws).set w none) vs = wipe σ vs
      rw [wipe_comm _ w none vs (h w List.mem_cons_self)]
      exact ih fun u hu => h u (List.mem_cons_of_mem _ hu)
  exact gen vs fun _ h => h
/-- a comprehension's targets: only slots of vs are stored -/
def WV (K : PySem.W.Frag) (g : TG) (vs : List Nat) (r : Sl) (ρ : List Sl) (L : Chs) (N : List Sl → Chs → Prop) : Prop :=
  ∀ (Fr : List (Addr × HO)) (B : Hp) (σ : L2.St) (H : Hp) (v : V) (Q : L2.St → Hp → Prop), EnR K B ρ σ → Hc K B L Fr H → SlR K B r v →
    (∀ ρ' L' σ' B' H', N ρ' L' → Le B B' → EnR K B' ρ' σ' → Hc K B' L' Fr H' → wipe σ' vs = wipe σ vs → Q σ' H') → g v σ H Q
def WVs (K : PySem.W.Frag) (g : TGs) (vs : List Nat) (rs : List Sl) (ρ : List Sl) (L : Chs) (N : List Sl → Chs → Prop) : Prop :=
  ∀ (Fr : List (Addr × HO)) (B : Hp) (σ : L2.St) (H : Hp) (us : List V) (Q : L2.St → Hp → Prop), EnR K B ρ σ → Hc K B L Fr H → Paired (SlR K B) rs us →
    (∀ ρ' L' σ' B' H', N ρ' L' → Le B B' → EnR K B' ρ' σ' → Hc K B' L' Fr H' → wipe σ' vs = wipe σ vs → Q σ' H') → g us σ H Q
theorem v_name {i : Nat} {vs : List Nat} {r : Sl} {N : List Sl → Chs → Prop} (hv : vs.contains i = true) (q : N (ρ.set i r) L) : WV K (gName i) vs r ρ L N := fun Fr B σ H v Q he hc hr k =>
  k _ L _ B H q (Le.refl B) (en_set he hr) hc (wipe_comm σ i _ vs (List.contains_iff_mem.mp hv))
theorem vs_nil {vs : List Nat} {N : List Sl → Chs → Prop} (q : N ρ L) : WVs K gNil vs [] ρ L N := fun Fr B σ H us Q he hc hr k => by
  cases hr
  exact ⟨rfl, k ρ L σ B H q (Le.refl B) he hc rfl⟩
theorem vs_cons {gs : TGs} {vs : List Nat} {r : Sl} {rs : List Sl} {N : List Sl → Chs → Prop} (h : WV K g vs r ρ L fun ρ1 L1 => WVs K gs vs rs ρ1 L1 N) : WVs K (gCons g gs) vs (r :: rs) ρ L N := fun Fr B σ H us Q he hc hr k => by
  cases hr with
  | cons h1 h2 =>
    refine ⟨_, _, rfl, ?_⟩
    refine h Fr B σ H _ _ he hc h1 fun ρ1 L1 σ1 B1 H1 a s e c w1 => ?_
    exact a Fr B1 σ1 H1 _ Q e c (Paired.mapP h2 fun _ _ q => q.mono s) fun ρ2 L2 σ2 B2 H2 a2 s2 e2 c2 w2 => k ρ2 L2 σ2 B2 H2 a2 (s.trans s2) e2 c2 (w2.trans w1)
theorem v_tup {n : Nat} {gs : TGs} {vs : List Nat} {ds : List Dt} {N : List Sl → Chs → Prop} (hn : ds.length = n) (h : WVs K gs vs (ds.map Sl.dt) ρ L N) : WV K (gTup K n gs) vs (.dt (.tup ds)) ρ L N := fun Fr B σ H v Q he hc hr k => by
  cases hr with
  | tup hb ha =>
    refine ⟨_, _, rfl, SqT.of (hc.seq _ _ hb), by rw [ha.len, hn], ?_⟩
    exact h Fr B σ H _ Q he hc (sl_dts ha) k
/-! an object of the frame alone -/
theorem Hc.newF {B H : Hp} {Fr : List (Addr × HO)} (S : Hc K B L Fr H) {p : Addr} (hp : H p = none) (o : HO) : Hc K B L ((p, o) :: Fr) (upd H p o) := by
  obtain ⟨ho, h1, S⟩ := S
  exact ⟨ho, h1, (S.new hp o).perm List.perm_middle⟩
theorem Hc.atF {B H : Hp} {Fr : List (Addr × HO)} {p : Addr} {o : HO} (S : Hc K B L ((p, o) :: Fr) H) : H p = some o ∧ B p = none := by
  obtain ⟨ho, h1, S⟩ := S
  exact S.at_ (p, o) (List.mem_append_right _ List.mem_cons_self)
theorem Hc.putF {B H : Hp} {Fr : List (Addr × HO)} {p : Addr} {o : HO} (S : Hc K B L ((p, o) :: Fr) H) (o' : HO) : Hc K B L ((p, o') :: Fr) (upd H p o') := by
  obtain ⟨ho, h1, S⟩ := S
  exact ⟨ho, h1, ((S.perm List.perm_middle.symm).put o').perm List.perm_middle⟩
theorem Hc.doneF {B H : Hp} {Fr : List (Addr × HO)} {p : Addr} {o : HO} (S : Hc K B L ((p, o) :: Fr) H) : Le B (upd B p o) ∧ Hc K (upd B p o) L Fr H := by
  obtain ⟨ho, h1, S⟩ := S
  have S2 := S.perm (List.perm_middle (a := (p, o)) (l₁ := ho) (l₂ := Fr)).symm
  have s : Le B (upd B p o) := Le.of (same_upd S2.no o)
  exact ⟨s, ho, chs_mono s h1, S2.done⟩
theorem rpa_app {B : Hp} {xs : List V} {ds : List Dt} {v : V} {d : Dt} (h : RpA K B xs ds) (r : Rp K B v d) : RpA K B (xs ++ [v]) (ds ++ [d]) := RpA.of (papp h.paired (.cons r .nil))
theorem w_lc {vs : List Nat} (h : WI K wi ρ L fun ds L1 => ∃ Inv : Nat → List Dt → Chs → Prop, Inv 0 [] L1 ∧ ds.length ≤ 1000000 ∧
    (∀ i d acc L', ds[i]? = some d → acc.length ≤ i → Inv i acc L' → WV K g vs (.dt d) (wipeS ρ vs) L' fun ρ2 L2 => WT K tt ρ2 L2 fun b L3 => if b = true then WE K te ρ2 L3 (fun y L4 => ∃ d', y = .dt d' ∧ Inv (i + 1) (acc ++ [d']) L4) else Inv (i + 1) acc L3) ∧
    (∀ acc L', Inv ds.length acc L' → Φ (.dt (.lst acc)) L')) : WE K (tLc wi g tt te vs) ρ L Φ := by
  intro Fr B σ H Q he hc k
  refine h Fr B σ H _ he hc fun ds L1 J B1 H1 h1 s1 hc1 hit => ?_
  obtain ⟨Inv, h0, hlen, hs, hd⟩ := h1
  intro Dn hD
  let Pv : Nat → Hp → Prop := fun i H' => ∃ acc L' B' av, Inv i acc L' ∧ acc.length ≤ i ∧ Le B1 B' ∧ RpA K B' av acc ∧ Hc K B' L' ((Dn, .lst av) :: Fr) H'
  refine ⟨fun i m H' => m = ds.length - i ∧ i ≤ ds.length ∧ Pv i H', ⟨ds.length, by simp, Nat.zero_le _, [], L1, B1, [], h0, Nat.le_refl _, Le.refl B1, .nil, hc1.newF hD _⟩, ?_⟩
  rintro i m H' ⟨rfl, hi, acc, L', B', av, q, ha, s, ra, c⟩
  obtain ⟨hgo, hstop⟩ := hit B' H' L' _ i s c
  by_cases hlt : i < ds.length
  · have hdi : ds[i]? = some ds[i] := List.getElem?_eq_getElem hlt
    obtain ⟨g1, g2⟩ := hgo _ hdi
    refine .inr ⟨g1, Pv (i + 1), fun H2 p => ⟨ds.length - (i + 1), by omega, rfl, hlt, p⟩, fun x H2 y => ?_⟩
    obtain ⟨B2, s2, c2, r2⟩ := g2 x H2 y
    have e2 : EnR K B2 (wipeS ρ vs) (wipe σ vs) := (en_wipe he vs).mono ((s1.trans s).trans s2)
    refine hs i _ acc L' hdi ha q _ B2 (wipe σ vs) H2 x _ e2 c2 r2 fun ρ3 L3 σ3 B3 H3 a3 s3 e3 c3 w3 => ?_
    refine ⟨w3.trans (wipe_idem σ vs), ?_⟩
    refine a3 _ B3 σ3 H3 _ e3 c3 fun b L4 B4 H4 a4 s4 c4 => ?_
    cases b with
    | true =>
      show if true = true then _ else _
      rw [if_pos rfl]
      have a4 : WE K te ρ3 L4 _ := a4
      refine a4 _ B4 σ3 H4 _ (e3.mono s4) c4 fun y L5 v B5 H5 a5 s5 c5 r5 => ?_
      obtain ⟨d', e5, q5⟩ := a5
      subst e5
      have sA := ((s2.trans s3).trans s4).trans s5
      refine ⟨av, c5.atF.1, szl (by rw [ra.len]; omega), acc ++ [d'], L5, B5, av ++ [v], q5, by rw [List.length_append, List.length_singleton]; omega, s.trans sA, rpa_app (ra.mono sA) r5, c5.putF _⟩
    | false =>
      show if false = true then _ else _
      rw [if_neg Bool.false_ne_true]
      have sA := (s2.trans s3).trans s4
      exact ⟨acc, L4, B4, av, a4, Nat.le_succ_of_le ha, s.trans sA, ra.mono sA, c4⟩
  · have ei : i = ds.length := by omega
    subst ei
    refine .inl ⟨hstop (Nat.le_refl _), ?_⟩
    obtain ⟨s2, c2⟩ := c.doneF
    exact k _ L' _ _ H' (hd acc L' q) ((s1.trans s).trans s2) c2 (.lst upd_same (ra.mono s2))
/-- .. without changes elsewhere: f the test, e the element, by the items' own data -/
theorem w_lcP {α : Type} {vs : List Nat} (h : WI K wi ρ L fun ds L1 => ∃ (xs : List α) (enc : α → Dt) (f : α → Bool) (e : α → Dt), ds = xs.map enc ∧ xs.length ≤ 1000000 ∧
    (∀ x, x ∈ xs → WV K g vs (.dt (enc x)) (wipeS ρ vs) L1 fun ρ2 L2 => WT K tt ρ2 L2 fun b L3 => b = f x ∧ if b = true then WE K te ρ2 L3 (fun y L4 => y = .dt (e x) ∧ L4 = L1) else L3 = L1) ∧
    Φ (.dt (.lst ((xs.filter f).map e))) L1) : WE K (tLc wi g tt te vs) ρ L Φ := by
  refine w_lc (fun Fr B σ H R he hc k => h Fr B σ H R he hc fun ds L' J B' H' hp => k ds L' J B' H' ?_)
  obtain ⟨xs, enc, f, e, rfl, hl, hs, q⟩ := hp
  refine ⟨fun i acc M => M = L' ∧ acc = ((xs.take i).filter f).map e, ⟨rfl, rfl⟩, by rw [List.length_map]; exact hl, fun i d acc M hd _ hI => ?_, fun acc M hI => ?_⟩
  · obtain ⟨rfl, rfl⟩ := hI
    rw [List.getElem?_map] at hd
    cases hx : xs[i]? with
    | none => rw [hx] at hd; cases hd
    | some x =>
      rw [hx] at hd
      cases hd
      have tk : xs.take (i + 1) = xs.take i ++ [x] := by rw [List.take_add_one, hx]; rfl
      refine fun Fr B σ H v Q he hc hr kk => hs x (List.mem_of_getElem? hx) Fr B σ H v Q he hc hr fun ρ' L2 σ' B' H' hN => kk ρ' L2 σ' B' H' ?_
      refine fun Fr B σ H Q he hc kk => hN Fr B σ H Q he hc fun b L3 B' H' hb => kk b L3 B' H' ?_
      obtain ⟨hb, hb2⟩ := hb
      cases b with
      | true =>
        have hb2 : WE K te ρ' L3 _ := hb2
        refine w_imp hb2 fun y L4 ⟨h1, h2⟩ => ⟨_, h1, h2, ?_⟩
        rw [tk, List.filter_append, List.map_append, List.filter_cons, if_pos hb.symm]
        rfl
      | false =>
        refine ⟨hb2, ?_⟩
        rw [tk, List.filter_append, List.map_append, List.filter_cons, if_neg (by rw [← hb]; exact Bool.false_ne_true)]
        show _ = _ ++ []
        rw [List.append_nil]
  · obtain ⟨rfl, rfl⟩ := hI
    rw [List.length_map, List.take_length]
    exact q
end
end Sx
namespace Sx
open PySem PySem.Spec PyProof.Rows L2
section
variable {K : PySem.W.Frag} {ρ : List Sl} {L : Chs} {Φ : Pd} {te ta tb tc tl to : TE} {t u : TS} {D : En2} {r : R2} {tt tt2 : TT} {aa : TA}
/-! ### from lists of slots to lists of data -/
def dts (ds : List Dt) : List Sl := ds.map Sl.dt
theorem dts_app (a b : List Dt) : dts (a ++ b) = dts a ++ dts b := List.map_append
theorem dts_len (a : List Dt) : (dts a).length = a.length := List.length_map _
theorem dts_rp {B : Hp} {ds : List Dt} {vs : List V} (h : Paired (SlR K B) (dts ds) vs) : RpA K B vs ds := dts_sl h
theorem rp_dts {B : Hp} {ds : List Dt} {vs : List V} (h : RpA K B vs ds) : Paired (SlR K B) (dts ds) vs := sl_dts h
/-! ### a changing object is fixed from here on -/
theorem erase_perm {α : Type} : ∀ {l : List α} {k : Nat} {x : α}, l[k]? = some x → l.Perm (x :: l.eraseIdx k)
  | [], _, _, h => by simp at h
  | a :: l, 0, x, h => by simp at h; subst h; exact .refl _
  | a :: l, k + 1, x, h => ((erase_perm (l := l) (k := k) (by simpa using h)).cons a).trans (.swap x a _)
theorem Hc.freeze {B H : Hp} {Fr : List (Addr × HO)} (S : Hc K B L Fr H) {k : Nat} {p : Addr} {c : Co} (e : L[k]? = some (p, c)) : ∃ o, CoR K B c o ∧ Le B (upd B p o) ∧ Hc K (upd B p o) (L.eraseIdx k) Fr H := by
  have pm : L.Perm ((p, c) :: L.eraseIdx k) := erase_perm e
  obtain ⟨ho, h1, S⟩ := S.perm pm
  cases h1 with
  | cons a b =>
    rename_i q hq
    obtain ⟨qa, qo⟩ := q
    obtain ⟨a1, a2⟩ := a
    have a1 : p = qa := a1
    subst a1
    have s : Le B (upd B p qo) := Le.of (same_upd S.no qo)
    exact ⟨qo, a2, s, hq, chs_mono s b, S.done⟩
theorem w_fz (h : WE K te ρ L fun r L1 => ∃ k p ds, r = .pt p ∧ L1[k]? = some (p, .lst (dts ds)) ∧ Φ (.dt (.lst ds)) (L1.eraseIdx k)) : WE K te ρ L Φ := by
  intro Fr B σ H Q he hc k
  refine h Fr B σ H _ he hc fun x L1 v B1 H1 h1 s1 hc1 r1 => ?_
  obtain ⟨j, p, ds, e, ej, q⟩ := h1
  subst e
  cases r1
  obtain ⟨o, ⟨xs, e1, e2⟩, s2, hc2⟩ := hc1.freeze ej
  subst e1
  exact k _ _ _ _ H1 q (s1.trans s2) hc2 (.lst upd_same ((dts_rp e2).mono s2))
theorem kv_keys {κ : Type} {B : Hp} {kvs : List (κ × V)} : ∀ {ds : List (κ × Dt)}, Paired (KvR K B) (ds.map fun p => (p.1, Sl.dt p.2)) kvs → kvs.map (·.1) = ds.map (·.1) ∧ RpA K B (kvs.map (·.2)) (ds.map (·.2)) := fun {ds} h => by
  induction ds generalizing kvs with
  | nil => cases h; exact ⟨rfl, .nil⟩
  | cons d ds ih =>
    cases h with
    | cons a b =>
      obtain ⟨i1, i2⟩ := ih b
      exact ⟨by rw [List.map_cons, List.map_cons, i1, ← a.1], .cons a.2 i2⟩
theorem keys_kv {κ : Type} {B : Hp} : ∀ {ds : List (κ × Dt)} {kvs : List (κ × V)}, kvs.map (·.1) = ds.map (·.1) → RpA K B (kvs.map (·.2)) (ds.map (·.2)) → Paired (KvR K B) (ds.map fun p => (p.1, Sl.dt p.2)) kvs
  | [], [], _, _ => .nil
  | d :: ds, kv :: kvs, e, h => by
    rw [List.map_cons, List.map_cons] at e
    injection e with e1 e2
    rw [List.map_cons, List.map_cons] at h
    cases h with
    | cons a b => exact .cons ⟨e1.symm, a⟩ (keys_kv e2 b)
  | [], _ :: _, e, _ => by cases e
  | _ :: _, [], e, _ => by cases e
def kdts {κ : Type} (ds : List (κ × Dt)) : List (κ × Sl) := ds.map fun p => (p.1, Sl.dt p.2)
theorem w_fzD (h : WE K te ρ L fun r L1 => ∃ k p ds, r = .pt p ∧ L1[k]? = some (p, .dic (kdts ds)) ∧ Φ (.dt (.dic ds)) (L1.eraseIdx k)) : WE K te ρ L Φ := by
  intro Fr B σ H Q he hc k
  refine h Fr B σ H _ he hc fun x L1 v B1 H1 h1 s1 hc1 r1 => ?_
  obtain ⟨j, p, ds, e, ej, q⟩ := h1
  subst e
  cases r1
  obtain ⟨o, ⟨xs, e1, e2⟩, s2, hc2⟩ := hc1.freeze ej
  subst e1
  obtain ⟨e3, e4⟩ := kv_keys (ds := ds) e2
  exact k _ _ _ _ H1 q (s1.trans s2) hc2 (.dic (.inl upd_same) e3 (e4.mono s2))
/-- the slots that point to p now hold what stands there -/
def Fz (p : Addr) (d : Dt) : List Sl → List Sl → Prop
  | [], [] => True
  | a :: as, b :: bs => (a = b ∨ (a = .pt p ∧ b = .dt d)) ∧ Fz p d as bs
  | _, _ => False
theorem Fz.en {B : Hp} {p : Addr} {d : Dt} (hp : Rp K B (.ref p) d) : ∀ {ρ ρ' : List Sl} {σ : L2.St}, Fz p d ρ ρ' → EnR K B ρ σ → EnR K B ρ' σ
  | [], [], _, _, h => h
  | a :: as, b :: bs, _, ⟨h1, h2⟩, .cons g r => by
    refine .cons ?_ (Fz.en hp h2 r)
    rcases h1 with h1 | ⟨h1, h3⟩
    · subst h1; exact g
    · subst h1 h3
      rcases g with g | ⟨v, g1, g2⟩
      · cases g
      · cases g2
        exact .inr ⟨_, g1, hp⟩
  | [], _ :: _, _, h, _ => h.elim
  | _ :: _, [], _, h, _ => h.elim
theorem s_fz {k : Nat} {p : Addr} {ds : List Dt} {ρ' : List Sl} (e : L[k]? = some (p, .lst (dts ds))) (w : Fz p (.lst ds) ρ ρ') (h : WS K t D ρ' (L.eraseIdx k)) : WS K t D ρ L := by
  intro Fr B σ H D' he hc ok
  obtain ⟨o, ⟨xs, e1, e2⟩, s2, hc2⟩ := hc.freeze e
  subst e1
  exact h Fr _ σ H D' (w.en (.lst upd_same ((dts_rp e2).mono s2)) (he.mono s2)) hc2 (ok.mono s2)
theorem s_fzD {k : Nat} {p : Addr} {ds : List (Key × Dt)} {ρ' : List Sl} (e : L[k]? = some (p, .dic (kdts ds))) (w : Fz p (.dic ds) ρ ρ') (h : WS K t D ρ' (L.eraseIdx k)) : WS K t D ρ L := by
  intro Fr B σ H D' he hc ok
  obtain ⟨o, ⟨xs, e1, e2⟩, s2, hc2⟩ := hc.freeze e
  subst e1
  obtain ⟨e3, e4⟩ := kv_keys (ds := ds) e2
  exact h Fr _ σ H D' (w.en (.dic (.inl upd_same) e3 (e4.mono s2)) (he.mono s2)) hc2 (ok.mono s2)
/-- a changing object of no more interest -/
theorem s_forget {L' : Chs} (k : Nat) (e : L' = L.eraseIdx k) (h : WS K t D ρ L') : WS K t D ρ L := by
  subst e
  intro Fr B σ H D' he hc ok
  by_cases hk : k < L.length
  · have ek : L[k]? = some (L[k].1, L[k].2) := by rw [List.getElem?_eq_getElem hk]
    obtain ⟨o, _, s2, hc2⟩ := hc.freeze ek
    exact h Fr _ σ H D' (he.mono s2) hc2 (ok.mono s2)
  · rw [List.eraseIdx_of_length_le (by omega)] at h
    exact h Fr B σ H D' he hc ok
theorem w_forget (k : Nat) (h : WE K te ρ L fun r L1 => Φ r (L1.eraseIdx k)) : WE K te ρ L Φ := by
  intro Fr B σ H Q he hc kk
  refine h Fr B σ H _ he hc fun x L1 v B1 H1 h1 s1 hc1 r1 => ?_
  by_cases hk : k < L1.length
  · have ek : L1[k]? = some (L1[k].1, L1[k].2) := by rw [List.getElem?_eq_getElem hk]
    obtain ⟨o, _, s2, hc2⟩ := hc1.freeze ek
    exact kk x _ v _ H1 h1 (s1.trans s2) hc2 (r1.mono s2)
  · have h1 : Φ x (L1.eraseIdx k) := h1
    rw [List.eraseIdx_of_length_le (by omega)] at h1
    exact kk x _ v _ H1 h1 s1 hc1 r1
/-! ### methods of lists -/
def isLs : Sl → Chs → Prop
  | .dt (.lst _), _ => True
  | .dt (.scr _), _ => True
  | .pt p, L => ∃ (k : Nat) (ss : List Sl), L[k]? = some (p, Co.lst ss)
  | _, _ => False
theorem isLs.ty {B H : Hp} {Fr : List (Addr × HO)} {x : Sl} {v : V} (i : isLs x L) (hc : Hc K B L Fr H) (r1 : SlR K B x v) : tyV K "list" v H := by
  match x, i with
  | .dt (.lst _), _ =>
    cases r1 with
    | lst hb _ => exact .inl ⟨rfl, _, SqL.of (hc.seq _ _ hb)⟩
  | .dt (.scr _), _ =>
    cases r1 with
    | scr hb => exact .inl ⟨rfl, _, hc.seq.seq hb⟩
  | .pt p, ⟨k, ss, e⟩ =>
    cases r1
    obtain ⟨o, h1, ⟨xs, h2, _⟩, _⟩ := hc.at_ e
    subst h2
    exact .inl ⟨rfl, _, SqL.of h1⟩
theorem w_bmL {f : V → List V → Hp → VK → Prop} (h : WE K to ρ L fun x L1 => isLs x L1 ∧ WA K aa ρ L1 fun xs L2 => WM K f x xs L2 Φ) : WE K (tBM K "list" f to aa) ρ L Φ := by
  intro Fr B σ H Q he hc k
  refine h Fr B σ H _ he hc fun x L1 v B1 H1 h1 s1 hc1 r1 => ⟨h1.1.ty hc1 r1, ?_⟩
  refine h1.2 Fr B1 σ H1 _ (he.mono s1) hc1 fun xs L2 vs B2 H2 h2 s2 hc2 r2 => ?_
  exact h2 Fr B2 H2 Q v vs hc2 (r1.mono s2) r2 fun r L' v B' H' a b c d => k r L' v B' H' a ((s1.trans s2).trans b) c d
theorem w_bmL0 {f : V → List V → Hp → VK → Prop} (h : WE K to ρ L fun x L1 => isLs x L1 ∧ WM K f x [] L1 Φ) : WE K (tBM0 K "list" f to) ρ L Φ := by
  intro Fr B σ H Q he hc k
  refine h Fr B σ H _ he hc fun x L1 v B1 H1 h1 s1 hc1 r1 => ⟨h1.1.ty hc1 r1, ?_⟩
  exact h1.2 Fr B1 H1 Q v [] hc1 r1 .nil fun r L' v B' H' a b c d => k r L' v B' H' a (s1.trans b) c d
theorem m_append {p : Addr} {k : Nat} {ss : List Sl} {s : Sl} (e : L[k]? = some (p, .lst ss)) (hz : ss.length < 1000000) (q : Φ (.dt .non) (L.set k (p, .lst (ss ++ [s])))) : WM K rAppend (.pt p) [s] L Φ := by
  intro Fr B H Q v vs hc rx rs kk
  cases rx
  cases rs with
  | cons a b =>
    cases b
    obtain ⟨o, h1, ⟨xs, h2, h3⟩, _⟩ := hc.at_ e
    subst h2
    exact ⟨p, xs, _, rfl, rfl, h1, szl (by rw [← h3.length]; exact hz), kk _ _ _ B _ q (Le.refl B) (hc.put e (c' := .lst (ss ++ [s])) ⟨_, rfl, papp h3 (.cons a .nil)⟩) .non⟩
theorem m_popAt {p : Addr} {k : Nat} {ss : List Sl} {s : Sl} {i : Int} {j : Nat} (e : L[k]? = some (p, .lst ss)) (hi : -(2 ^ 63) ≤ i ∧ i < 2 ^ 63) (hj : ixN ss.length i = some j) (hs : ss[j]? = some s) (q : Φ s (L.set k (p, .lst (ss.eraseIdx j)))) : WM K rPopAt (.pt p) [.dt (.int i)] L Φ := by
  intro Fr B H Q v vs hc rx rs kk
  cases rx
  cases rs with
  | cons a b =>
    cases b
    cases a
    obtain ⟨o, h1, ⟨xs, h2, h3⟩, _⟩ := hc.at_ e
    subst h2
    obtain ⟨y, g1, g2⟩ := pget h3 hs
    exact ⟨p, xs, i, j, y, rfl, rfl, h1, hi.1, hi.2, by rw [← h3.length]; exact (ixN_seq hj).1, g1, kk _ _ _ B _ q (Le.refl B) (hc.put e (c' := .lst (ss.eraseIdx j)) ⟨_, rfl, perase j h3⟩) g2⟩
theorem m_pop {p : Addr} {k : Nat} {ss : List Sl} {s : Sl} (e : L[k]? = some (p, .lst ss)) (hs : ss[ss.length - 1]? = some s) (q : Φ s (L.set k (p, .lst ss.dropLast))) : WM K rPop (.pt p) [] L Φ := by
  intro Fr B H Q v vs hc rx rs kk
  cases rx
  cases rs
  obtain ⟨o, h1, ⟨xs, h2, h3⟩, _⟩ := hc.at_ e
  subst h2
  obtain ⟨y, g1, g2⟩ := pget h3 hs
  exact ⟨p, xs, y, rfl, rfl, h1, by rw [← h3.length]; exact g1, kk _ _ _ B _ q (Le.refl B) (hc.put e (c' := .lst ss.dropLast) ⟨_, rfl, plast h3⟩) g2⟩
theorem m_insert {p : Addr} {k : Nat} {ss : List Sl} {s : Sl} {i : Int} (e : L[k]? = some (p, .lst ss)) (hz : ss.length < 1000000) (hi : 0 ≤ i ∧ i < 2 ^ 63) (q : Φ (.dt .non) (L.set k (p, .lst (ss.take i.toNat ++ [s] ++ ss.drop i.toNat)))) :
    WM K (fun x vs H Q => ∃ (l : Addr) (xs : List V) (i : Int) (y : V), x = .ref l ∧ vs = [.int i, y] ∧ H l = some (.lst xs) ∧ xs.length < sizeLine ∧ 0 ≤ i ∧ i < 2 ^ 63 ∧ Q .non (upd H l (.lst (xs.take i.toNat ++ [y] ++ xs.drop i.toNat)))) (.pt p) [.dt (.int i), s] L Φ := by
  intro Fr B H Q v vs hc rx rs kk
  cases rx
  cases rs with
  | cons a b =>
    cases a
    cases b with
    | cons a b =>
      cases b
      obtain ⟨o, h1, ⟨xs, h2, h3⟩, _⟩ := hc.at_ e
      subst h2
      exact ⟨p, xs, i, _, rfl, rfl, h1, szl (by rw [← h3.length]; exact hz), hi.1, hi.2, kk _ _ _ B _ q (Le.refl B) (hc.put e (c' := .lst (ss.take i.toNat ++ [s] ++ ss.drop i.toNat)) ⟨_, rfl, papp (papp (ptake _ h3) (.cons a .nil)) (pdrop _ h3)⟩) .non⟩
/-- xs.extend(ys): ys data, or another changing list -/
theorem m_extend {p : Addr} {k : Nat} {ss : List Sl} {ds : List Dt} (e : L[k]? = some (p, .lst ss)) (hz : ss.length + ds.length ≤ 1000000) (q : Φ (.dt .non) (L.set k (p, .lst (ss ++ dts ds)))) : WM K rExtend (.pt p) [.dt (.lst ds)] L Φ := by
  intro Fr B H Q v vs hc rx rs kk
  cases rx
  cases rs with
  | cons a b =>
    cases b
    cases a with
    | lst hb ha =>
      obtain ⟨o, h1, ⟨xs, h2, h3⟩, _⟩ := hc.at_ e
      subst h2
      exact ⟨p, _, xs, _, rfl, rfl, h1, hc.seq _ _ hb, sz (by rw [← h3.length, ha.len]; exact hz), kk _ _ _ B _ q (Le.refl B) (hc.put e (c' := .lst (ss ++ dts ds)) ⟨_, rfl, papp h3 (rp_dts ha)⟩) .non⟩
theorem m_clear {p : Addr} {k : Nat} {ss : List Sl} (e : L[k]? = some (p, .lst ss)) (q : Φ (.dt .non) (L.set k (p, .lst []))) : WM K rClear (.pt p) [] L Φ := by
  intro Fr B H Q v vs hc rx rs kk
  cases rx
  cases rs
  obtain ⟨o, h1, ⟨xs, h2, h3⟩, _⟩ := hc.at_ e
  subst h2
  exact ⟨p, xs, rfl, rfl, h1, kk _ _ _ B _ q (Le.refl B) (hc.put e (c' := .lst []) ⟨_, rfl, .nil⟩) .non⟩
theorem m_reverse {p : Addr} {k : Nat} {ss : List Sl} (e : L[k]? = some (p, .lst ss)) (q : Φ (.dt .non) (L.set k (p, .lst ss.reverse))) : WM K rReverse (.pt p) [] L Φ := by
  intro Fr B H Q v vs hc rx rs kk
  cases rx
  cases rs
  obtain ⟨o, h1, ⟨xs, h2, h3⟩, _⟩ := hc.at_ e
  subst h2
  exact ⟨p, xs, rfl, rfl, h1, kk _ _ _ B _ q (Le.refl B) (hc.put e (c' := .lst ss.reverse) ⟨_, rfl, prev h3⟩) .non⟩
/-! ### dicts -/
def keyD : Dt → Option Key
  | .int i => some (.inl i)
  | .str x => some (.inr x)
  | _ => none
theorem keyD_v {B : Hp} {d : Dt} {k : Key} {v : V} (h : keyD d = some k) (r : Rp K B v d) : v = kV k := by
  cases d with
  | int i => cases h; cases r; rfl
  | str x => cases h; cases r; rfl
  | _ => cases h
def keysD : List Dt → Option (List Key)
  | [] => some []
  | d :: ds => match keyD d, keysD ds with
    | some k, some ks => some (k :: ks)
    | _, _ => none
theorem keysD_v {B : Hp} : ∀ {ds : List Dt} {ks : List Key} {vs : List V}, keysD ds = some ks → RpA K B vs ds → vs = ks.map kV
  | [], _, _, h, r => by cases h; cases r; rfl
  | d :: ds, ks, _, h, r => by
    cases r with
    | cons a b =>
      unfold keysD at h
      cases q : keyD d with
      | none => rw [q] at h; cases h
      | some k =>
        rw [q] at h
        cases q2 : keysD ds with
        | none => rw [q2] at h; cases h
        | some ks2 =>
          rw [q2] at h
          cases h
          rw [keyD_v q a, keysD_v q2 b]
          rfl
section
variable {κ : Type} [DecidableEq κ] {α β : Type}
def valG (kvs : List (κ × α)) (k : κ) : Option α := (kvs.find? fun kv => decide (kv.1 = k)).map (·.2)
def putG (kvs : List (κ × α)) (k : κ) (v : α) : List (κ × α) :=
  if (kvs.any fun kv => decide (kv.1 = k)) = true then kvs.map (fun kv => if kv.1 = k then (kv.1, v) else kv) else kvs ++ [(k, v)]
def dropG (kvs : List (κ × α)) (k : κ) : List (κ × α) := kvs.filter fun kv => decide (kv.1 ≠ k)
theorem valG_rel {F : κ × α → κ × β → Prop} (hF : ∀ p q, F p q → p.1 = q.1) {k : κ} : ∀ {l : List (κ × α)} {m : List (κ × β)}, Paired F l m → (∀ s, valG l k = some s → ∃ v, valG m k = some v ∧ ∃ k', F (k', s) (k', v)) ∧ (valG l k = none → valG m k = none)
  | _, _, .nil => ⟨fun s h => (by cases h), fun _ => rfl⟩
  | p :: l, q :: m, .cons h t => by
    have e := hF p q h
    by_cases hk : p.1 = k
    · have h1 : valG (p :: l) k = some p.2 := by unfold valG; rw [List.find?_cons, decide_eq_true hk]; rfl
      have h2 : valG (q :: m) k = some q.2 := by unfold valG; rw [List.find?_cons, decide_eq_true (e ▸ hk)]; rfl
      rw [h1, h2]
      refine ⟨fun s hs => ?_, fun z => by cases z⟩
      cases hs
      refine ⟨_, rfl, p.1, ?_⟩
      have e2 : q = (p.1, q.2) := by rw [e]
      rw [e2] at h
      exact h
    · have h1 : valG (p :: l) k = valG l k := by unfold valG; rw [List.find?_cons, decide_eq_false hk]
      have h2 : valG (q :: m) k = valG m k := by unfold valG; rw [List.find?_cons, decide_eq_false (e ▸ hk)]
      rw [h1, h2]
      exact valG_rel hF t
theorem any_rel {F : κ × α → κ × β → Prop} (hF : ∀ p q, F p q → p.1 = q.1) {k : κ} : ∀ {l : List (κ × α)} {m : List (κ × β)}, Paired F l m → (l.any fun kv => decide (kv.1 = k)) = m.any fun kv => decide (kv.1 = k)
  | _, _, .nil => rfl
  | p :: l, q :: m, .cons h t => by rw [List.any_cons, List.any_cons, hF p q h, any_rel hF t]
theorem putG_rel {F : κ × α → κ × β → Prop} (hF : ∀ p q, F p q → p.1 = q.1) {k : κ} {s : α} {v : β} (hs : ∀ k', F (k', s) (k', v)) {l : List (κ × α)} {m : List (κ × β)} (h : Paired F l m) : Paired F (putG l k s) (putG m k v) := by
  unfold putG
  rw [any_rel hF h]
  split
  · have : ∀ {l : List (κ × α)} {m : List (κ × β)}, Paired F l m → Paired F (l.map fun kv => if kv.1 = k then (kv.1, s) else kv) (m.map fun kv => if kv.1 = k then (kv.1, v) else kv) := fun {l m} h => by
      induction h with
      | nil => exact .nil
      | @cons p q _ _ a _ ih =>
        rw [List.map_cons, List.map_cons]
        refine .cons ?_ ih
        have e := hF p q a
        by_cases hk : p.1 = k
        · rw [if_pos hk, if_pos (e ▸ hk), ← e]; exact hs _
        · rw [if_neg hk, if_neg (e ▸ hk)]; exact a
    exact this h
  · exact papp h (.cons (hs k) .nil)
theorem dropG_rel {F : κ × α → κ × β → Prop} (hF : ∀ p q, F p q → p.1 = q.1) {k : κ} : ∀ {l : List (κ × α)} {m : List (κ × β)}, Paired F l m → Paired F (dropG l k) (dropG m k)
  | _, _, .nil => .nil
  | p :: l, q :: m, .cons h t => by
    unfold dropG
    rw [List.filter_cons, List.filter_cons]
    have e := hF p q h
    by_cases hk : p.1 = k
    · rw [if_neg (by simp [hk]), if_neg (by simp [← e, hk])]; exact dropG_rel hF t
    · rw [if_pos (by simp [hk]), if_pos (by simp [← e, hk])]; exact .cons h (dropG_rel hF t)
theorem putG_len (kvs : List (κ × α)) (k : κ) (v : α) : (putG kvs k v).length ≤ kvs.length + 1 := by
  unfold putG
  split
  · rw [List.length_map]; omega
  · rw [List.length_append]; exact Nat.le_refl _
end
theorem kvr_key {κ : Type} {B : Hp} (p : κ × Sl) (q : κ × V) (h : KvR K B p q) : p.1 = q.1 := h.1
theorem putK_G {κ : Type} [DecidableEq κ] (kvs : List (κ × V)) (k : κ) (v : V) : putK kvs k v = putG kvs k v := rfl
theorem valV_G {κ : Type} [DecidableEq κ] (kvs : List (κ × V)) (k : κ) : valV kvs k = valG kvs k := rfl
/-- what the dict x holds at the key y -/
def DG (x : Sl) (y : Dt) (L : Chs) (o : Option Sl) : Prop :=
  (∃ (k : Nat) (p : Addr) (kvs : List (Key × Sl)) (key : Key), x = .pt p ∧ L[k]? = some (p, Co.dic kvs) ∧ keyD y = some key ∧ o = valG kvs key) ∨
  (∃ kvs key, x = .dt (.dic kvs) ∧ keyD y = some key ∧ o = (valG kvs key).map .dt) ∨
  (∃ (k : Nat) (p : Addr) (kvs : List (List Key × Sl)) (ds : List Dt) (key : List Key), x = .pt p ∧ L[k]? = some (p, Co.dit kvs) ∧ y = .tup ds ∧ keysD ds = some key ∧ o = valG kvs key) ∨
  ∃ kvs ds key, x = .dt (.dit kvs) ∧ y = .tup ds ∧ keysD ds = some key ∧ o = (valG kvs key).map .dt
theorem kvs_val {κ : Type} [DecidableEq κ] {B : Hp} {kvs : List (κ × Sl)} {vs : List (κ × V)} {k : κ} (h : Paired (KvR K B) kvs vs) : (∀ s, valG kvs k = some s → ∃ v, valV vs k = some v ∧ SlR K B s v) ∧ (valG kvs k = none → valV vs k = none) := by
  obtain ⟨h1, h2⟩ := valG_rel (F := KvR K B) kvr_key (k := k) h
  exact ⟨fun s hs => by obtain ⟨v, e, _, r⟩ := h1 s hs; exact ⟨v, e, r.2⟩, h2⟩
theorem valG_map {κ : Type} [DecidableEq κ] (k : κ) : ∀ kvs : List (κ × Dt), valG (kvs.map fun p => (p.1, Sl.dt p.2)) k = (valG kvs k).map .dt
  | [] => rfl
  | p :: r => by
    unfold valG
    rw [List.map_cons, List.find?_cons, List.find?_cons]
    by_cases hk : p.1 = k
    · rw [decide_eq_true hk]; rfl
    · rw [decide_eq_false hk]; exact valG_map k r
theorem rd_same {B H : Hp} {a : Addr} {u : HO} (s : Same B H) (h : Rd B a u) : Rd H a u := by
  rcases h with h | ⟨ob, h⟩
  · exact .inl (s _ _ h)
  · exact .inr ⟨ob, s _ _ h⟩
theorem DG.get {B H : Hp} {Fr : List (Addr × HO)} {x : Sl} {y : Dt} {o : Option Sl} {xv yv : V} (h : DG x y L o) (hc : Hc K B L Fr H) (rx : SlR K B x xv) (ry : Rp K B yv y) :
    ∃ a ov, xv = .ref a ∧ DGet H a yv ov ∧ (∀ s, o = some s → ∃ v, ov = some v ∧ SlR K B s v) ∧ (o = none → ov = none) := by
  rcases h with ⟨k, p, kvs, key, rfl, e, hk, rfl⟩ | ⟨kvs, key, rfl, hk, rfl⟩ | ⟨k, p, kvs, ds, key, rfl, e, rfl, hk, rfl⟩ | ⟨kvs, ds, key, rfl, rfl, hk, rfl⟩
  · cases rx
    obtain ⟨o, h1, ⟨vs, h2, h3⟩, _⟩ := hc.at_ e
    subst h2
    rw [keyD_v hk ry]
    exact ⟨p, _, rfl, DGet.k h1, (kvs_val h3).1, (kvs_val h3).2⟩
  · cases rx with
    | dic hb e1 e2 =>
      have h3 := keys_kv e1 e2
      rw [keyD_v hk ry]
      have hb2 := rd_same hc.seq hb
      refine ⟨_, _, rfl, .inl ⟨_, key, hb2, rfl, rfl⟩, fun s hs => ?_, fun hn => ?_⟩
      · exact (kvs_val h3).1 s (by rw [valG_map]; exact hs)
      · exact (kvs_val h3).2 (by rw [valG_map]; exact hn)
  · cases rx
    obtain ⟨o, h1, ⟨vs, h2, h3⟩, _⟩ := hc.at_ e
    subst h2
    cases ry with
    | tup hb ha =>
      rw [keysD_v hk ha] at hb
      exact ⟨p, _, rfl, DGet.t h1 (hc.seq _ _ hb), (kvs_val h3).1, (kvs_val h3).2⟩
  · cases rx with
    | dit hb e1 e2 =>
      have h3 := keys_kv e1 e2
      cases ry with
      | tup hb' ha =>
        rw [keysD_v hk ha] at hb'
        have hb2 := rd_same hc.seq hb
        refine ⟨_, _, rfl, .inr ⟨_, key, _, hb2, rfl, hc.seq _ _ hb', rfl⟩, fun s hs => ?_, fun hn => ?_⟩
        · exact (kvs_val h3).1 s (by rw [valG_map]; exact hs)
        · exact (kvs_val h3).2 (by rw [valG_map]; exact hn)
theorem w_dget (h : WE K ta ρ L fun x L1 => WE K tb ρ L1 fun y L2 => ∃ d s, y = .dt d ∧ DG x d L2 (some s) ∧ Φ s L2) : WE K (tDGet ta tb) ρ L Φ := by
  intro Fr B σ H Q he hc k
  refine h Fr B σ H _ he hc fun x L1 v B1 H1 h1 s1 hc1 r1 => ?_
  refine h1 Fr B1 σ H1 _ (he.mono s1) hc1 fun y L2 u B2 H2 h2 s2 hc2 r2 => ?_
  obtain ⟨d, s, e, g, q⟩ := h2
  subst e
  obtain ⟨a, ov, e1, e2, e3, _⟩ := g.get hc2 (r1.mono s2) r2
  subst e1
  obtain ⟨z, e4, rz⟩ := e3 s rfl
  subst e4
  exact ⟨a, z, rfl, e2, k s L2 z B2 H2 q (s1.trans s2) hc2 rz⟩
theorem w_din (h : WE K ta ρ L fun y L1 => WE K tb ρ L1 fun x L2 => ∃ d o, y = .dt d ∧ DG x d L2 o ∧ Φ (.dt (.bl o.isSome)) L2) : WE K (tDIn ta tb) ρ L Φ := by
  intro Fr B σ H Q he hc k
  refine h Fr B σ H _ he hc fun x L1 v B1 H1 h1 s1 hc1 r1 => ?_
  refine h1 Fr B1 σ H1 _ (he.mono s1) hc1 fun y L2 u B2 H2 h2 s2 hc2 r2 => ?_
  obtain ⟨d, o, e, g, q⟩ := h2
  subst e
  obtain ⟨a, ov, e1, e2, e3, e4⟩ := g.get hc2 r2 (Rp.mono s2 r1)
  subst e1
  have e5 : ov.isSome = o.isSome := by
    cases o with
    | none => rw [e4 rfl]; rfl
    | some s => obtain ⟨z, e6, _⟩ := e3 s rfl; rw [e6]; rfl
  refine ⟨a, ov, rfl, e2, ?_⟩
  rw [e5]
  exact k _ L2 _ B2 H2 q (s1.trans s2) hc2 (.bl _)
theorem w_dnin (h : WE K ta ρ L fun y L1 => WE K tb ρ L1 fun x L2 => ∃ d o, y = .dt d ∧ DG x d L2 o ∧ Φ (.dt (.bl (!o.isSome))) L2) : WE K (tDNotIn ta tb) ρ L Φ := by
  intro Fr B σ H Q he hc k
  refine h Fr B σ H _ he hc fun x L1 v B1 H1 h1 s1 hc1 r1 => ?_
  refine h1 Fr B1 σ H1 _ (he.mono s1) hc1 fun y L2 u B2 H2 h2 s2 hc2 r2 => ?_
  obtain ⟨d, o, e, g, q⟩ := h2
  subst e
  obtain ⟨a, ov, e1, e2, e3, e4⟩ := g.get hc2 r2 (Rp.mono s2 r1)
  subst e1
  have e5 : ov.isSome = o.isSome := by
    cases o with
    | none => rw [e4 rfl]; rfl
    | some s => obtain ⟨z, e6, _⟩ := e3 s rfl; rw [e6]; rfl
  refine ⟨a, ov, rfl, e2, ?_⟩
  rw [e5]
  exact k _ L2 _ B2 H2 q (s1.trans s2) hc2 (.bl _)
/-- d[k] = v of a changing dict -/
theorem s_dput (h : WE K tc ρ L fun s L1 => WE K ta ρ L1 fun x L2 => WE K tb ρ L2 fun y L3 => ∃ k p kvs d key, x = .pt p ∧ y = .dt d ∧ L3[k]? = some (p, .dic kvs) ∧ keyD d = some key ∧ kvs.length < 1000000 ∧ D.nx ρ (L3.set k (p, .dic (putG kvs key s)))) :
    WS K (sDPut ta tb tc) D ρ L := by
  intro Fr B σ H D' he hc ok
  refine h Fr B σ H _ he hc fun s L1 v B1 H1 h1 s1 hc1 r1 => ?_
  refine h1 Fr B1 σ H1 _ (he.mono s1) hc1 fun x L2 xv B2 H2 h2 s2 hc2 r2 => ?_
  refine h2 Fr B2 σ H2 _ ((he.mono s1).mono s2) hc2 fun y L3 yv B3 H3 h3 s3 hc3 r3 => ?_
  obtain ⟨k, p, kvs, d, key, e1, e2, e3, e4, e5, q⟩ := h3
  subst e1 e2
  cases r2
  obtain ⟨o, g1, ⟨vs, g2, g3⟩, _⟩ := hc3.at_ e3
  subst g2
  rw [keyD_v e4 r3]
  refine ⟨p, _, rfl, DPut.k g1 (szl (by rw [← g3.length]; exact e5)), ?_⟩
  exact ok.nx _ _ _ B3 _ q ((s1.trans s2).trans s3) (((he.mono s1).mono s2).mono s3) (hc3.put e3 (c' := .dic (putG kvs key s)) ⟨_, rfl, putG_rel kvr_key (fun k' => ⟨rfl, r1.mono (s2.trans s3)⟩) g3⟩)
theorem s_dputT (h : WE K tc ρ L fun s L1 => WE K ta ρ L1 fun x L2 => WE K tb ρ L2 fun y L3 => ∃ k p kvs ds key, x = .pt p ∧ y = .dt (.tup ds) ∧ L3[k]? = some (p, .dit kvs) ∧ keysD ds = some key ∧ kvs.length < 1000000 ∧ D.nx ρ (L3.set k (p, .dit (putG kvs key s)))) :
    WS K (sDPut ta tb tc) D ρ L := by
  intro Fr B σ H D' he hc ok
  refine h Fr B σ H _ he hc fun s L1 v B1 H1 h1 s1 hc1 r1 => ?_
  refine h1 Fr B1 σ H1 _ (he.mono s1) hc1 fun x L2 xv B2 H2 h2 s2 hc2 r2 => ?_
  refine h2 Fr B2 σ H2 _ ((he.mono s1).mono s2) hc2 fun y L3 yv B3 H3 h3 s3 hc3 r3 => ?_
  obtain ⟨k, p, kvs, ds, key, e1, e2, e3, e4, e5, q⟩ := h3
  subst e1 e2
  cases r2
  obtain ⟨o, g1, ⟨vs, g2, g3⟩, _⟩ := hc3.at_ e3
  subst g2
  cases r3 with
  | tup hb ha =>
    rw [keysD_v e4 ha] at hb
    refine ⟨p, _, rfl, DPut.t g1 (hc3.seq _ _ hb) (szl (by rw [← g3.length]; exact e5)), ?_⟩
    exact ok.nx _ _ _ B3 _ q ((s1.trans s2).trans s3) (((he.mono s1).mono s2).mono s3) (hc3.put e3 (c' := .dit (putG kvs key s)) ⟨_, rfl, putG_rel kvr_key (fun k' => ⟨rfl, r1.mono (s2.trans s3)⟩) g3⟩)
/-- {k: v, ..} -/
def WP (K : PySem.W.Frag) (trs : List (TE × TE)) (ρ : List Sl) (L : Chs) (Ψ : List (Key × Sl) → Chs → Prop) : Prop :=
  ∀ (Fr : List (Addr × HO)) (B : Hp) (σ : L2.St) (H : Hp) (Q : List (V × V) → Hp → Prop), EnR K B ρ σ → Hc K B L Fr H →
    (∀ kvs L' (ps : List (Key × V)) B' H', Ψ kvs L' → Le B B' → Hc K B' L' Fr H' → Paired (KvR K B') kvs ps → Q (ps.map fun kv => (kV kv.1, kv.2)) H') → tPairs trs σ H Q
theorem wp_nil {Ψ : List (Key × Sl) → Chs → Prop} (q : Ψ [] L) : WP K [] ρ L Ψ := fun Fr B σ H Q he hc k => k [] L [] B H q (Le.refl B) hc .nil
theorem wp_cons {trs : List (TE × TE)} {Ψ : List (Key × Sl) → Chs → Prop} (h : WE K ta ρ L fun x L1 => ∃ d key, x = .dt d ∧ keyD d = some key ∧ WE K tb ρ L1 fun y L2 => WP K trs ρ L2 fun kvs L3 => Ψ ((key, y) :: kvs) L3) : WP K ((ta, tb) :: trs) ρ L Ψ := by
  intro Fr B σ H Q he hc k
  refine h Fr B σ H _ he hc fun x L1 v B1 H1 h1 s1 hc1 r1 => ?_
  obtain ⟨d, key, e1, e2, h1⟩ := h1
  subst e1
  refine h1 Fr B1 σ H1 _ (he.mono s1) hc1 fun y L2 u B2 H2 h2 s2 hc2 r2 => ?_
  refine h2 Fr B2 σ H2 _ ((he.mono s1).mono s2) hc2 fun kvs L3 ps B3 H3 h3 s3 hc3 r3 => ?_
  rw [keyD_v e2 r1]
  exact k _ L3 ((key, u) :: ps) B3 H3 h3 ((s1.trans s2).trans s3) hc3 (.cons ⟨rfl, r2.mono s3⟩ r3)
def mergeG {κ α : Type} [DecidableEq κ] (kvs more : List (κ × α)) : List (κ × α) := more.foldl (fun acc kv => putG acc kv.1 kv.2) kvs
theorem merge_rel {B : Hp} : ∀ {more : List (Key × Sl)} {mv : List (Key × V)} {kvs : List (Key × Sl)} {vs : List (Key × V)}, Paired (KvR K B) more mv → Paired (KvR K B) kvs vs → Paired (KvR K B) (mergeG kvs more) (mergeK vs mv)
  | _, _, _, _, .nil, h => h
  | _, _, _, _, .cons (a := p) (b := q) a t, h => by
    unfold mergeG mergeK
    rw [List.foldl_cons, List.foldl_cons]
    refine merge_rel t ?_
    rw [putK_G, ← a.1]
    exact putG_rel kvr_key (fun k' => ⟨rfl, a.2⟩) h
theorem Hc.backF {B H : Hp} {Fr : List (Addr × HO)} {p : Addr} {o : HO} {c : Co} (S : Hc K B L ((p, o) :: Fr) H) (h : CoR K B c o) : Hc K B (L ++ [(p, c)]) Fr H := by
  obtain ⟨ho, h1, S⟩ := S
  refine ⟨ho ++ [(p, o)], papp h1 (.cons ⟨rfl, h⟩ .nil), ?_⟩
  rw [List.append_assoc]
  exact S
theorem w_dispM {trs : List (TE × TE)} (h : WP K trs ρ L fun kvs L1 => kvs.length ≤ 15 ∧ ∀ p, Φ (.pt p) (L1 ++ [(p, .dic (mergeG [] kvs))])) : WE K (tDisp trs) ρ L Φ := by
  intro Fr B σ H Q he hc k p hp
  refine h _ B σ _ _ he (hc.newF hp (.dK [])) fun kvs L1 ps B1 H1 h1 s1 hc1 r1 => ⟨hc1.atF.1, ps, rfl, by rw [← r1.length]; exact h1.1, ?_⟩
  have c2 := hc1.putF (.dK (mergeK [] ps))
  exact k _ _ _ B1 _ (h1.2 p) s1 (c2.backF (c := .dic (mergeG [] kvs)) ⟨_, rfl, merge_rel r1 .nil⟩) rfl
theorem w_disp {trs : List (TE × TE)} (h : WP K trs ρ L fun kvs L1 => kvs.length ≤ 15 ∧ ∃ ds, mergeG [] kvs = kdts ds ∧ Φ (.dt (.dic ds)) L1) : WE K (tDisp trs) ρ L Φ := by
  intro Fr B σ H Q he hc k p hp
  refine h _ B σ _ _ he (hc.newF hp (.dK [])) fun kvs L1 ps B1 H1 h1 s1 hc1 r1 => ⟨hc1.atF.1, ps, rfl, by rw [← r1.length]; exact h1.1, ?_⟩
  have c2 := hc1.putF (.dK (mergeK [] ps))
  obtain ⟨ds, e, q⟩ := h1.2
  obtain ⟨s2, c3⟩ := c2.doneF
  have g := merge_rel r1 (.nil : Paired (KvR K B1) ([] : List (Key × Sl)) [])
  rw [e] at g
  obtain ⟨e3, e4⟩ := kv_keys (ds := ds) g
  exact k _ _ _ _ _ q (s1.trans s2) c3 (.dic (.inl upd_same) e3 (e4.mono s2))
end
end Sx
namespace Sx
open PySem PySem.Spec PyProof.Rows L2
section
variable {K : PySem.W.Frag} {ρ : List Sl} {L : Chs} {Φ : Pd} {te ta tb tc tl to : TE} {t u : TS} {D : En2} {r : R2} {tt tt2 : TT} {aa : TA}
/-! ### built-ins by values -/
theorem c_int1 {i : Int} (q : Φ (.dt (.int i)) L) : WC K (fun xs H Q => (∃ i, xs = [.int i] ∧ Q (.int i) H) ∨ ∃ k, xs = [.bl k] ∧ Q (.int (if k then 1 else 0)) H) [.dt (.int i)] L Φ := by
  intro Fr B H Q vs hc rs k
  cases rs with
  | cons a b => cases b; cases a; exact .inl ⟨i, rfl, k _ L _ B H q (Le.refl B) hc (.int i)⟩
theorem c_intB {b : Bool} (q : Φ (.dt (.int (if b then 1 else 0))) L) : WC K (fun xs H Q => (∃ i, xs = [.int i] ∧ Q (.int i) H) ∨ ∃ k, xs = [.bl k] ∧ Q (.int (if k then 1 else 0)) H) [.dt (.bl b)] L Φ := by
  intro Fr B H Q vs hc rs k
  cases rs with
  | cons a c => cases c; cases a; exact .inr ⟨b, rfl, k _ L _ B H q (Le.refl B) hc (.int _)⟩
theorem c_abs {i : Int} (q : Φ (.dt (.int (if i < 0 then -i else i))) L) : WC K (fun xs H Q => ∃ i, xs = [.int i] ∧ Q (.int (if i < 0 then -i else i)) H) [.dt (.int i)] L Φ := by
  intro Fr B H Q vs hc rs k
  cases rs with
  | cons a b => cases b; cases a; exact ⟨i, rfl, k _ L _ B H q (Le.refl B) hc (.int _)⟩
theorem c_ii {f : Int → Int → Int} {i j : Int} (q : Φ (.dt (.int (f i j))) L) : WC K (fun xs H Q => ∃ i j, xs = [.int i, .int j] ∧ Q (.int (f i j)) H) [.dt (.int i), .dt (.int j)] L Φ := by
  intro Fr B H Q vs hc rs k
  cases rs with
  | cons a b =>
    cases a
    cases b with
    | cons a b => cases b; cases a; exact ⟨i, j, rfl, k _ L _ B H q (Le.refl B) hc (.int _)⟩
theorem c_lenS {z : Str} (hz : z.length ≤ 1000000) (q : Φ (.dt (.int (z.length : Int))) L) : WC K (fun xs H Q => ∃ z, xs = [.str z] ∧ z.length ≤ sizeLine ∧ Q (.int z.length) H) [.dt (.str z)] L Φ := by
  intro Fr B H Q vs hc rs k
  cases rs with
  | cons a b => cases b; cases a; exact ⟨z, rfl, sz hz, k _ L _ B H q (Le.refl B) hc (.int _)⟩
theorem c_lenL {ds : List Dt} (q : Φ (.dt (.int (ds.length : Int))) L) : WC K (fun xs H Q => ∃ p ys, xs = [.ref p] ∧ (SqL K H p ys ∨ SqT K H p ys) ∧ Q (.int ys.length) H) [.dt (.lst ds)] L Φ := by
  intro Fr B H Q vs hc rs k
  cases rs with
  | cons a b =>
    cases b
    cases a with
    | lst hb ha => exact ⟨_, _, rfl, .inl (SqL.of (hc.seq _ _ hb)), by rw [ha.len]; exact k _ L _ B H q (Le.refl B) hc (.int _)⟩
theorem c_lenT {ds : List Dt} (q : Φ (.dt (.int (ds.length : Int))) L) : WC K (fun xs H Q => ∃ p ys, xs = [.ref p] ∧ (SqL K H p ys ∨ SqT K H p ys) ∧ Q (.int ys.length) H) [.dt (.tup ds)] L Φ := by
  intro Fr B H Q vs hc rs k
  cases rs with
  | cons a b =>
    cases b
    cases a with
    | tup hb ha => exact ⟨_, _, rfl, .inr (SqT.of (hc.seq _ _ hb)), by rw [ha.len]; exact k _ L _ B H q (Le.refl B) hc (.int _)⟩
theorem c_lenP {p : Addr} {j : Nat} {ss : List Sl} (e : L[j]? = some (p, .lst ss)) (q : Φ (.dt (.int (ss.length : Int))) L) : WC K (fun xs H Q => ∃ p ys, xs = [.ref p] ∧ (SqL K H p ys ∨ SqT K H p ys) ∧ Q (.int ys.length) H) [.pt p] L Φ := by
  intro Fr B H Q vs hc rs k
  cases rs with
  | cons a b =>
    cases b
    cases a
    obtain ⟨o, h1, ⟨xs, h2, h3⟩, _⟩ := hc.at_ e
    subst h2
    exact ⟨_, _, rfl, .inl (SqL.of h1), by rw [← h3.length]; exact k _ L _ B H q (Le.refl B) hc (.int _)⟩
theorem c_lenScr {ns : List Int} (q : Φ (.dt (.int (ns.length : Int))) L) : WC K (fun xs H Q => ∃ p ys, xs = [.ref p] ∧ (SqL K H p ys ∨ SqT K H p ys) ∧ Q (.int ys.length) H) [.dt (.scr ns)] L Φ := by
  intro Fr B H Q vs hc rs k
  cases rs with
  | cons a b =>
    cases b
    cases a with
    | scr hb => exact ⟨_, _, rfl, .inl (hc.seq.seq hb), by rw [List.length_map]; exact k _ L _ B H q (Le.refl B) hc (.int _)⟩
theorem c_listL {ds : List Dt} (q : Φ (.dt (.lst ds)) L) : WC K (fun xs H Q => ∃ p ys, xs = [.ref p] ∧ (SqL K H p ys ∨ SqT K H p ys) ∧ ∀ l, H l = none → Q (.ref l) (upd H l (.lst ys))) [.dt (.lst ds)] L Φ := by
  intro Fr B H Q vs hc rs k
  cases rs with
  | cons a b =>
    cases b
    cases a with
    | lst hb ha =>
      refine ⟨_, _, rfl, .inl (SqL.of (hc.seq _ _ hb)), fun l hl => ?_⟩
      obtain ⟨s2, hc2⟩ := hc.fix hl (.lst _)
      exact k _ L _ _ _ q s2 hc2 (.lst upd_same (RpA.mono s2 ha))
theorem c_listT {ds : List Dt} (q : Φ (.dt (.lst ds)) L) : WC K (fun xs H Q => ∃ p ys, xs = [.ref p] ∧ (SqL K H p ys ∨ SqT K H p ys) ∧ ∀ l, H l = none → Q (.ref l) (upd H l (.lst ys))) [.dt (.tup ds)] L Φ := by
  intro Fr B H Q vs hc rs k
  cases rs with
  | cons a b =>
    cases b
    cases a with
    | tup hb ha =>
      refine ⟨_, _, rfl, .inr (SqT.of (hc.seq _ _ hb)), fun l hl => ?_⟩
      obtain ⟨s2, hc2⟩ := hc.fix hl (.lst _)
      exact k _ L _ _ _ q s2 hc2 (.lst upd_same (RpA.mono s2 ha))
/-- a new list that will change -/
theorem c_listM {ds : List Dt} (q : ∀ p, Φ (.pt p) (L ++ [(p, .lst (dts ds))])) : WC K (fun xs H Q => ∃ p ys, xs = [.ref p] ∧ (SqL K H p ys ∨ SqT K H p ys) ∧ ∀ l, H l = none → Q (.ref l) (upd H l (.lst ys))) [.dt (.lst ds)] L Φ := by
  intro Fr B H Q vs hc rs k
  cases rs with
  | cons a b =>
    cases b
    cases a with
    | lst hb ha =>
      refine ⟨_, _, rfl, .inl (SqL.of (hc.seq _ _ hb)), fun l hl => ?_⟩
      exact k _ _ _ _ _ (q l) (Le.refl B) (hc.new hl (c := .lst (dts ds)) ⟨_, rfl, rp_dts ha⟩) rfl
theorem c_tupL {ds : List Dt} (q : Φ (.dt (.tup ds)) L) : WC K (fun xs H Q => ∃ p ys, xs = [.ref p] ∧ ((SqL K H p ys ∧ ∀ l, H l = none → Q (.ref l) (upd H l (.tup ys))) ∨ (SqT K H p ys ∧ Q (.ref p) H))) [.dt (.lst ds)] L Φ := by
  intro Fr B H Q vs hc rs k
  cases rs with
  | cons a b =>
    cases b
    cases a with
    | lst hb ha =>
      refine ⟨_, _, rfl, .inl ⟨SqL.of (hc.seq _ _ hb), fun l hl => ?_⟩⟩
      obtain ⟨s2, hc2⟩ := hc.fix hl (.tup _)
      exact k _ L _ _ _ q s2 hc2 (.tup upd_same (RpA.mono s2 ha))
theorem rpa_ints {B : Hp} : ∀ {ns : List Int} {vs : List V}, RpA K B vs (ns.map .int) → vs = ns.map V.int
  | [], _, h => by cases h; rfl
  | n :: ns, _, h => by
    cases h with
    | cons a b => cases a; rw [rpa_ints b]; rfl
theorem rpa_strs {B : Hp} : ∀ {ns : List Str} {vs : List V}, RpA K B vs (ns.map .str) → vs = ns.map V.str
  | [], _, h => by cases h; rfl
  | n :: ns, _, h => by
    cases h with
    | cons a b => cases a; rw [rpa_strs b]; rfl
theorem rpa_bls {B : Hp} : ∀ {ns : List Bool} {vs : List V}, RpA K B vs (ns.map .bl) → vs = ns.map V.bl
  | [], _, h => by cases h; rfl
  | n :: ns, _, h => by
    cases h with
    | cons a b => cases a; rw [rpa_bls b]; rfl
theorem ints_rpa {B : Hp} : ∀ ns : List Int, RpA K B (ns.map V.int) (ns.map .int)
  | [] => .nil
  | n :: ns => .cons (.int n) (ints_rpa ns)
theorem strs_rpa {B : Hp} : ∀ ns : List Str, RpA K B (ns.map V.str) (ns.map .str)
  | [] => .nil
  | n :: ns => .cons (.str n) (strs_rpa ns)
/-- one list of data, ints, as an argument -/
theorem one_ints {B H : Hp} {ns : List Int} {vs : List V} (s : Same B H) (h : Paired (SlR K B) [.dt (.lst (ns.map .int))] vs) : ∃ a, vs = [V.ref a] ∧ SqL K H a (ns.map V.int) := by
  cases h with
  | cons a b =>
    cases b
    cases a with
    | lst hb ha =>
      rw [rpa_ints ha] at hb
      exact ⟨_, rfl, SqL.of (s _ _ hb)⟩
theorem one_strs {B H : Hp} {ns : List Str} {vs : List V} (s : Same B H) (h : Paired (SlR K B) [.dt (.lst (ns.map .str))] vs) : ∃ a, vs = [V.ref a] ∧ SqL K H a (ns.map V.str) := by
  cases h with
  | cons a b =>
    cases b
    cases a with
    | lst hb ha =>
      rw [rpa_strs ha] at hb
      exact ⟨_, rfl, SqL.of (s _ _ hb)⟩
theorem one_bls {B H : Hp} {ns : List Bool} {vs : List V} (s : Same B H) (h : Paired (SlR K B) [.dt (.lst (ns.map .bl))] vs) : ∃ a, vs = [V.ref a] ∧ SqL K H a (ns.map V.bl) := by
  cases h with
  | cons a b =>
    cases b
    cases a with
    | lst hb ha =>
      rw [rpa_bls ha] at hb
      exact ⟨_, rfl, SqL.of (s _ _ hb)⟩
theorem c_max {ns : List Int} (h0 : 0 < ns.length) (q : ∀ m, m ∈ ns → (∀ y, y ∈ ns → y ≤ m) → Φ (.dt (.int m)) L) : WC K (rMax K) [.dt (.lst (ns.map .int))] L Φ := by
  intro Fr B H Q vs hc rs k
  obtain ⟨a, rfl, hs⟩ := one_ints hc.seq rs
  exact ⟨a, ns, rfl, hs, h0, fun m h1 h2 => k _ L _ B H (q m h1 h2) (Le.refl B) hc (.int m)⟩
theorem c_min {ns : List Int} (h0 : 0 < ns.length) (q : ∀ m, m ∈ ns → (∀ y, y ∈ ns → m ≤ y) → Φ (.dt (.int m)) L) : WC K (rMin K) [.dt (.lst (ns.map .int))] L Φ := by
  intro Fr B H Q vs hc rs k
  obtain ⟨a, rfl, hs⟩ := one_ints hc.seq rs
  exact ⟨a, ns, rfl, hs, h0, fun m h1 h2 => k _ L _ B H (q m h1 h2) (Le.refl B) hc (.int m)⟩
theorem c_sum {ns : List Int} (q : Φ (.dt (.int ns.sum)) L) : WC K (rSum K) [.dt (.lst (ns.map .int))] L Φ := by
  intro Fr B H Q vs hc rs k
  obtain ⟨a, rfl, hs⟩ := one_ints hc.seq rs
  exact ⟨a, ns, rfl, hs, k _ L _ B H q (Le.refl B) hc (.int _)⟩
theorem c_all {bs : List Bool} (q : Φ (.dt (.bl (bs.all id))) L) : WC K (rAll K) [.dt (.lst (bs.map .bl))] L Φ := by
  intro Fr B H Q vs hc rs k
  obtain ⟨a, rfl, hs⟩ := one_bls hc.seq rs
  exact ⟨a, bs, rfl, hs, k _ L _ B H q (Le.refl B) hc (.bl _)⟩
theorem c_any {bs : List Bool} (q : Φ (.dt (.bl (bs.any id))) L) : WC K (rAny K) [.dt (.lst (bs.map .bl))] L Φ := by
  intro Fr B H Q vs hc rs k
  obtain ⟨a, rfl, hs⟩ := one_bls hc.seq rs
  exact ⟨a, bs, rfl, hs, k _ L _ B H q (Le.refl B) hc (.bl _)⟩
theorem c_sorted {ns : List Int} (hl : ns.length < 64) (q : ∀ ns' : List Int, ns'.Perm ns → ns'.Pairwise (· ≤ ·) → Φ (.dt (.lst (ns'.map .int))) L) : WC K (rSorted K) [.dt (.lst (ns.map .int))] L Φ := by
  intro Fr B H Q vs hc rs k
  obtain ⟨a, rfl, hs⟩ := one_ints hc.seq rs
  refine ⟨a, ns, rfl, hs, hl, fun ns' p h1 h2 hp => ?_⟩
  obtain ⟨s2, hc2⟩ := hc.fix hp (.lst (ns'.map V.int))
  exact k _ L _ _ _ (q ns' h1 h2) s2 hc2 (.lst upd_same (ints_rpa ns'))
theorem c_sortedS {ns : List Str} (hl : ns.length < 64) (q : ∀ ns' : List Str, ns'.Perm ns → sortedS ns' = true → Φ (.dt (.lst (ns'.map .str))) L) : WC K (rSortedS K) [.dt (.lst (ns.map .str))] L Φ := by
  intro Fr B H Q vs hc rs k
  obtain ⟨a, rfl, hs⟩ := one_strs hc.seq rs
  refine ⟨a, ns, rfl, hs, hl, fun ns' p h1 h2 hp => ?_⟩
  obtain ⟨s2, hc2⟩ := hc.fix hp (.lst (ns'.map V.str))
  exact k _ L _ _ _ (q ns' h1 h2) s2 hc2 (.lst upd_same (strs_rpa ns'))
/-! ### in, not in: flat things -/
def flatD : Dt → Bool
  | .non => true
  | .bl _ => true
  | .int _ => true
  | .str _ => true
  | _ => false
theorem inV_str (z : Str) : ∀ zs : List Str, inV (.str z) (zs.map V.str) = decide (z ∈ zs)
  | [] => by simp [inV]
  | w :: ws => by
    have ih := inV_str z ws
    unfold inV at ih ⊢
    rw [List.map_cons, List.any_cons, ih]
    show ((w == z) || decide (z ∈ ws)) = decide (z ∈ w :: ws)
    by_cases e : w = z
    · subst e; simp
    · have e2 : (w == z) = false := by simpa using e
      rw [e2, Bool.false_or]
      refine dec_iff ⟨fun h => List.mem_cons_of_mem _ h, fun h => ?_⟩
      rcases List.mem_cons.mp h with h | h
      · exact absurd h.symm e
      · exact h
theorem inV_int (z : Int) : ∀ zs : List Int, inV (.int z) (zs.map V.int) = decide (z ∈ zs)
  | [] => by simp [inV]
  | w :: ws => by
    have ih := inV_int z ws
    unfold inV at ih ⊢
    rw [List.map_cons, List.any_cons, ih]
    show ((w == z) || decide (z ∈ ws)) = decide (z ∈ w :: ws)
    by_cases e : w = z
    · subst e; simp
    · have e2 : (w == z) = false := by simpa using e
      rw [e2, Bool.false_or]
      refine dec_iff ⟨fun h => List.mem_cons_of_mem _ h, fun h => ?_⟩
      rcases List.mem_cons.mp h with h | h
      · exact absurd h.symm e
      · exact h
theorem r_inStr {neg : Bool} {z : Str} {zs : List Str} (q : Φ (.dt (.bl (if neg then !decide (z ∈ zs) else decide (z ∈ zs)))) L) : WR K (rIn K neg) (.dt (.str z)) (.dt (.lst (zs.map .str))) L Φ := by
  intro Fr B H Q v u hc rx ry k
  obtain ⟨a, e, hs⟩ := one_strs (ns := zs) (vs := [u]) hc.seq (.cons ry .nil)
  cases e
  cases rx
  refine ⟨a, _, rfl, .inl hs, rfl, by rw [List.all_map]; exact List.all_eq_true.mpr fun _ _ => rfl, ?_⟩
  rw [inV_str]
  exact k _ L _ B H q (Le.refl B) hc (.bl _)
theorem r_inInt {neg : Bool} {z : Int} {zs : List Int} (q : Φ (.dt (.bl (if neg then !decide (z ∈ zs) else decide (z ∈ zs)))) L) : WR K (rIn K neg) (.dt (.int z)) (.dt (.lst (zs.map .int))) L Φ := by
  intro Fr B H Q v u hc rx ry k
  obtain ⟨a, e, hs⟩ := one_ints (ns := zs) (vs := [u]) hc.seq (.cons ry .nil)
  cases e
  cases rx
  refine ⟨a, _, rfl, .inl hs, rfl, by rw [List.all_map]; exact List.all_eq_true.mpr fun _ _ => rfl, ?_⟩
  rw [inV_int]
  exact k _ L _ B H q (Le.refl B) hc (.bl _)
theorem sl_strs {B : Hp} : ∀ {zs : List Str} {vs : List V}, Paired (SlR K B) (dts (zs.map .str)) vs → vs = zs.map V.str := fun h => rpa_strs (dts_rp h)
theorem sl_ints {B : Hp} : ∀ {zs : List Int} {vs : List V}, Paired (SlR K B) (dts (zs.map .int)) vs → vs = zs.map V.int := fun h => rpa_ints (dts_rp h)
/-- in a changing list -/
theorem r_inStrP {neg : Bool} {p : Addr} {j : Nat} {z : Str} {zs : List Str} (e : L[j]? = some (p, .lst (dts (zs.map .str)))) (q : Φ (.dt (.bl (if neg then !decide (z ∈ zs) else decide (z ∈ zs)))) L) : WR K (rIn K neg) (.dt (.str z)) (.pt p) L Φ := by
  intro Fr B H Q v u hc rx ry k
  cases ry
  cases rx
  obtain ⟨o, h1, ⟨xs, h2, h3⟩, _⟩ := hc.at_ e
  subst h2
  rw [sl_strs h3] at h1
  refine ⟨p, _, rfl, .inl (SqL.of h1), rfl, by rw [List.all_map]; exact List.all_eq_true.mpr fun _ _ => rfl, ?_⟩
  rw [inV_str]
  exact k _ L _ B H q (Le.refl B) hc (.bl _)
theorem r_inIntP {neg : Bool} {p : Addr} {j : Nat} {z : Int} {zs : List Int} (e : L[j]? = some (p, .lst (dts (zs.map .int)))) (q : Φ (.dt (.bl (if neg then !decide (z ∈ zs) else decide (z ∈ zs)))) L) : WR K (rIn K neg) (.dt (.int z)) (.pt p) L Φ := by
  intro Fr B H Q v u hc rx ry k
  cases ry
  cases rx
  obtain ⟨o, h1, ⟨xs, h2, h3⟩, _⟩ := hc.at_ e
  subst h2
  rw [sl_ints h3] at h1
  refine ⟨p, _, rfl, .inl (SqL.of h1), rfl, by rw [List.all_map]; exact List.all_eq_true.mpr fun _ _ => rfl, ?_⟩
  rw [inV_int]
  exact k _ L _ B H q (Le.refl B) hc (.bl _)
/-! ### lists put together, slices -/
theorem r_cat {ds es : List Dt} (hl : ds.length + es.length ≤ 1000000) (q : Φ (.dt (.lst (ds ++ es))) L) : WR K rCat (.dt (.lst ds)) (.dt (.lst es)) L Φ := by
  intro Fr B H Q v u hc rx ry k
  cases rx with
  | lst hb ha =>
    cases ry with
    | lst hb2 ha2 =>
      refine ⟨_, _, _, _, rfl, rfl, hc.seq _ _ hb, hc.seq _ _ hb2, sz (by rw [ha.len, ha2.len]; exact hl), fun p hp => ?_⟩
      obtain ⟨s2, hc2⟩ := hc.fix hp (.lst _)
      exact k _ L _ _ _ q s2 hc2 (.lst upd_same (RpA.mono s2 (RpA.of (papp ha.paired ha2.paired))))
/-- .. into a list that will change -/
theorem r_catM {ds es : List Dt} (hl : ds.length + es.length ≤ 1000000) (q : ∀ p, Φ (.pt p) (L ++ [(p, .lst (dts (ds ++ es)))])) : WR K rCat (.dt (.lst ds)) (.dt (.lst es)) L Φ := by
  intro Fr B H Q v u hc rx ry k
  cases rx with
  | lst hb ha =>
    cases ry with
    | lst hb2 ha2 =>
      refine ⟨_, _, _, _, rfl, rfl, hc.seq _ _ hb, hc.seq _ _ hb2, sz (by rw [ha.len, ha2.len]; exact hl), fun p hp => ?_⟩
      exact k _ _ _ _ _ (q p) (Le.refl B) (hc.new hp (c := .lst (dts (ds ++ es))) ⟨_, rfl, rp_dts (RpA.of (papp ha.paired ha2.paired))⟩) rfl
theorem r_catPD {ds : List Sl} {es : List Dt} {p : Addr} {j : Nat} (e : L[j]? = some (p, .lst ds)) (hl : ds.length + es.length ≤ 1000000) (q : ∀ p, Φ (.pt p) (L ++ [(p, .lst (ds ++ dts es))])) : WR K rCat (.pt p) (.dt (.lst es)) L Φ := by
  intro Fr B H Q v u hc rx ry k
  cases rx
  obtain ⟨o, h1, ⟨xs, h2, h3⟩, _⟩ := hc.at_ e
  subst h2
  cases ry with
  | lst hb2 ha2 =>
    refine ⟨_, _, _, _, rfl, rfl, h1, hc.seq _ _ hb2, sz (by rw [← h3.length, ha2.len]; exact hl), fun p hp => ?_⟩
    exact k _ _ _ _ _ (q p) (Le.refl B) (hc.new hp (c := .lst (ds ++ dts es)) ⟨_, rfl, papp h3 (rp_dts ha2)⟩) rfl
def WO (K : PySem.W.Frag) (to : TO) (ρ : List Sl) (L : Chs) (Φ : Option Int → Chs → Prop) : Prop :=
  ∀ (Fr : List (Addr × HO)) (B : Hp) (σ : L2.St) (H : Hp) (Q : Option Int → Hp → Prop), EnR K B ρ σ → Hc K B L Fr H → (∀ o L' B' H', Φ o L' → Le B B' → Hc K B' L' Fr H' → Q o H') → to σ H Q
theorem wo_none {Φ : Option Int → Chs → Prop} (q : Φ none L) : WO K tNoPart ρ L Φ := fun _ B _ H _ _ hc k => k none L B H q (Le.refl B) hc
theorem wo_some {Φ : Option Int → Chs → Prop} (h : WE K te ρ L fun r L1 => ∃ i, r = .dt (.int i) ∧ Φ (some i) L1) : WO K (tPart te) ρ L Φ := by
  intro Fr B σ H Q he hc k
  refine h Fr B σ H _ he hc fun x L1 v B1 H1 h1 s1 hc1 r1 => ?_
  obtain ⟨i, e, q⟩ := h1
  subst e
  cases r1
  exact ⟨i, rfl, k _ L1 B1 H1 q s1 hc1⟩
def WL (K : PySem.W.Frag) (r : V → Option Int → Option Int → Hp → VK → Prop) (x : Sl) (lo hi : Option Int) (L : Chs) (Φ : Pd) : Prop :=
  ∀ (Fr : List (Addr × HO)) (B : Hp) (H : Hp) (Q : VK) (v : V), Hc K B L Fr H → SlR K B x v → (∀ r L' v B' H', Φ r L' → Le B B' → Hc K B' L' Fr H' → SlR K B' r v → Q v H') → r v lo hi H Q
theorem w_sl {f : V → Option Int → Option Int → Hp → VK → Prop} {t1 t2 : TO} (h : WE K te ρ L fun x L1 => WO K t1 ρ L1 fun lo L2 => WO K t2 ρ L2 fun hi L3 => WL K f x lo hi L3 Φ) : WE K (tSl f te t1 t2) ρ L Φ := by
  intro Fr B σ H Q he hc k
  refine h Fr B σ H _ he hc fun x L1 v B1 H1 h1 s1 hc1 r1 => ?_
  refine h1 Fr B1 σ H1 _ (he.mono s1) hc1 fun lo L2 B2 H2 h2 s2 hc2 => ?_
  refine h2 Fr B2 σ H2 _ ((he.mono s1).mono s2) hc2 fun hi L3 B3 H3 h3 s3 hc3 => ?_
  exact h3 Fr B3 H3 Q v hc3 (r1.mono (s2.trans s3)) fun r L' v B' H' a b c d => k r L' v B' H' a (((s1.trans s2).trans s3).trans b) c d
def cutG {α : Type} (xs : List α) (lo hi : Option Int) : List α := (xs.drop (HT.sIx xs.length 0 lo)).take (HT.sIx xs.length xs.length hi - HT.sIx xs.length 0 lo)
theorem cut_rel {α β : Type} {F : α → β → Prop} {l : List α} {m : List β} (h : Paired F l m) (lo hi : Option Int) : Paired F (cutG l lo hi) (cutG m lo hi) := by
  unfold cutG
  rw [h.length]
  exact ptake _ (pdrop _ h)
theorem l_list {ds : List Dt} {lo hi : Option Int} (q : Φ (.dt (.lst (cutG ds lo hi))) L) : WL K (rSlL K) (.dt (.lst ds)) lo hi L Φ := by
  intro Fr B H Q v hc rx k
  cases rx with
  | lst hb ha =>
    refine ⟨_, _, rfl, SqL.of (hc.seq _ _ hb), fun p hp => ?_⟩
    obtain ⟨s2, hc2⟩ := hc.fix hp (.lst (cutV _ lo hi))
    exact k _ L _ _ _ q s2 hc2 (.lst upd_same (RpA.mono s2 (RpA.of (cut_rel ha.paired lo hi))))
theorem l_scr {ns : List Int} {lo hi : Option Int} (q : Φ (.dt (.lst ((cutG ns lo hi).map .int))) L) : WL K (rSlL K) (.dt (.scr ns)) lo hi L Φ := by
  intro Fr B H Q v hc rx k
  cases rx with
  | scr hb =>
    refine ⟨_, _, rfl, hc.seq.seq hb, fun p hp => ?_⟩
    have e : cutV (ns.map V.int) lo hi = (cutG ns lo hi).map V.int := by
      show cutG (ns.map V.int) lo hi = _
      unfold cutG
      rw [List.length_map, List.map_take, List.map_drop]
    rw [e]
    obtain ⟨s2, hc2⟩ := hc.fix hp (.lst ((cutG ns lo hi).map V.int))
    exact k _ L _ _ _ q s2 hc2 (.lst upd_same (ints_rpa _))
theorem l_listP {p : Addr} {j : Nat} {ds : List Dt} {lo hi : Option Int} (e : L[j]? = some (p, .lst (dts ds))) (q : Φ (.dt (.lst (cutG ds lo hi))) L) : WL K (rSlL K) (.pt p) lo hi L Φ := by
  intro Fr B H Q v hc rx k
  cases rx
  obtain ⟨o, h1, ⟨xs, h2, h3⟩, _⟩ := hc.at_ e
  subst h2
  refine ⟨_, _, rfl, SqL.of h1, fun p hp => ?_⟩
  obtain ⟨s2, hc2⟩ := hc.fix hp (.lst (cutV _ lo hi))
  exact k _ L _ _ _ q s2 hc2 (.lst upd_same (RpA.mono s2 (RpA.of (cut_rel (dts_rp h3).paired lo hi))))
theorem l_str {z : Str} {lo hi : Option Int} (hz : z.length ≤ 1000000) (q : Φ (.dt (.str (cutS z lo hi))) L) : WL K rSlS (.dt (.str z)) lo hi L Φ := by
  intro Fr B H Q v hc rx k
  cases rx
  exact ⟨z, rfl, sz hz, k _ L _ B H q (Le.refl B) hc (.str _)⟩
/-! ### join -/
theorem w_join (h : WE K ta ρ L fun x L1 => ∃ a, x = .dt (.str a) ∧ WE K tb ρ L1 fun y L2 => ∃ ys : List Str, y = .dt (.lst (ys.map .str)) ∧ (ys.map (·.length)).sum + ys.length * a.length ≤ 16777216 ∧ Φ (.dt (.str (Txt.join a ys))) L2) :
    WE K (tM1 (fun x xs H Q => ∃ a p, ∃ ys : List Str, x = .str a ∧ xs = [.ref p] ∧ (SqL K H p (ys.map V.str) ∨ SqT K H p (ys.map V.str)) ∧ (ys.map (·.length)).sum + ys.length * a.length ≤ 16777216 ∧ Q (.str (Txt.join a ys)) H) ta tb) ρ L Φ := by
  intro Fr B σ H Q he hc k
  refine h Fr B σ H _ he hc fun x L1 v B1 H1 h1 s1 hc1 r1 => ?_
  obtain ⟨a, e, h1⟩ := h1
  subst e
  cases r1
  refine ⟨⟨a, rfl⟩, ?_⟩
  refine h1 Fr B1 σ H1 _ (he.mono s1) hc1 fun y L2 u B2 H2 h2 s2 hc2 r2 => ?_
  obtain ⟨ys, e, hl, q⟩ := h2
  subst e
  obtain ⟨p, e, hs⟩ := one_strs (ns := ys) (vs := [u]) hc2.seq (.cons r2 .nil)
  cases e
  exact ⟨a, p, ys, rfl, rfl, .inl hs, hl, k _ L2 _ B2 H2 q (s1.trans s2) hc2 (.str _)⟩
end
end Sx
namespace Sx
open PySem PySem.Spec PyProof.Rows L2
/-! ### defs by their names -/
/-- a def of the text that the module's name x holds -/
def Df (K : PySem.W.Frag) (mg : Str → Option Value) (x : Str) (st : Stmt) : Prop := ∃ f fd, FunD K x x (defArgs st) (defBody st) (defScope st) [] [] f fd ∧ mg x = some (.ref f)
def KI (K : PySem.W.Frag) (f : Addr) (fd : FuncData) : Prop := PySem.W.keepIn K (.ref f) = true ∧ ∃ oc od osl, K.lookup f = some ⟨oc, od, .func fd, osl⟩
/-- .. and what it promises -/
def Kp (P : Program) (w : World) (K : PySem.W.Frag) (mg : Str → Option Value) (base : Heap) (k : Nat) (x : Str) (ps : List Str) (F : List Sl → Chs → Pd → Prop) : Prop :=
  ∃ f fd, mg x = some (.ref f) ∧ KI K f fd ∧ Binds K fd ps [] ∧ FnOk P w K mg base CX0 k f fd ps (SpD K F)
theorem FunD.ki {K : PySem.W.Frag} {x qual : Str} {params : Arguments} {body : List Stmt} {scope : Scope} {dvs : List V} {kws : List (Str × V)} {f : Addr} {fd : FuncData} (F : FunD K x qual params body scope dvs kws f fd) : KI K f fd := by
  obtain ⟨oc, od, dV, kV, doc, pm, an, cdv, ct, osl, rfl, lk, _, _, _⟩ := F.ex
  exact ⟨F.kp, oc, od, osl, lk⟩
theorem KI.same {K : PySem.W.Frag} {f : Addr} {fd fd' : FuncData} (a : KI K f fd) (b : KI K f fd') : fd = fd' := by
  obtain ⟨_, _, _, _, h1⟩ := a
  obtain ⟨_, _, _, _, h2⟩ := b
  rw [h1] at h2
  injection h2 with h3
  injection h3 with _ _ h4 _
  injection h4
section
variable {P : Program} {w : World} {K : PySem.W.Frag} {mg : Str → Option Value} {base : Heap} {k : Nat} {x : Str} {ps N : List Str} {F : List Sl → Chs → Pd → Prop} {st : Stmt}
theorem kp_of (D : Df K mg x st) (S : FnScope N ps (defScope st))
    (hb : ∀ (kV doc pm : Value) (an : Option Addr) (cdv ct : Value) (us : List Value), us.length = ps.length → bindArgs (PySem.W.fnOf x x (defArgs st) (defBody st) (defScope st) .none kV doc pm an cdv ct) ⟨us, []⟩ = pure (ps.zip us))
    (hlen : ∀ ss L Φ, F ss L Φ → ss.length = ps.length)
    (body : ∀ (f : Addr) (cdv : Value) (A : Around) (outer : List Env) (s : Shared) (H : Hp) (E : XK), Room k (A.deeper (envOfC x (defScope st) s.heap.objs.size f cdv)) →
      ∃ t, PSs (cxOf CX0 P w K mg base N x (defScope st) f cdv A outer s H E).nox (defBody st) t ∧ ∀ ss L Φ, F ss L Φ → WS K t { nx := fun _ L' => Φ (.dt .non) L', rt := Φ } (st2 N ss) L) : Kp P w K mg base (k + 1) x ps F := by
  obtain ⟨f, fd, FD, hm⟩ := D
  refine ⟨f, fd, hm, FunD.ki FD, FD.bindsN hb, FD.ok S (sp_len hlen) fun cdv A outer s H vs Q E hr hsp => ?_⟩
  obtain ⟨t, h, q⟩ := body f cdv A outer s H E hr
  exact ⟨t, h.nox, sp_body hsp q⟩
theorem Kp.mono {j : Nat} (G : Kp P w K mg base j x ps F) (h : j ≤ k) : Kp P w K mg base k x ps F := by
  obtain ⟨f, fd, a, b, c, d⟩ := G
  exact ⟨f, fd, a, b, c, d.mono h⟩
theorem Kp.imp {F' : List Sl → Chs → Pd → Prop} (G : Kp P w K mg base k x ps F) (h : ∀ ss L Φ, F' ss L Φ → F ss L Φ) : Kp P w K mg base k x ps F' := by
  obtain ⟨f, fd, a, b, c, d⟩ := G
  exact ⟨f, fd, a, b, c, d.imp fun vs H Q E ⟨B, Fr, ss, L, Φ, r, hc, hF, kk⟩ => ⟨B, Fr, ss, L, Φ, r, hc, h _ _ _ hF, kk⟩⟩
end
section
variable {X : Cx} {j k : Nat} {x : Str} {ps : List Str} {F : List Sl → Chs → Pd → Prop} {e : Expr} {es : List Expr} {t tk : TA} {p pos : Pos} {kws : List Keyword}
theorem pe_kp (G : Kp X.prog X.w X.K X.mg X.base j x ps F) (hr : Room k X.A) (hj : j ≤ k) (ha : PA X (e :: es) t) (hg : Gl X x := by rfl) (hdb : (x == ("__debug__" : Str)) = false := by decide)
    (he : starEach (e :: es) X.env = (false, eval e X.env) :: starEach es X.env := by rfl) (hpl : (backTo pos (starEach es X.env)).any (·.1) = false := by rfl) : PE X (.Call (.Name x p) (e :: es) [] pos) (tCall (SpD X.K F) [] E0 t) := by
  obtain ⟨f, fd, hm, hk, hb, F1⟩ := G
  exact pe_call F1 (hr.mono hj) hg hm hk.1 hb .nil pass0 ha hdb he hpl
theorem pe_kp0 (G : Kp X.prog X.w X.K X.mg X.base j x ps F) (hr : Room k X.A) (hj : j ≤ k) (hg : Gl X x := by rfl) (hdb : (x == ("__debug__" : Str)) = false := by decide) : PE X (.Call (.Name x p) [] [] pos) (tCall (SpD X.K F) [] E0 tNil) := by
  obtain ⟨f, fd, hm, hk, hb, F1⟩ := G
  exact pe_call0 F1 (hr.mono hj) hg hm hk.1 hb .nil pass0 hdb
end
/-- f(e, .., k = v, ..): n positional values -/
def Kk (P : Program) (w : World) (K : PySem.W.Frag) (mg : Str → Option Value) (base : Heap) (k : Nat) (x : Str) (ps : List Str) (F : List Sl → Chs → Pd → Prop) (n : Nat) (ks : List Str) (gV : List V → List V → List V) : Prop :=
  ∃ f fd g, mg x = some (.ref f) ∧ PySem.W.keepIn K (.ref f) = true ∧ KBn K fd ps n ks g gV ∧ FnOk P w K mg base CX0 k f fd ps (SpD K F)
def tCallKn (n m : Nat) (sp : Sp) (gV : List V → List V → List V) (t tk : TA) : TE := fun σ H Q => t σ H fun vs H1 => tk σ H1 fun zs H2 => vs.length = n ∧ zs.length = m ∧ sp (gV vs zs) H2 Q E0
section
variable {X : Cx} {j k n : Nat} {x : Str} {ps ks : List Str} {F : List Sl → Chs → Pd → Prop} {e : Expr} {es : List Expr} {t tk : TA} {p pos : Pos} {kws : List Keyword} {gV : List V → List V → List V}
theorem run_kn {fd : FuncData} {f : Addr} {g : List Value → List Value → List Value} {pins : List (Addr × Obj)} {σ : L2.St} {H : Hp} {s : Shared} {Q : VK} {us ws : List Value} {vs zs : List V} {sp : Sp} (F1 : FnOk X.prog X.w X.K X.mg X.base CX0 k f fd ps sp) (hr : Room k X.A) (hb : KBn X.K fd ps n ks g gV)
    (I : Inv X pins σ H s) (r : Vals vs us) (rz : Vals zs ws) (l1 : vs.length = n) (l2 : zs.length = ks.length) (h : sp (gV vs zs) H Q E0) : wpAny (model X.prog X.w) X.A (call (.ref f) us (ks.zip ws)) (EP X pins σ Q) X.xe s := by
  have r2 := hb.rel r rz
  refine wpAny_call (codeAny_mono (F1.run X.A X.stack s H ⟨us, ks.zip ws⟩ (g us ws) (gV vs zs) Q E0 hr I.env0 (hb.to s us ws I.kIn (r.length.symm.trans l1) (rz.length.symm.trans l2)) r2 h) fun r s' hq => ?_)
  cases r with
  | error e => exact (show False from hq).elim
  | ok fl =>
    cases fl with
    | ret u => exact I.after hq
    | next => exact False.elim hq
    | brk => exact False.elim hq
    | cont => exact False.elim hq
theorem pe_kk0 (G : Kk X.prog X.w X.K X.mg X.base j x ps F 0 ks gV) (hr : Room k X.A) (hj : j ≤ k) (hkw : PK X kws tk) (hg : Gl X x := by rfl) (hall : (backToKw pos (keywordEach kws X.env)).all (·.1.isSome) = true := by rfl) (hks : (backToKw pos (keywordEach kws X.env)).filterMap (·.1) = ks := by rfl)
    (hdb : (x == ("__debug__" : Str)) = false := by decide) (hpl : ((backTo pos (starEach [] X.env)).any (·.1) || (backToKw pos (keywordEach kws X.env)).any (·.1.isNone)) = false := by rfl) :
    PE X (.Call (.Name x p) [] kws pos) (tCallKn 0 ks.length (SpD X.K F) gV tNil tk) := by
  obtain ⟨f, fd, g, hm, hk, hb, F1⟩ := G
  refine ⟨fun pins s σ H Q I h => ?_⟩
  refine wpAny_Call_Name_kw (ld_glob I hg hm ?_ hdb)
  refine PySem.W.callWith_KW0 (h₀ := X.base) I.ok.mod.kin hk hall ?_ hpl
  refine thn (hkw.run pos pins s σ H _ I h) fun ws s2 ⟨zs, H2, I2, rz, l1, l2, q2⟩ => ⟨I2.kIn, ?_⟩
  rw [hks]
  exact run_kn (us := []) (vs := []) F1 (hr.mono hj) hb I2 .nil rz rfl l2 q2
theorem pe_kk (G : Kk X.prog X.w X.K X.mg X.base j x ps F n ks gV) (hr : Room k X.A) (hj : j ≤ k) (ha : PA X (e :: es) t) (hkw : PK X kws tk) (hg : Gl X x := by rfl) (hall : (backToKw pos (keywordEach kws X.env)).all (·.1.isSome) = true := by rfl)
    (hks : (backToKw pos (keywordEach kws X.env)).filterMap (·.1) = ks := by rfl) (hdb : (x == ("__debug__" : Str)) = false := by decide) (he : starEach (e :: es) X.env = (false, eval e X.env) :: starEach es X.env := by rfl)
    (hpl : ((backTo pos (starEach (e :: es) X.env)).any (·.1) || (backToKw pos (keywordEach kws X.env)).any (·.1.isNone)) = false := by rfl) :
    PE X (.Call (.Name x p) (e :: es) kws pos) (tCallKn n ks.length (SpD X.K F) gV t tk) := by
  obtain ⟨f, fd, g, hm, hk, hb, F1⟩ := G
  refine ⟨fun pins s σ H Q I h => ?_⟩
  refine wpAny_Call_Name_kw (ld_glob I hg hm ?_ hdb)
  refine PySem.W.callWith_KW (h₀ := X.base) I.ok.mod.kin hk hall (thn (ha.run pos pins s σ H _ I h) fun us s1 ⟨vs, H1, I1, r, q⟩ => ?_) hpl he
  refine thn (hkw.run pos pins s1 σ H1 _ I1 q) fun ws s2 ⟨zs, H2, I2, rz, l1, l2, q2⟩ => ⟨I2.kIn, ?_⟩
  rw [hks]
  exact run_kn F1 (hr.mono hj) hb I2 r rz l1 l2 q2
end
section
variable {K : PySem.W.Frag} {ρ : List Sl} {L : Chs} {Φ : Pd} {te ta tb tc tl to : TE} {t u : TS} {D : En2} {r : R2} {tt tt2 : TT} {aa kk : TA}
theorem w_callKn {n m : Nat} {F : List Sl → Chs → Pd → Prop} {gV : List V → List V → List V} {gS : List Sl → List Sl → List Sl} (c : Nat)
    (hg : ∀ (B : Hp) (xs ys : List Sl) (vs us : List V), Paired (SlR K B) xs vs → Paired (SlR K B) ys us → Paired (SlR K B) (gS xs ys) (gV vs us))
    (h : WA K aa ρ L fun xs L1 => WA K kk ρ L1 fun ys L2 => xs.length = n ∧ ys.length = m ∧ F (gS xs ys) (L2.take c) fun r M => Φ r (M ++ L2.drop c)) : WE K (tCallKn n m (SpD K F) gV aa kk) ρ L Φ := by
  intro Fr B σ H Q he hc k
  refine h Fr B σ H _ he hc fun xs L1 vs B1 H1 h1 s1 hc1 r1 => ?_
  refine h1 Fr B1 σ H1 _ (he.mono s1) hc1 fun ys L2 us B2 H2 h2 s2 hc2 r2 => ?_
  have hc3 : Hc K B2 (L2.take c ++ L2.drop c) Fr H2 := by rw [List.take_append_drop]; exact hc2
  obtain ⟨h3, p3, hc4⟩ := hc3.aside
  refine ⟨r1.length ▸ h2.1, r2.length ▸ h2.2.1, B2, h3 ++ Fr, gS xs ys, L2.take c, _, hg B2 xs ys vs us (Paired.mapP r1 fun _ _ q => q.mono s2) r2, hc4, h2.2.2, fun r L' v B' H' a b c d => ?_⟩
  exact k r _ v B' H' a ((s1.trans s2).trans b) (Hc.again c (chs_mono b p3)) d
/-! ### == of data -/
mutual
/-- without dicts and objects -/
def toP : Dt → Option PyData
  | .non => some .none
  | .bl b => some (.bool b)
  | .int i => some (.int i)
  | .str x => some (.str x)
  | .lst ds => (toPs ds).map .list
  | .tup ds => (toPs ds).map .tuple
  | _ => none
def toPs : List Dt → Option (List PyData)
  | [] => some []
  | d :: ds => match toP d, toPs ds with
    | some a, some b => some (a :: b)
    | _, _ => none
end
mutual
theorem rp_dp {B H : Hp} (s : Same B H) : ∀ {d : Dt} {v : V} {e : PyData}, toP d = some e → Rp K B v d → Dp K H v e
  | .non, _, _, h, r => by cases h; cases r; exact .non
  | .bl b, _, _, h, r => by cases h; cases r; exact .bl b
  | .int i, _, _, h, r => by cases h; cases r; exact .int i
  | .str x, _, _, h, r => by cases h; cases r; exact .str x
  | .lst ds, _, e, h, r => by
    unfold toP at h
    cases q : toPs ds with
    | none => rw [q] at h; cases h
    | some es =>
      rw [q] at h
      cases h
      cases r with
      | lst hb ha => exact .lst (SqL.of (s _ _ hb)) (rp_dpA s q ha)
  | .tup ds, _, e, h, r => by
    unfold toP at h
    cases q : toPs ds with
    | none => rw [q] at h; cases h
    | some es =>
      rw [q] at h
      cases h
      cases r with
      | tup hb ha => exact .tup (SqT.of (s _ _ hb)) (rp_dpA s q ha)
  | .dic _, _, _, h, _ => by cases h
  | .dit _, _, _, h, _ => by cases h
  | .ins _ _, _, _, h, _ => by cases h
  | .scr _, _, _, h, _ => by cases h
  | .ty _, _, _, h, _ => by cases h
theorem rp_dpA {B H : Hp} (s : Same B H) : ∀ {ds : List Dt} {vs : List V} {es : List PyData}, toPs ds = some es → RpA K B vs ds → DpAll K H vs es
  | [], _, _, h, r => by cases h; cases r; exact .nil
  | d :: ds, _, es, h, r => by
    unfold toPs at h
    cases q : toP d with
    | none => rw [q] at h; cases h
    | some e1 =>
      rw [q] at h
      cases q2 : toPs ds with
      | none => rw [q2] at h; cases h
      | some e2 =>
        rw [q2] at h
        cases h
        cases r with
        | cons a b => exact .cons (rp_dp s q a) (rp_dpA s q2 b)
end
theorem r_eqD {d e : Dt} {a b : PyData} (h1 : toP d = some a) (h2 : toP e = some b) (s1 : SeqAt.shaped a = true) (s2 : SeqAt.shaped b = true) (q : Φ (.dt (.bl (PyData.eqv a b))) L) : WR K (rEqD K) (.dt d) (.dt e) L Φ := by
  intro Fr B H Q v u hc rx ry k
  exact ⟨a, b, rp_dp hc.seq h1 rx, rp_dp hc.seq h2 ry, s1, s2, k _ L _ B H q (Le.refl B) hc (.bl _)⟩
theorem r_neD {d e : Dt} {a b : PyData} (h1 : toP d = some a) (h2 : toP e = some b) (s1 : SeqAt.shaped a = true) (s2 : SeqAt.shaped b = true) (q : Φ (.dt (.bl (!PyData.eqv a b))) L) : WR K (rNeD K) (.dt d) (.dt e) L Φ := by
  intro Fr B H Q v u hc rx ry k
  exact ⟨a, b, rp_dp hc.seq h1 rx, rp_dp hc.seq h2 ry, s1, s2, k _ L _ B H q (Le.refl B) hc (.bl _)⟩
/-! ### isinstance of flat and plain things, built-in types -/
def tyD : Dt → Option String
  | .non => some "NoneType"
  | .bl _ => some "bool"
  | .int _ => some "int"
  | .str _ => some "str"
  | .lst _ => some "list"
  | .tup _ => some "tuple"
  | .dic _ => some "dict"
  | .scr _ => none
  | _ => none
theorem tyD_ok {B H : Hp} {d : Dt} {v : V} {n : String} (s : Same B H) (h : tyD d = some n) (r : Rp K B v d) : TyX K H v (.type n) := by
  cases r with
  | non => cases h; exact .base .non
  | bl b => cases h; exact .base (.bl b)
  | int i => cases h; exact .base (.int i)
  | str x => cases h; exact .base (.str x)
  | lst hb ha => cases h; exact .base (.lst (s _ _ hb))
  | tup hb ha => cases h; exact .base (.tup (s _ _ hb))
  | dic hb _ _ =>
    cases h
    rcases hb with hb | ⟨ob, hb⟩
    · exact .base (.dK (s _ _ hb))
    · exact .fDict (s _ _ hb)
  | dit _ _ _ => cases h
  | ins _ _ _ => cases h
  | scr _ => cases h
  | ty _ => cases h
theorem w_ty {n : String} (q : Φ (.dt (.ty n)) L) : WE K (tC (.ty n)) ρ L Φ := fun _ B _ H _ _ hc k => k _ L _ B H q (Le.refl B) hc (.ty n)
theorem c_isi {d : Dt} {n T : String} {b : Bool} (h : tyD d = some n) (hb : kitB n T = some b) (q : Φ (.dt (.bl b)) L) : WC K (rIsi K) [.dt d, .dt (.ty T)] L Φ := by
  intro Fr B H Q vs hc rs k
  cases rs with
  | cons a c =>
    cases c with
    | cons c e =>
      cases e
      cases c
      exact ⟨_, _, _, _, b, rfl, .ty T, tyD_ok hc.seq h a, kit_ty hb, k _ L _ B H q (Le.refl B) hc (.bl b)⟩
end
/-- the same def called by keywords, no defaults -/
theorem kk_of {P : Program} {w : World} {K : PySem.W.Frag} {mg : Str → Option Value} {base : Heap} {k : Nat} {x : Str} {ps : List Str} {F : List Sl → Chs → Pd → Prop} {st : Stmt} (D : Df K mg x st) (G : Kp P w K mg base k x ps F) (n : Nat) (ks : List Str) (g : {α : Type} → List α → List α → List α)
    (hrel : ∀ {vs zs : List V} {us ws : List Value}, Vals vs us → Vals zs ws → Vals (g vs zs) (g us ws))
    (h : ∀ (kV doc pm : Value) (an : Option Addr) (cdv ct : Value) (us ws : List Value), us.length = n → ws.length = ks.length → bindArgs (PySem.W.fnOf x x (defArgs st) (defBody st) (defScope st) .none kV doc pm an cdv ct) ⟨us, ks.zip ws⟩ = pure (ps.zip (g us ws))) : Kk P w K mg base k x ps F n ks g := by
  obtain ⟨f, fd, FD, hm⟩ := D
  obtain ⟨f2, fd2, hm2, ki, _, ok⟩ := G
  rw [hm] at hm2
  injection hm2 with e1
  injection e1 with e2
  subst e2
  have e3 := KI.same (FunD.ki FD) ki
  subst e3
  refine ⟨f, fd, g, hm, ki.1, ⟨fun s us ws _ l1 l2 => ?_, fun r1 r2 => hrel r1 r2⟩, ok⟩
  obtain ⟨oc, od, dV, kV, doc, pm, an, cdv, ct, osl, rfl, lk, hcd, hD, hK⟩ := FD.ex
  rcases hD with ⟨_, rfl⟩ | ⟨e, _⟩
  · exact .of_eq (h kV doc pm an cdv ct us ws l1 l2)
  · exact absurd rfl e
end Sx
namespace Sx
open PySem PySem.Spec PyProof.Rows L2
section
variable {K : PySem.W.Frag} {ρ : List Sl} {L : Chs} {Φ : Pd} {te ta tb tc tl to : TE} {t u : TS} {D : En2} {r : R2} {tt tt2 : TT} {aa : TA}
/-! ### xs != [], xs == [] of a changing list of ints -/
theorem lay_ints : ∀ ns : List Int, PyData.canLayAll0 (ns.map PyData.int) = true ∧ PyData.depthAll (ns.map PyData.int) = 0
  | [] => ⟨rfl, rfl⟩
  | n :: ns => by
    obtain ⟨a, b⟩ := lay_ints ns
    exact ⟨by simp [PyData.canLayAll0, PyData.canLay0, a], by simp [PyData.depthAll, PyData.depth, b]⟩
theorem shaped_ints (ns : List Int) : SeqAt.shaped (.list (ns.map PyData.int)) = true := by
  simp [SeqAt.shaped, PyData.canLay0, PyData.depth, (lay_ints ns).1, (lay_ints ns).2]
theorem dpA_of_ints {B : Hp} : ∀ ns : List Int, DpAll K B (ns.map V.int) (ns.map PyData.int) := dpA_ints
theorem eqv_nil (ns : List Int) : PyData.eqv (.list (ns.map PyData.int)) (.list []) = ns.isEmpty := by
  cases ns with
  | nil => rfl
  | cons a b => rfl
theorem r_neNilP {p : Addr} {j : Nat} {ns : List Int} (e : L[j]? = some (p, .lst (dts (ns.map .int)))) (q : Φ (.dt (.bl (!ns.isEmpty))) L) : WR K (rNeD K) (.pt p) (.dt (.lst [])) L Φ := by
  intro Fr B H Q v u hc rx ry k
  cases rx
  obtain ⟨o, h1, ⟨xs, h2, h3⟩, _⟩ := hc.at_ e
  subst h2
  rw [sl_ints h3] at h1
  refine ⟨.list (ns.map PyData.int), .list [], .lst (SqL.of h1) (dpA_of_ints ns), ?_, shaped_ints ns, by decide, ?_⟩
  · cases ry with
    | lst hb ha => cases ha; exact .lst (SqL.of (hc.seq _ _ hb)) .nil
  · rw [eqv_nil]
    exact k _ L _ B H q (Le.refl B) hc (.bl _)
theorem r_eqNilP {p : Addr} {j : Nat} {ns : List Int} (e : L[j]? = some (p, .lst (dts (ns.map .int)))) (q : Φ (.dt (.bl ns.isEmpty)) L) : WR K (rEqD K) (.pt p) (.dt (.lst [])) L Φ := by
  intro Fr B H Q v u hc rx ry k
  cases rx
  obtain ⟨o, h1, ⟨xs, h2, h3⟩, _⟩ := hc.at_ e
  subst h2
  rw [sl_ints h3] at h1
  refine ⟨.list (ns.map PyData.int), .list [], .lst (SqL.of h1) (dpA_of_ints ns), ?_, shaped_ints ns, by decide, ?_⟩
  · cases ry with
    | lst hb ha => cases ha; exact .lst (SqL.of (hc.seq _ _ hb)) .nil
  · rw [eqv_nil]
    exact k _ L _ B H q (Le.refl B) hc (.bl _)
end
/-! ### x[::-1] of a text: only its length is told -/
def tRevT (te : TE) : TE := fun σ H Q => te σ H fun x H1 => ∃ z, x = .str z ∧ z.length ≤ sizeLine ∧ ∀ y : Str, y.length ≤ z.length → Q (.str y) H1
theorem pe_revT {X : Cx} {e : Expr} {te : TE} {k : Nat} {p1 p2 p3 pos : Pos} (he : PE X e te) : PE X (.Subscript e (.Slice none none (some (.UnaryOp .USub (.Constant (.int 1) k p1) p2)) p3) pos) (tRevT te) := by
  refine ⟨fun pins s σ H Q I h => ?_⟩
  refine Subscript_ (thn (he.run pins s σ H _ I h) fun v s1 ⟨x, H1, I1, r1, q1⟩ => ?_)
  obtain ⟨z, ex, hz, q⟩ := q1
  subst ex
  obtain ⟨tk, rfl⟩ := r1
  have step : PO X (some (.UnaryOp .USub (.Constant (.int 1) k p1) p2)) (tPart (tUn (rU fun i => .int (-i)) (tC (.int 1)))) := po_some (pe_un un_neg pe_int)
  refine wpAny_Slice (thn (po_none.run pins s1 σ H1 (fun o H2 => o = none ∧ H2 = H1) I1 ⟨rfl, rfl⟩) fun vl s2 ⟨l, H2, I2, pl, el, e2⟩ => ?_)
  subst el e2
  refine thn (po_none.run pins s2 σ H2 (fun o H3 => o = none ∧ H3 = H2) I2 ⟨rfl, rfl⟩) fun vu s3 ⟨u, H3, I3, pu, eu, e3⟩ => ?_
  subst eu e3
  refine thn (step.run pins s3 σ H3 (fun o H4 => o = some (-1) ∧ H4 = H3) I3 ⟨1, rfl, -1, rfl, rfl, rfl⟩) fun vs s4 ⟨o, H4, I4, ps, eo, e4⟩ => ?_
  subst eo e4
  obtain ⟨l0, rfl, el⟩ := IsPart.raw pl
  obtain ⟨u0, rfl, eu⟩ := IsPart.raw pu
  obtain ⟨k0, rfl, ek⟩ := IsPart.raw ps
  have I5 : L2.Inv X pins σ H4 { s4 with heap := s4.heap.push { cls := .type "slice", data := .fields #[partValue l0, partValue u0, partValue k0] } } := I4.kept (t' := s4.toks) fun b ob g => Heap.get?_push_of_some _ g
  have hk : k0.map (·.1) = some (-1) := ek
  show wpAny (model X.prog X.w) X.A (subscriptTail e (.Slice none none (some (.UnaryOp .USub (.Constant (.int 1) k p1) p2)) p3) (.str z tk) (.ref s4.heap.objs.size)) (EP X pins σ Q) X.xe _
  refine tail_any (T := "str") (ops := [.ref s4.heap.objs.size, .str z tk]) (typeIs_str _ _ _) (F.slot_str_getitem.lookup) ?_ (by with_unfolding_all rfl)
  refine wpAny_getItem_str_slice (l := l0) (u := u0) (st := k0) ⟨_, Heap.get?_push_size _ rfl, rfl, rfl⟩ (by rw [hk]; rfl) ?_
  cases k0 with
  | none => cases hk
  | some kk =>
    obtain ⟨kv, kt⟩ := kk
    have hk : some kv = some (-1 : Int) := hk
    injection hk with hk
    subst hk
    refine post_val_or_str ⟨Nat.le_trans (Txt.sliceBy_le z l0 u0 (-1, kt) (show (-1 : Int) ≠ 0 by decide)) hz, fun t' c => ?_⟩
    exact ⟨.str _, H4, I5.tok _, ⟨t', rfl⟩, q _ (Txt.sliceBy_le z l0 u0 (-1, kt) (show (-1 : Int) ≠ 0 by decide))⟩
section
variable {K : PySem.W.Frag} {ρ : List Sl} {L : Chs} {Φ : Pd} {te : TE}
theorem w_revT (h : WE K te ρ L fun x L1 => ∃ z : Str, x = .dt (.str z) ∧ z.length ≤ 1000000 ∧ ∀ y : Str, y.length ≤ z.length → Φ (.dt (.str y)) L1) : WE K (tRevT te) ρ L Φ := by
  intro Fr B σ H Q he hc k
  refine h Fr B σ H _ he hc fun x L1 v B1 H1 h1 s1 hc1 r1 => ?_
  obtain ⟨z, e, hz, q⟩ := h1
  subst e
  cases r1
  exact ⟨z, rfl, sz hz, fun y hy => k _ L1 _ B1 H1 (q y hy) s1 hc1 (.str y)⟩
theorem r_mulX {i j : Int} (a b : Nat) (ha : i.natAbs < 2 ^ a) (hb : j.natAbs < 2 ^ b) (h : a + b ≤ 134217728) (q : Φ (.dt (.int (i * j))) L) : WR K (rI CMulX fun i j => .int (i * j)) (.dt (.int i)) (.dt (.int j)) L Φ := r_CI (mulx_ok ha hb h) q
end
end Sx
namespace Sx
theorem if_dec {p : Prop} [Decidable p] {A B : Prop} (h1 : p → A) (h2 : ¬ p → B) : if decide p = true then A else B := by
  by_cases c : p
  · rw [if_pos (decide_eq_true c)]; exact h1 c
  · rw [if_neg (by rw [decide_eq_false c]; exact Bool.false_ne_true)]; exact h2 c
theorem if_ndec {p : Prop} [Decidable p] {A B : Prop} (h1 : ¬ p → A) (h2 : p → B) : if (!decide p) = true then A else B := by
  by_cases c : p
  · rw [decide_eq_true c]; exact h2 c
  · rw [decide_eq_false c]; exact h1 c
theorem if_bl {b : Bool} {A B : Prop} (h1 : b = true → A) (h2 : b = false → B) : if b = true then A else B := by
  cases b with
  | true => exact h1 rfl
  | false => exact h2 rfl
theorem if_nbl {b : Bool} {A B : Prop} (h1 : b = false → A) (h2 : b = true → B) : if (!b) = true then A else B := by
  cases b with
  | true => exact h2 rfl
  | false => exact h1 rfl
end Sx
namespace Sx
open PySem PySem.Spec PyProof.Rows L2
theorem w_v {K : PySem.W.Frag} {ρ : List Sl} {L : Chs} {Φ : Pd} {i : Nat} (h : ∃ s, ρ[i]? = some s ∧ s.ok = true ∧ Φ s L) : WE K (tVar i) ρ L Φ := by
  obtain ⟨s, a, b, c⟩ := h
  exact w_var a b c
end Sx
namespace Sx
open PySem PySem.Spec PyProof.Rows L2
section
variable {K : PySem.W.Frag} {ρ : List Sl} {L : Chs} {te ta tb tc : TE} {t u : TS} {tt : TT} {nx bk ct : List Sl → Chs → Prop} {rt : Pd} {wi : TI} {g : TG}
/-! the same with the four ends apart -/
theorem z_seq (h : WS K t ⟨fun ρ' L' => WS K u ⟨nx, rt, bk, ct⟩ ρ' L', rt, bk, ct⟩ ρ L) : WS K (tSeq t u) ⟨nx, rt, bk, ct⟩ ρ L := s_seq h
theorem z_next (q : nx ρ L) : WS K tNext ⟨nx, rt, bk, ct⟩ ρ L := s_next q
theorem z_break (q : bk ρ L) : WS K tBreak ⟨nx, rt, bk, ct⟩ ρ L := s_break q
theorem z_cont (q : ct ρ L) : WS K tCont ⟨nx, rt, bk, ct⟩ ρ L := s_cont q
theorem z_drop (h : WE K te ρ L fun _ L1 => nx ρ L1) : WS K (tDrop te) ⟨nx, rt, bk, ct⟩ ρ L := s_drop h
theorem z_ret (h : WE K te ρ L rt) : WS K (tRet te) ⟨nx, rt, bk, ct⟩ ρ L := s_ret h
theorem z_retN (h : rt (.dt .non) L) : WS K tRetN ⟨nx, rt, bk, ct⟩ ρ L := s_retN h
theorem z_asg {i : Nat} (h : WE K te ρ L fun r L1 => nx (ρ.set i r) L1) : WS K (tAsg te (gName i)) ⟨nx, rt, bk, ct⟩ ρ L := s_asg h
theorem z_asgG (h : WE K te ρ L fun r L1 => WG K g r ρ L1 nx) : WS K (tAsg te g) ⟨nx, rt, bk, ct⟩ ρ L := s_asgG h
theorem z_aug {i : Nat} {f : Int → Int → Int} (h : ∃ a, ρ[i]? = some (.dt (.int a)) ∧ WE K te ρ L fun r L1 => ∃ b, r = .dt (.int b) ∧ nx (ρ.set i (.dt (.int (f a b)))) L1) : WS K (tAug i te (ipI f)) ⟨nx, rt, bk, ct⟩ ρ L := by
  obtain ⟨a, h1, h2⟩ := h
  exact s_aug h1 h2
theorem z_setL (h : WE K te ρ L fun r L1 => WE K ta ρ L1 fun x L2 => WE K tb ρ L2 fun y L3 => ∃ p k ss i j, x = .pt p ∧ y = .dt (.int i) ∧ L3[k]? = some (p, .lst ss) ∧ ixN ss.length i = some j ∧ nx ρ (L3.set k (p, .lst (ss.set j r)))) : WS K (tAsg te (gSub ta tb rSetL)) ⟨nx, rt, bk, ct⟩ ρ L := s_setL h
theorem z_dput (h : WE K tc ρ L fun s L1 => WE K ta ρ L1 fun x L2 => WE K tb ρ L2 fun y L3 => ∃ k p kvs d key, x = .pt p ∧ y = .dt d ∧ L3[k]? = some (p, .dic kvs) ∧ keyD d = some key ∧ kvs.length < 1000000 ∧ nx ρ (L3.set k (p, .dic (putG kvs key s)))) : WS K (sDPut ta tb tc) ⟨nx, rt, bk, ct⟩ ρ L := s_dput h
theorem z_dputT (h : WE K tc ρ L fun s L1 => WE K ta ρ L1 fun x L2 => WE K tb ρ L2 fun y L3 => ∃ k p kvs ds key, x = .pt p ∧ y = .dt (.tup ds) ∧ L3[k]? = some (p, .dit kvs) ∧ keysD ds = some key ∧ kvs.length < 1000000 ∧ nx ρ (L3.set k (p, .dit (putG kvs key s)))) : WS K (sDPut ta tb tc) ⟨nx, rt, bk, ct⟩ ρ L := s_dputT h
theorem z_for (h : WI K wi ρ L fun ds L1 => ∃ Inv : Nat → List Sl → Chs → Prop, Nxt Inv 0 ρ L1 ∧
    (∀ i d ρ' L', ds[i]? = some d → Inv i ρ' L' → WG K g (.dt d) ρ' L' fun ρ2 L2 => WS K t ⟨Nxt Inv (i + 1), rt, nx, Nxt Inv (i + 1)⟩ ρ2 L2) ∧ (∀ ρ' L', Inv ds.length ρ' L' → nx ρ' L')) : WS K (tFor wi g t) ⟨nx, rt, bk, ct⟩ ρ L := s_for h
theorem z_while (Inv : List Sl → Chs → Prop) (μ : List Sl → Chs → Nat) (h0 : ∃ ρ2, Wk ρ ρ2 ∧ Inv ρ2 L)
    (hs : ∀ ρ' L', Inv ρ' L' → WT K tt ρ' L' fun b L1 => if b = true then WS K t ⟨fun ρ2 L2 => ∃ ρ3, Wk ρ2 ρ3 ∧ Inv ρ3 L2 ∧ μ ρ3 L2 < μ ρ' L', rt, nx, fun ρ2 L2 => ∃ ρ3, Wk ρ2 ρ3 ∧ Inv ρ3 L2 ∧ μ ρ3 L2 < μ ρ' L'⟩ ρ' L1 else nx ρ' L1) :
    WS K (tWhile tt t) ⟨nx, rt, bk, ct⟩ ρ L := s_while Inv μ h0 hs
theorem isls_p {p : Addr} {ss : List Sl} (k : Nat) (h : L[k]? = some (p, .lst ss)) : isLs (.pt p) L := ⟨k, ss, h⟩
theorem isls_d {ds : List Dt} : isLs (.dt (.lst ds)) L := trivial
theorem isls_s {ns : List Int} : isLs (.dt (.scr ns)) L := trivial
end
end Sx
namespace Sx
theorem wk0 : Wk [] [] := trivial
theorem wkk {a : Sl} {as bs : List Sl} (h : Wk as bs) : Wk (a :: as) (a :: bs) := ⟨.inr rfl, h⟩
theorem wkn {a : Sl} {as bs : List Sl} (h : Wk as bs) : Wk (a :: as) (.no :: bs) := ⟨.inl rfl, h⟩
theorem map_at {α β : Type} {f : α → β} {l : List α} {i : Nat} {d : β} (h : (l.map f)[i]? = some d) : ∃ x, l[i]? = some x ∧ f x = d := by
  rw [List.getElem?_map] at h
  cases e : l[i]? with
  | none => rw [e] at h; cases h
  | some x => rw [e] at h; injection h with h; exact ⟨x, rfl, h⟩
end Sx
namespace Sx
open PySem PySem.Spec PyProof.Rows L2
section
variable {K : PySem.W.Frag} {ρ : List Sl} {L : Chs} {Φ : Pd} {te ta tb tc tl : TE} {t u : TS} {D : En2} {r : R2} {tt tt2 : TT} {aa : TA} {g : TG} {wi : TI}
/-! comprehensions into a list that will change -/
theorem w_lcM {vs : List Nat} (h : WI K wi ρ L fun ds L1 => ∃ Inv : Nat → List Dt → Chs → Prop, Inv 0 [] L1 ∧ ds.length ≤ 1000000 ∧
    (∀ i d acc L', ds[i]? = some d → acc.length ≤ i → Inv i acc L' → WV K g vs (.dt d) (wipeS ρ vs) L' fun ρ2 L2 => WT K tt ρ2 L2 fun b L3 => if b = true then WE K te ρ2 L3 (fun y L4 => ∃ d', y = .dt d' ∧ Inv (i + 1) (acc ++ [d']) L4) else Inv (i + 1) acc L3) ∧
    (∀ acc L' p, Inv ds.length acc L' → Φ (.pt p) (L' ++ [(p, .lst (dts acc))]))) : WE K (tLc wi g tt te vs) ρ L Φ := by
  intro Fr B σ H Q he hc k
  refine h Fr B σ H _ he hc fun ds L1 J B1 H1 h1 s1 hc1 hit => ?_
  obtain ⟨Inv, h0, hlen, hs, hd⟩ := h1
  intro Dn hD
  let Pv : Nat → Hp → Prop := fun i H' => ∃ acc L' B' av, Inv i acc L' ∧ acc.length ≤ i ∧ Le B1 B' ∧ RpA K B' av acc ∧ Hc K B' L' ((Dn, .lst av) :: Fr) H'
  refine ⟨fun i m H' => m = ds.length - i ∧ i ≤ ds.length ∧ Pv i H', ⟨ds.length, by simp, Nat.zero_le _, [], L1, B1, [], h0, Nat.le_refl _, Le.refl B1, .nil, hc1.newF hD _⟩, ?_⟩
  rintro i m H' ⟨rfl, hi, acc, L', B', av, q, ha, s, ra, c⟩
  obtain ⟨hgo, hstop⟩ := hit B' H' L' _ i s c
  by_cases hlt : i < ds.length
  · have hdi : ds[i]? = some ds[i] := List.getElem?_eq_getElem hlt
    obtain ⟨g1, g2⟩ := hgo _ hdi
    refine .inr ⟨g1, Pv (i + 1), fun H2 p => ⟨ds.length - (i + 1), by omega, rfl, hlt, p⟩, fun x H2 y => ?_⟩
    obtain ⟨B2, s2, c2, r2⟩ := g2 x H2 y
    have e2 : EnR K B2 (wipeS ρ vs) (wipe σ vs) := (en_wipe he vs).mono ((s1.trans s).trans s2)
    refine hs i _ acc L' hdi ha q _ B2 (wipe σ vs) H2 x _ e2 c2 r2 fun ρ3 L3 σ3 B3 H3 a3 s3 e3 c3 w3 => ?_
    refine ⟨w3.trans (wipe_idem σ vs), ?_⟩
    refine a3 _ B3 σ3 H3 _ e3 c3 fun b L4 B4 H4 a4 s4 c4 => ?_
    cases b with
    | true =>
      show if true = true then _ else _
      rw [if_pos rfl]
      have a4 : WE K te ρ3 L4 _ := a4
      refine a4 _ B4 σ3 H4 _ (e3.mono s4) c4 fun y L5 v B5 H5 a5 s5 c5 r5 => ?_
      obtain ⟨d', e5, q5⟩ := a5
      subst e5
      have sA := ((s2.trans s3).trans s4).trans s5
      refine ⟨av, c5.atF.1, szl (by rw [ra.len]; omega), acc ++ [d'], L5, B5, av ++ [v], q5, by rw [List.length_append, List.length_singleton]; omega, s.trans sA, rpa_app (ra.mono sA) r5, c5.putF _⟩
    | false =>
      show if false = true then _ else _
      rw [if_neg Bool.false_ne_true]
      have sA := (s2.trans s3).trans s4
      exact ⟨acc, L4, B4, av, a4, Nat.le_succ_of_le ha, s.trans sA, ra.mono sA, c4⟩
  · have ei : i = ds.length := by omega
    subst ei
    refine .inl ⟨hstop (Nat.le_refl _), ?_⟩
    exact k _ _ _ _ H' (hd acc L' Dn q) (s1.trans s) (c.backF (c := .lst (dts acc)) ⟨_, rfl, rp_dts ra⟩) rfl
/-- .. without changes elsewhere: f the test, e the element, by the items' own data -/
theorem w_lcPM {α : Type} {vs : List Nat} (h : WI K wi ρ L fun ds L1 => ∃ (xs : List α) (enc : α → Dt) (f : α → Bool) (e : α → Dt), ds = xs.map enc ∧ xs.length ≤ 1000000 ∧
    (∀ x, x ∈ xs → WV K g vs (.dt (enc x)) (wipeS ρ vs) L1 fun ρ2 L2 => WT K tt ρ2 L2 fun b L3 => b = f x ∧ if b = true then WE K te ρ2 L3 (fun y L4 => y = .dt (e x) ∧ L4 = L1) else L3 = L1) ∧
    ∀ p, Φ (.pt p) (L1 ++ [(p, .lst (dts ((xs.filter f).map e)))])) : WE K (tLc wi g tt te vs) ρ L Φ := by
  refine w_lcM (fun Fr B σ H R he hc k => h Fr B σ H R he hc fun ds L' J B' H' hp => k ds L' J B' H' ?_)
  obtain ⟨xs, enc, f, e, rfl, hl, hs, q⟩ := hp
  refine ⟨fun i acc M => M = L' ∧ acc = ((xs.take i).filter f).map e, ⟨rfl, rfl⟩, by rw [List.length_map]; exact hl, fun i d acc M hd _ hI => ?_, fun acc M p hI => ?_⟩
  · obtain ⟨rfl, rfl⟩ := hI
    rw [List.getElem?_map] at hd
    cases hx : xs[i]? with
    | none => rw [hx] at hd; cases hd
    | some x =>
      rw [hx] at hd
      cases hd
      have tk : xs.take (i + 1) = xs.take i ++ [x] := by rw [List.take_add_one, hx]; rfl
      refine fun Fr B σ H v Q he hc hr kk => hs x (List.mem_of_getElem? hx) Fr B σ H v Q he hc hr fun ρ' L2 σ' B' H' hN => kk ρ' L2 σ' B' H' ?_
      refine fun Fr B σ H Q he hc kk => hN Fr B σ H Q he hc fun b L3 B' H' hb => kk b L3 B' H' ?_
      obtain ⟨hb, hb2⟩ := hb
      cases b with
      | true =>
        have hb2 : WE K te ρ' L3 _ := hb2
        refine w_imp hb2 fun y L4 ⟨h1, h2⟩ => ⟨_, h1, h2, ?_⟩
        rw [tk, List.filter_append, List.map_append, List.filter_cons, if_pos hb.symm]
        rfl
      | false =>
        refine ⟨hb2, ?_⟩
        rw [tk, List.filter_append, List.map_append, List.filter_cons, if_neg (by rw [← hb]; exact Bool.false_ne_true)]
        show _ = _ ++ []
        rw [List.append_nil]
  · obtain ⟨rfl, rfl⟩ := hI
    rw [List.length_map, List.take_length]
    exact q p

theorem w_out (h : WE K te ρ L fun r L1 => ∃ L2, L1.Perm L2 ∧ Φ r L2) : WE K te ρ L Φ := by
  intro Fr B σ H Q he hc k
  refine h Fr B σ H _ he hc fun x L1 v B1 H1 h1 s1 hc1 r1 => ?_
  obtain ⟨L2, p, q⟩ := h1
  exact k x L2 v B1 H1 q s1 (hc1.perm p) r1
theorem perm2 {α : Type} {a b : α} : [a, b].Perm [b, a] := .swap b a []
end
end Sx
namespace Sx
open PySem PySem.Spec PyProof.Rows L2
theorem nle {a b : Nat} (h : Nat.ble a b = true) : a ≤ b := Nat.le_of_ble_eq_true h
theorem nlt {a b : Nat} (h : Nat.ble (a + 1) b = true) : a < b := Nat.le_of_ble_eq_true h
theorem txt_join_len (sep : Str) (ys : List Str) : (Txt.join sep ys).length = (ys.map (·.length)).sum + (ys.length - 1) * sep.length := size_glued sep ys
theorem sum_le {c : Nat} : ∀ {ys : List Str}, (∀ y ∈ ys, y.length ≤ c) → (ys.map (·.length)).sum ≤ ys.length * c
  | [], _ => Nat.zero_le _
  | y :: ys, h => by
    have h1 := h y List.mem_cons_self
    have h2 := sum_le fun z hz => h z (List.mem_cons_of_mem y hz)
    rw [List.map_cons, List.sum_cons, List.length_cons, Nat.add_mul, Nat.one_mul]
    omega
theorem sum_eq {c : Nat} : ∀ {ys : List Str}, (∀ y ∈ ys, y.length = c) → (ys.map (·.length)).sum = ys.length * c
  | [], _ => by simp
  | y :: ys, h => by
    have h1 := h y List.mem_cons_self
    have h2 := sum_eq fun z hz => h z (List.mem_cons_of_mem y hz)
    rw [List.map_cons, List.sum_cons, List.length_cons, Nat.add_mul, Nat.one_mul]
    omega
theorem atS {z : Str} {i : Int} (h0 : 0 ≤ i) (h : i < z.length) : ∃ c, atI z.cps.toList i = some c := by
  have hl : i.toNat < z.cps.toList.length := by rw [Array.length_toList]; show i.toNat < z.length; omega
  refine ⟨z.cps.toList[i.toNat], ?_⟩
  unfold atI ixN
  rw [if_pos h0, if_pos (by rw [Array.length_toList]; exact h)]
  show z.cps.toList[i.toNat]? = _
  exact List.getElem?_eq_getElem hl
theorem atL {α : Type} {l : List α} {i : Int} (h0 : 0 ≤ i) (h : i < l.length) : ∃ c, atI l i = some c ∧ l[i.toNat]? = some c := by
  have hl : i.toNat < l.length := by omega
  refine ⟨l[i.toNat], ?_, List.getElem?_eq_getElem hl⟩
  unfold atI ixN
  rw [if_pos h0, if_pos h]
  show l[i.toNat]? = _
  exact List.getElem?_eq_getElem hl
theorem rngD_len' (lo : Int) (n : Nat) : (rngD lo n).length = n := rngD_len lo n
end Sx
namespace Sx
open PySem PySem.Spec PyProof.Rows L2
/-! ### the rules that name the fragment, told of K itself (within a comprehension's block, too) -/
section
variable {X : Cx} (K : PySem.W.Frag) {P : Program} {w : World} {mg : Str → Option Value} {base : Heap}
theorem kx_list (hK : X.K = K := by rfl) : IxR X (rIxL K) := by subst hK; exact ix_list
theorem kx_tup (hK : X.K = K := by rfl) : IxR X (rIxT K) := by subst hK; exact ix_tup
theorem ks_list (hK : X.K = K := by rfl) : L2.SlR X (rSlL K) := by subst hK; exact sl_list
theorem k_len (hK : X.K = K := by rfl) : CallR X (.builtin "len") (fun xs H Q => ∃ p ys, xs = [.ref p] ∧ (SqL K H p ys ∨ SqT K H p ys) ∧ Q (.int ys.length) H) := by subst hK; exact call_len_seq
theorem k_list (hK : X.K = K := by rfl) : CallR X (.type "list") (fun xs H Q => ∃ p ys, xs = [.ref p] ∧ (SqL K H p ys ∨ SqT K H p ys) ∧ ∀ l, H l = none → Q (.ref l) (upd H l (.lst ys))) := by subst hK; exact call_list_of
theorem k_tuple (hK : X.K = K := by rfl) : CallR X (.type "tuple") (fun xs H Q => ∃ p ys, xs = [.ref p] ∧ ((SqL K H p ys ∧ ∀ l, H l = none → Q (.ref l) (upd H l (.tup ys))) ∨ (SqT K H p ys ∧ Q (.ref p) H))) := by subst hK; exact call_tuple_of
theorem k_max (hc : X.calm = true) (hK : X.K = K := by rfl) : CallR X (.builtin "max") (rMax K) := by subst hK; exact cr_max hc
theorem k_min (hc : X.calm = true) (hK : X.K = K := by rfl) : CallR X (.builtin "min") (rMin K) := by subst hK; exact cr_min hc
theorem k_sum (hc : X.calm = true) (hK : X.K = K := by rfl) : CallR X (.builtin "sum") (rSum K) := by subst hK; exact cr_sum hc
theorem k_any (hc : X.calm = true) (hK : X.K = K := by rfl) : CallR X (.builtin "any") (rAny K) := by subst hK; exact cr_any hc
theorem k_all (hc : X.calm = true) (hK : X.K = K := by rfl) : CallR X (.builtin "all") (rAll K) := by subst hK; exact cr_all hc
theorem k_sorted (hK : X.K = K := by rfl) : CallR X (.builtin "sorted") (rSorted K) := by subst hK; exact cr_sorted
theorem k_sortedS (hK : X.K = K := by rfl) : CallR X (.builtin "sorted") (rSortedS K) := by subst hK; exact cr_sortedS
theorem k_isi (hK : X.K = K := by rfl) : CallR X (.builtin "isinstance") (rIsi K) := by subst hK; exact call_isi
theorem k_eqD (hu : X.A.units + 64 < cLine) (hK : X.K = K := by rfl) : OpR X (compareOp .Eq) (rEqD K) := by subst hK; exact op_eqD hu
theorem k_neD (hu : X.A.units + 64 < cLine) (hK : X.K = K := by rfl) : OpR X (compareOp .NotEq) (rNeD K) := by subst hK; exact op_neD hu
theorem k_in (hK : X.K = K := by rfl) : OpR X (compareOp .In) (rIn K false) := by subst hK; exact op_in_seq
theorem k_notIn (hK : X.K = K := by rfl) : OpR X (compareOp .NotIn) (rIn K true) := by subst hK; exact op_notIn_seq
end
section
variable {X : Cx} (K : PySem.W.Frag) {l e o e2 tg : Expr} {tl te to : TE} {t : TA} {es : List Expr} {T id : String} {name : Str} {r : V → List V → Hp → VK → Prop} {p pos apos cpos tpos : Pos} {ta : TA} {elts : List Expr} {kk : Nat}
theorem ki_list (hl : PE X l tl) (hK : X.K = K := by rfl) : PI X tg l (iList K tl) := by subst hK; exact pi_list hl
theorem ki_tup (hl : PE X l tl) (hK : X.K = K := by rfl) : PI X tg l (iTup K tl) := by subst hK; exact pi_tup hl
theorem ki_enum (hg : Gl X "enumerate") (hm : X.mg "enumerate" = none) (ha : PA X [e] ta) (hs : starEach [e] X.env = [(false, eval e X.env)] := by rfl) (hK : X.K = K := by rfl) : PI X (.Tuple elts kk tpos) (.Call (.Name "enumerate" p) [e] [] pos) (iEnum K ta) := by
  subst hK; exact pi_enum hg hm ha hs
theorem ki_zip (hg : Gl X "zip") (hm : X.mg "zip" = none) (ha : PA X [e, e2] ta) (hs : starEach [e, e2] X.env = (false, eval e X.env) :: starEach [e2] X.env := by rfl) (hpl : (backTo pos (starEach [e2] X.env)).any (·.1) = false := by rfl) (hK : X.K = K := by rfl) :
    PI X (.Tuple elts kk tpos) (.Call (.Name "zip" p) [e, e2] [] pos) (iZip K ta) := by subst hK; exact pi_zip hg hm ha hs hpl
theorem k_bm (pa : PlainAttrs T) (slot : Slot T name id) (hty : typeOf (.builtin id) = pure (.type "method_descriptor")) (hm : MtR X id r) (ho : PE X o to) (ha : PA X (e :: es) t)
    (hbase : attributeBase o name X.env (eval o X.env) = eval o X.env := by rfl)
    (hfew : ((backTo cpos (starEach (e :: es) X.env)).all (fun x => !x.1) && (backToKw cpos (keywordEach [] X.env)).all (fun x => x.1.isSome)
      && decide ((e :: es).length + ([] : List Keyword).length + (if ([] : List Keyword).isEmpty then 0 else 1) < 30)) = true := by rfl)
    (hline : (apos.endLine == cpos.line) = true := by rfl)
    (hs : starEach (e :: es) X.env = (false, eval e X.env) :: starEach es X.env := by rfl) (hplain : (backTo cpos (starEach es X.env)).any (·.1) = false := by rfl) (hK : X.K = K := by rfl) :
    PE X (.Call (.Attribute o name apos) (e :: es) [] cpos) (tBM K T r to t) := by
  subst hK; exact pe_bm pa slot hty hm ho ha hbase hfew hline hs hplain
theorem k_bm0 (pa : PlainAttrs T) (slot : Slot T name id) (hty : typeOf (.builtin id) = pure (.type "method_descriptor")) (hm : MtR X id r) (ho : PE X o to)
    (hbase : attributeBase o name X.env (eval o X.env) = eval o X.env := by rfl) (hline : (apos.endLine == cpos.line) = true := by rfl) (hK : X.K = K := by rfl) : PE X (.Call (.Attribute o name apos) [] [] cpos) (tBM0 K T r to) := by
  subst hK; exact pe_bm0 pa slot hty hm ho hbase hline
theorem k_join (ho : PE X o to) (he : PE X e te) (hs : starEach [e] X.env = [(false, eval e X.env)] := by rfl) (hbase : attributeBase o "join" X.env (eval o X.env) = eval o X.env := by rfl) (hline : (apos.endLine == pos.line) = true := by rfl) (hK : X.K = K := by rfl) :
    PE X (.Call (.Attribute o "join" apos) [e] [] pos) (tM1 (fun x xs H Q => ∃ a p, ∃ ys : List Str, x = .str a ∧ xs = [.ref p] ∧ (SqL K H p (ys.map V.str) ∨ SqT K H p (ys.map V.str)) ∧
      (ys.map (·.length)).sum + ys.length * a.length ≤ 16777216 ∧ Q (.str (Txt.join a ys)) H) to te) := by
  subst hK; exact pe_join ho he hs hbase hline
theorem kg_tup {n : Nat} {ts : TGs} (hc : X.calm = true) (h : PGs X es ts) (hn : (assignEach es X.env).length = n := by rfl) (hst : (assignEach es X.env).findIdx? (·.1) = none := by rfl) (hK : X.K = K := by rfl) : PG X (.Tuple es kk pos) (gTup K n ts) := by
  subst hK; exact pg_tup hc h hn hst
end
section
variable {X : Cx} {P : Program} {w : World} {K : PySem.W.Frag} {mg : Str → Option Value} {base : Heap} {j k n : Nat} {x : Str} {ps ks : List Str} {F : List Sl → Chs → Pd → Prop} {e : Expr} {es : List Expr} {t tk : TA} {p pos : Pos} {kws : List Keyword} {gV : List V → List V → List V}
theorem k_kp (G : Kp P w K mg base j x ps F) (hr : Room k X.A) (hj : j ≤ k) (ha : PA X (e :: es) t) (hg : Gl X x := by rfl) (hdb : (x == ("__debug__" : Str)) = false := by decide)
    (he : starEach (e :: es) X.env = (false, eval e X.env) :: starEach es X.env := by rfl) (hpl : (backTo pos (starEach es X.env)).any (·.1) = false := by rfl)
    (hP : X.prog = P := by rfl) (hw : X.w = w := by rfl) (hK : X.K = K := by rfl) (hm : X.mg = mg := by rfl) (hb : X.base = base := by rfl) : PE X (.Call (.Name x p) (e :: es) [] pos) (tCall (SpD K F) [] E0 t) := by
  subst hP hw hK hm hb; exact pe_kp G hr hj ha hg hdb he hpl
theorem k_kp0 (G : Kp P w K mg base j x ps F) (hr : Room k X.A) (hj : j ≤ k) (hg : Gl X x := by rfl) (hdb : (x == ("__debug__" : Str)) = false := by decide)
    (hP : X.prog = P := by rfl) (hw : X.w = w := by rfl) (hK : X.K = K := by rfl) (hm : X.mg = mg := by rfl) (hb : X.base = base := by rfl) : PE X (.Call (.Name x p) [] [] pos) (tCall (SpD K F) [] E0 tNil) := by
  subst hP hw hK hm hb; exact pe_kp0 G hr hj hg hdb
theorem k_kk0 (G : Kk P w K mg base j x ps F 0 ks gV) (hr : Room k X.A) (hj : j ≤ k) (hkw : PK X kws tk) (hg : Gl X x := by rfl) (hall : (backToKw pos (keywordEach kws X.env)).all (·.1.isSome) = true := by rfl) (hks : (backToKw pos (keywordEach kws X.env)).filterMap (·.1) = ks := by rfl)
    (hdb : (x == ("__debug__" : Str)) = false := by decide) (hpl : ((backTo pos (starEach [] X.env)).any (·.1) || (backToKw pos (keywordEach kws X.env)).any (·.1.isNone)) = false := by rfl)
    (hP : X.prog = P := by rfl) (hw : X.w = w := by rfl) (hK : X.K = K := by rfl) (hm : X.mg = mg := by rfl) (hb : X.base = base := by rfl) :
    PE X (.Call (.Name x p) [] kws pos) (tCallKn 0 ks.length (SpD K F) gV tNil tk) := by
  subst hP hw hK hm hb; exact pe_kk0 G hr hj hkw hg hall hks hdb hpl
theorem k_kk (G : Kk P w K mg base j x ps F n ks gV) (hr : Room k X.A) (hj : j ≤ k) (ha : PA X (e :: es) t) (hkw : PK X kws tk) (hg : Gl X x := by rfl) (hall : (backToKw pos (keywordEach kws X.env)).all (·.1.isSome) = true := by rfl)
    (hks : (backToKw pos (keywordEach kws X.env)).filterMap (·.1) = ks := by rfl) (hdb : (x == ("__debug__" : Str)) = false := by decide) (he : starEach (e :: es) X.env = (false, eval e X.env) :: starEach es X.env := by rfl)
    (hpl : ((backTo pos (starEach (e :: es) X.env)).any (·.1) || (backToKw pos (keywordEach kws X.env)).any (·.1.isNone)) = false := by rfl)
    (hP : X.prog = P := by rfl) (hw : X.w = w := by rfl) (hK : X.K = K := by rfl) (hm : X.mg = mg := by rfl) (hb : X.base = base := by rfl) :
    PE X (.Call (.Name x p) (e :: es) kws pos) (tCallKn n ks.length (SpD K F) gV t tk) := by
  subst hP hw hK hm hb; exact pe_kk G hr hj ha hkw hg hall hks hdb he hpl
end
end Sx
namespace Sx
theorem if_t {A B : Prop} (h : A) : if true = true then A else B := h
theorem if_f {A B : Prop} (h : B) : if false = true then A else B := h
end Sx
namespace Sx
open PySem PySem.Spec PyProof.Rows L2
theorem pig {α : Type} [BEq α] [LawfulBEq α] : ∀ (xs ys : List α), xs.Nodup → (∀ x ∈ xs, x ∈ ys) → xs.length ≤ ys.length
  | [], _, _, _ => Nat.zero_le _
  | x :: xs, ys, nd, h => by
    have nd := List.nodup_cons.mp nd
    have hx := h x List.mem_cons_self
    have ih := pig xs (ys.erase x) nd.2 fun y hy => (List.mem_erase_of_ne (fun e : y = x => nd.1 (by rw [← e]; exact hy))).mpr (h y (List.mem_cons_of_mem x hy))
    rw [List.length_erase_of_mem hx] at ih
    have : 0 < ys.length := List.length_pos_of_mem hx
    rw [List.length_cons]
    omega
theorem spare_left {α : Type} [BEq α] [LawfulBEq α] {xs ys : List α} (nd : xs.Nodup) (h : ys.length < xs.length) : ∃ x ∈ xs, x ∉ ys := by
  apply Classical.byContradiction
  intro c
  have := pig xs ys nd fun x hx => Classical.byContradiction fun n => c ⟨x, hx, n⟩
  omega
theorem len_of_mem_filter {α : Type} {f : α → Bool} {l : List α} {x : α} (h : x ∈ l) (hf : f x = true) : 0 < (l.filter f).length := List.length_pos_of_mem (List.mem_filter.mpr ⟨h, hf⟩)
theorem mem_of_at {α : Type} {l : List α} {i : Nat} {x : α} (h : l[i]? = some x) : x ∈ l := List.mem_of_getElem? h
theorem str_app_len (a b : Str) : (a ++ b).length = a.length + b.length := by
  show (a.cps ++ b.cps).size = _
  exact Array.size_append
end Sx
namespace Sx
open PySem PySem.Spec PyProof.Rows L2
theorem cut_len (z : Str) (lo hi : Option Int) : (cutS z lo hi).length ≤ z.length := cutS_length z lo hi
end Sx
namespace Sx
open PySem PySem.Spec PyProof.Rows L2
theorem atI_map {α β : Type} (f : α → β) {l : List α} {i : Int} {x : α} (h : atI l i = some x) : atI (l.map f) i = some (f x) := by
  unfold atI at h ⊢
  rw [List.length_map]
  cases q : ixN l.length i with
  | none => rw [q] at h; cases h
  | some j =>
    rw [q] at h
    have h : l[j]? = some x := h
    show (l.map f)[j]? = some (f x)
    rw [List.getElem?_map, h]; rfl
theorem atI_mem {α : Type} {l : List α} {i : Int} {x : α} (h : atI l i = some x) : x ∈ l := by
  unfold atI at h
  cases q : ixN l.length i with
  | none => rw [q] at h; cases h
  | some j => rw [q] at h; exact List.mem_of_getElem? h
def sS (x : Str) : Sl := .dt (.str x)
def sI (x : Int) : Sl := .dt (.int x)
end Sx
namespace Sx
open PySem PySem.Spec PyProof.Rows L2
section
variable {K : PySem.W.Frag} {ρ : List Sl} {L L2 : Chs} {Φ : Pd} {te : TE} {t : TS} {nx bk ct : List Sl → Chs → Prop} {rt : Pd}
/-! extra changing objects are left behind -/
theorem Hc.cut {H : Hp} {Fr : List (Addr × HO)} : ∀ (M : Chs) {B : Hp}, Hc K B (L2 ++ M) Fr H → ∃ B', Le B B' ∧ Hc K B' L2 Fr H
  | [], B, h => ⟨B, Le.refl B, by rw [List.append_nil] at h; exact h⟩
  | c :: M, B, h => by
    have e : (L2 ++ c :: M)[L2.length]? = some (c.1, c.2) := by
      rw [List.getElem?_append_right (Nat.le_refl _), Nat.sub_self]; rfl
    obtain ⟨o, _, s, h2⟩ := h.freeze e
    have e2 : (L2 ++ c :: M).eraseIdx L2.length = L2 ++ M := by
      rw [List.eraseIdx_append_of_length_le (Nat.le_refl _), Nat.sub_self]; rfl
    rw [e2] at h2
    obtain ⟨B', s2, h3⟩ := Hc.cut M h2
    exact ⟨B', s.trans s2, h3⟩
def Gx (nx : List Sl → Chs → Prop) (ρ : List Sl) (L : Chs) : Prop := ∃ L2 M, L.Perm (L2 ++ M) ∧ nx ρ L2
theorem s_gx (h : WS K t ⟨Gx nx, rt, bk, ct⟩ ρ L) : WS K t ⟨nx, rt, bk, ct⟩ ρ L := by
  intro Fr B σ H D' he hc ok
  refine h Fr B σ H D' he hc ⟨fun ρ' L' σ' B' H' a s e c => ?_, ok.rt, ok.bk, ok.ct⟩
  obtain ⟨L2, M, p, q⟩ := a
  obtain ⟨B2, s2, c2⟩ := Hc.cut M (c.perm p)
  exact ok.nx ρ' L2 σ' B2 H' q (s.trans s2) (e.mono s2) c2
theorem s_gc (h : WS K t ⟨Gx nx, rt, bk, Gx ct⟩ ρ L) : WS K t ⟨nx, rt, bk, ct⟩ ρ L := by
  intro Fr B σ H D' he hc ok
  refine h Fr B σ H D' he hc ⟨fun ρ' L' σ' B' H' a s e c => ?_, ok.rt, ok.bk, fun ρ' L' σ' B' H' a s e c => ?_⟩
  · obtain ⟨L2, M, p, q⟩ := a
    obtain ⟨B2, s2, c2⟩ := Hc.cut M (c.perm p)
    exact ok.nx ρ' L2 σ' B2 H' q (s.trans s2) (e.mono s2) c2
  · obtain ⟨L2, M, p, q⟩ := a
    obtain ⟨B2, s2, c2⟩ := Hc.cut M (c.perm p)
    exact ok.ct ρ' L2 σ' B2 H' q (s.trans s2) (e.mono s2) c2
theorem w_cut (h : WE K te ρ L fun r L1 => ∃ L2 M, L1.Perm (L2 ++ M) ∧ Φ r L2) : WE K te ρ L Φ := by
  intro Fr B σ H Q he hc k
  refine h Fr B σ H _ he hc fun x L1 v B1 H1 h1 s1 hc1 r1 => ?_
  obtain ⟨L2, M, p, q⟩ := h1
  obtain ⟨B2, s2, c2⟩ := Hc.cut M (hc1.perm p)
  exact k x L2 v B2 H1 q (s1.trans s2) c2 (r1.mono s2)
end
end Sx
namespace Sx
open PySem PySem.Spec PyProof.Rows L2
/-! ### ==, != of data without dicts, whatever its texts -/
def rEqP (K : PySem.W.Frag) : R2 := fun x y H Q => ∃ d e : PyData, Dp K H x d ∧ Dp K H y e ∧ PyData.plain d = true ∧ PyData.plain e = true ∧ d.depth ≤ 150 ∧ Q (.bl (PyData.eqv d e)) H
def rNeP (K : PySem.W.Frag) : R2 := fun x y H Q => ∃ d e : PyData, Dp K H x d ∧ Dp K H y e ∧ PyData.plain d = true ∧ PyData.plain e = true ∧ d.depth ≤ 150 ∧ Q (.bl (!PyData.eqv d e)) H
section
variable {X : Cx} (K : PySem.W.Frag) {k : Nat}
theorem k_eqP (hr : Room k X.A) (hK : X.K = K := by rfl) : OpR X (compareOp .Eq) (rEqP K) := by
  subst hK
  intro pins s σ H x y v u Q I rx ry h
  obtain ⟨d, e, hd, he, pd, pe, dd, q⟩ := h
  obtain ⟨as, r1⟩ := Dp.reads I d x v hd rx
  obtain ⟨bs, r2⟩ := Dp.reads I e y u he ry
  have un := hr.un
  have m : min d.depth e.depth ≤ d.depth := Nat.min_le_left _ _
  exact SeqAt.eq_plain r1 r2 pd pe (by omega) ⟨.bl _, H, I, rfl, q⟩
theorem k_neP (hr : Room k X.A) (hK : X.K = K := by rfl) : OpR X (compareOp .NotEq) (rNeP K) := by
  subst hK
  intro pins s σ H x y v u Q I rx ry h
  obtain ⟨d, e, hd, he, pd, pe, dd, q⟩ := h
  obtain ⟨as, r1⟩ := Dp.reads I d x v hd rx
  obtain ⟨bs, r2⟩ := Dp.reads I e y u he ry
  have un := hr.un
  have m : min d.depth e.depth ≤ d.depth := Nat.min_le_left _ _
  exact SeqAt.ne_plain r1 r2 pd pe (by omega) ⟨.bl _, H, I, rfl, q⟩
end
mutual
theorem toP_plain : ∀ {d : Dt} {p : PyData}, toP d = some p → PyData.plain p = true
  | .non, _, h => by cases h; rfl
  | .bl _, _, h => by cases h; rfl
  | .int _, _, h => by cases h; rfl
  | .str _, _, h => by cases h; rfl
  | .lst ds, _, h => by
    unfold toP at h
    cases q : toPs ds with
    | none => rw [q] at h; cases h
    | some es => rw [q] at h; cases h; rw [PyData.plain]; exact toPs_plain q
  | .tup ds, _, h => by
    unfold toP at h
    cases q : toPs ds with
    | none => rw [q] at h; cases h
    | some es => rw [q] at h; cases h; rw [PyData.plain]; exact toPs_plain q
  | .dic _, _, h => by cases h
  | .dit _, _, h => by cases h
  | .ins _ _, _, h => by cases h
  | .scr _, _, h => by cases h
  | .ty _, _, h => by cases h
theorem toPs_plain : ∀ {ds : List Dt} {ps : List PyData}, toPs ds = some ps → PyData.plainAll ps = true
  | [], _, h => by cases h; rfl
  | d :: ds, _, h => by
    unfold toPs at h
    cases q : toP d with
    | none => rw [q] at h; cases h
    | some a =>
      rw [q] at h
      cases q2 : toPs ds with
      | none => rw [q2] at h; cases h
      | some b =>
        rw [q2] at h
        cases h
        rw [PyData.plainAll, toP_plain q, toPs_plain q2]; rfl
end
section
variable {K : PySem.W.Frag} {ρ : List Sl} {L : Chs} {Φ : Pd}
theorem r_eqP {d e : Dt} {a b : PyData} (h1 : toP d = some a) (h2 : toP e = some b) (hd : a.depth ≤ 150) (q : Φ (.dt (.bl (PyData.eqv a b))) L) : WR K (rEqP K) (.dt d) (.dt e) L Φ := by
  intro Fr B H Q v u hc rx ry k
  exact ⟨a, b, rp_dp hc.seq h1 rx, rp_dp hc.seq h2 ry, toP_plain h1, toP_plain h2, hd, k _ L _ B H q (Le.refl B) hc (.bl _)⟩
theorem r_neP {d e : Dt} {a b : PyData} (h1 : toP d = some a) (h2 : toP e = some b) (hd : a.depth ≤ 150) (q : Φ (.dt (.bl (!PyData.eqv a b))) L) : WR K (rNeP K) (.dt d) (.dt e) L Φ := by
  intro Fr B H Q v u hc rx ry k
  exact ⟨a, b, rp_dp hc.seq h1 rx, rp_dp hc.seq h2 ry, toP_plain h1, toP_plain h2, hd, k _ L _ B H q (Le.refl B) hc (.bl _)⟩
theorem eqv_self {d : Dt} {a : PyData} (h : toP d = some a) : PyData.eqv a a = true := SeqAt.eqv_refl_plain a (toP_plain h)
theorem depth_ints : ∀ ns : List Int, PyData.depthAll (ns.map PyData.int) = 0 := fun ns => (lay_ints ns).2
theorem plain_ints (ns : List Int) : PyData.plain (.list (ns.map PyData.int)) = true := by
  rw [PyData.plain]
  induction ns with
  | nil => rfl
  | cons a b ih => rw [List.map_cons, PyData.plainAll, ih]; rfl
theorem r_neNil {p : Addr} {j : Nat} {ns : List Int} (e : L[j]? = some (p, .lst (dts (ns.map .int)))) (q : Φ (.dt (.bl (!ns.isEmpty))) L) : WR K (rNeP K) (.pt p) (.dt (.lst [])) L Φ := by
  intro Fr B H Q v u hc rx ry k
  cases rx
  obtain ⟨o, h1, ⟨xs, h2, h3⟩, _⟩ := hc.at_ e
  subst h2
  rw [sl_ints h3] at h1
  refine ⟨.list (ns.map PyData.int), .list [], .lst (SqL.of h1) (dpA_of_ints ns), ?_, plain_ints ns, rfl, ?_, ?_⟩
  · cases ry with
    | lst hb ha => cases ha; exact .lst (SqL.of (hc.seq _ _ hb)) .nil
  · rw [PyData.depth, depth_ints]; decide
  · rw [eqv_nil]
    exact k _ L _ B H q (Le.refl B) hc (.bl _)
theorem r_eqNil {p : Addr} {j : Nat} {ns : List Int} (e : L[j]? = some (p, .lst (dts (ns.map .int)))) (q : Φ (.dt (.bl ns.isEmpty)) L) : WR K (rEqP K) (.pt p) (.dt (.lst [])) L Φ := by
  intro Fr B H Q v u hc rx ry k
  cases rx
  obtain ⟨o, h1, ⟨xs, h2, h3⟩, _⟩ := hc.at_ e
  subst h2
  rw [sl_ints h3] at h1
  refine ⟨.list (ns.map PyData.int), .list [], .lst (SqL.of h1) (dpA_of_ints ns), ?_, plain_ints ns, rfl, ?_, ?_⟩
  · cases ry with
    | lst hb ha => cases ha; exact .lst (SqL.of (hc.seq _ _ hb)) .nil
  · rw [PyData.depth, depth_ints]; decide
  · rw [eqv_nil]
    exact k _ L _ B H q (Le.refl B) hc (.bl _)
end
end Sx
namespace Sx
open PySem PySem.Spec PyProof.Rows L2
theorem cutG_map {α β : Type} (f : α → β) (l : List α) (lo hi : Option Int) : cutG (l.map f) lo hi = (cutG l lo hi).map f := by
  unfold cutG
  rw [List.length_map, List.map_take, List.map_drop]
theorem cutG_mem {α : Type} {l : List α} {lo hi : Option Int} {x : α} (h : x ∈ cutG l lo hi) : x ∈ l := List.mem_of_mem_drop (List.mem_of_mem_take h)
theorem cutG_len {α : Type} (l : List α) (lo hi : Option Int) : (cutG l lo hi).length ≤ l.length := by
  unfold cutG
  rw [List.length_take, List.length_drop]
  omega
theorem dg_d {kvs : List (Key × Dt)} {y : Dt} {L : Chs} {key : Key} {d : Dt} (hk : keyD y = some key) (h : valG kvs key = some d) : DG (.dt (.dic kvs)) y L (some (.dt d)) := .inr (.inl ⟨kvs, key, rfl, hk, by rw [h]; rfl⟩)
end Sx
namespace Sx
open PySem PySem.Spec PyProof.Rows L2
/-- a promise that nothing asks -/
theorem kp_no {P : Program} {w : World} {K : PySem.W.Frag} {mg : Str → Option Value} {base : Heap} {k : Nat} {x : Str} {ps : List Str} {F : List Sl → Chs → Pd → Prop} {st : Stmt} (D : Df K mg x st)
    (hb : ∀ (kV doc pm : Value) (an : Option Addr) (cdv ct : Value) (us : List Value), us.length = ps.length → bindArgs (PySem.W.fnOf x x (defArgs st) (defBody st) (defScope st) .none kV doc pm an cdv ct) ⟨us, []⟩ = pure (ps.zip us))
    (no : ∀ ss L Φ, ¬ F ss L Φ) : Kp P w K mg base k x ps F := by
  obtain ⟨f, fd, FD, hm⟩ := D
  refine ⟨f, fd, hm, FunD.ki FD, FD.bindsN hb, fun vs H Q E ⟨_, _, ss, L, Φ, _, _, h, _⟩ => (no ss L Φ h).elim, fun A outer s H args us vs Q E _ _ _ _ ⟨_, _, ss, L, Φ, _, _, h, _⟩ => (no ss L Φ h).elim⟩
theorem fz0 {p : Addr} {d : Dt} : Fz p d [] [] := trivial
theorem fzk {p : Addr} {d : Dt} {a : Sl} {as bs : List Sl} (h : Fz p d as bs) : Fz p d (a :: as) (a :: bs) := ⟨.inl rfl, h⟩
theorem fzp {p : Addr} {d : Dt} {as bs : List Sl} (h : Fz p d as bs) : Fz p d (.pt p :: as) (.dt d :: bs) := ⟨.inr ⟨rfl, rfl⟩, h⟩
end Sx
namespace Sx
open PySem PySem.Spec PyProof.Rows L2
section
variable {K : PySem.W.Frag} {ρ : List Sl} {L : Chs} {ta : TA} {nx bk ct : List Sl → Chs → Prop} {rt : Pd} {i : Nat}
theorem z_new (h : ∀ p, nx (ρ.set i (.pt p)) (L ++ [(p, .lst [])])) : WS K (tAsg (tLst tNil) (gName i)) ⟨nx, rt, bk, ct⟩ ρ L := z_asg (w_lstM (wa_nil ⟨lz rfl, h⟩))
theorem z_newK (h : ∀ p, nx (ρ.set i (.pt p)) (L ++ [(p, .dic [])])) : WS K (tAsg tDNewK (gName i)) ⟨nx, rt, bk, ct⟩ ρ L := z_asg (w_dnK h)
theorem z_newT (h : ∀ p, nx (ρ.set i (.pt p)) (L ++ [(p, .dit [])])) : WS K (tAsg tDNewT (gName i)) ⟨nx, rt, bk, ct⟩ ρ L := z_asg (w_dnT h)
theorem z_lst (h : WE K (tLst ta) ρ L fun r L1 => nx (ρ.set i r) L1) : WS K (tAsg (tLst ta) (gName i)) ⟨nx, rt, bk, ct⟩ ρ L := z_asg h
end
end Sx
namespace Sx
open PySem PySem.Spec PyProof.Rows L2
section
variable {K : PySem.W.Frag} {ρ : List Sl} {L : Chs} {gs : TGs} {vs : List Nat} {a b c : Dt} {N : List Sl → Chs → Prop}
theorem v_tup2 (h : WVs K gs vs [.dt a, .dt b] ρ L N) : WV K (gTup K 2 gs) vs (.dt (.tup [a, b])) ρ L N := v_tup rfl h
theorem v_tup3 (h : WVs K gs vs [.dt a, .dt b, .dt c] ρ L N) : WV K (gTup K 3 gs) vs (.dt (.tup [a, b, c])) ρ L N := v_tup rfl h
theorem g_tup2 (h : WGs K gs [.dt a, .dt b] ρ L N) : WG K (gTup K 2 gs) (.dt (.tup [a, b])) ρ L N := g_tup rfl h
theorem g_tup3 (h : WGs K gs [.dt a, .dt b, .dt c] ρ L N) : WG K (gTup K 3 gs) (.dt (.tup [a, b, c])) ρ L N := g_tup rfl h
theorem filter_tt {α : Type} (l : List α) : l.filter (fun _ => true) = l := List.filter_eq_self.mpr fun _ _ => rfl
end
end Sx
namespace Sx
open PySem PySem.Spec PyProof.Rows L2

/-! max(xs, default=d) -/
theorem max_kwa (a v : Value) : argsOk "max" ⟨[a], [(Str.ofString "default", v)]⟩ := by unfold argsOk; kernel_rfl
theorem max_go {prog : Program} {w : World} {A : Around} {R : Result → Shared → Prop} {I S : Addr} {fp wr : List Addr} {n : Nat} {Pv : Nat → Value → Prop} {St : Nat → Heap → Prop} {val : Nat → Int} {kw : List (Str × Value)}
    (Wk : Walks prog w A.in1 I fp wr n Pv St) (hv : ∀ i v, Pv i v → ∃ t, v = .int (val i) t) (out : S ∉ fp) :
    ∀ (left j : Nat) (s : Shared) (m : Int) (tm : Tok) (c : Nat), n - (j + 1) = left → j + 1 ≤ n → St (j + 1) s.heap → (∃ i, i ≤ j ∧ val i = m) → (∀ i, i ≤ j → val i ≤ m) →
    s.heap.get? S = some { cls := .type "list", dict := none, data := .seq #[.int m tm, .int m tm] c, slots := #[] } →
    (∀ m t h' tk, (∃ i, i < n ∧ val i = m) → (∀ i, i < n → val i ≤ m) → (∀ b o, b ∉ wr → b ≠ S → s.heap.get? b = some o → h'.get? b = some o) → R (.ok (.ret (.int m t))) { s with heap := h', toks := tk }) →
    codeAny (model prog w) A (.builtin "max.loop" ⟨[.ref I, .none, .ref S], kw⟩) R s := by
  have outw : S ∉ wr := fun h => out (Wk.sub _ h)
  have nm : (toString "max" ++ toString ".loop" : String) = "max.loop" := by decide
  have cmp := CmpOf.ints_gt (prog := prog) (w := w) (A := A.in1) (P := Pv) val hv
  intro left
  induction left with
  | zero =>
    intro j s m tm c hk hj st hm hle at_ fin
    have e : j + 1 = n := by omega
    refine codeAny_builtin PySem.F.entry_max_loop ?_
    rw [Around.under_plainId PySem.F.plain_max_loop _]
    show wpAny _ A.in1 (seqItems? (Value.ref S) >>= _) _ _ s
    refine wpAny_bind (wpAny_seqItems at_ rfl ?_)
    show wpAny _ A.in1 (tryCatch (pyNext (Value.ref I)) _ >>= _) _ _ s
    refine wpAny_bind (wpAny_tryCatch (Wk.done s _ _ (e ▸ st) fun h1 tk1 keep => ?_))
    have at2 := keep S _ outw at_
    show wpAny _ A.in1 (updateSeq S (fun _ => #[]) >>= _) _ _ { s with heap := h1, toks := tk1 }
    refine wpAny_bind (wpAny_updateSeq at2 rfl (wpAny_bind (wpAny_letGo (wpAny_pure ?_))))
    obtain ⟨i, hi, ei⟩ := hm
    exact fin m tm _ tk1 ⟨i, by omega, ei⟩ (fun i h => hle i (by omega)) fun b o hb hS e => (Heap.get?_update_other _ _ (Ne.symm hS)).trans (keep b o hb e)
  | succ left ih =>
    intro j s m tm c hk hj st hm hle at_ fin
    have lt : j + 1 < n := by omega
    refine codeAny_builtin PySem.F.entry_max_loop ?_
    rw [Around.under_plainId PySem.F.plain_max_loop _]
    show wpAny _ A.in1 (seqItems? (Value.ref S) >>= _) _ _ s
    refine wpAny_bind (wpAny_seqItems at_ rfl ?_)
    show wpAny _ A.in1 (tryCatch (pyNext (Value.ref I)) _ >>= _) _ _ s
    refine wpAny_bind (wpAny_tryCatch (Wk.item (j + 1) s _ _ lt st fun v h1 tk1 hp st1 keep => ?_))
    have at2 := keep S _ outw at_
    obtain ⟨t, rfl⟩ := hv _ _ hp
    obtain ⟨i0, hi0, ei0⟩ := hm
    show wpAny _ A.in1 (tryCatch (holding [Value.int (val (j + 1)) t, Value.int (val (j + 1)) t] (richCompare .Gt (Value.int (val (j + 1)) t) (Value.int m tm) >>= _)) _ >>= _) _ _ { s with heap := h1, toks := tk1 }
    refine wpAny_bind (wpAny_tryCatch (wpAny_holding (wpAny_bind ?_)))
    refine richCompare_gives (op := .Gt) (typeIs_int _ _ t) (typeIs_int _ _ tm) PySem.F.slot_int_gt PySem.F.entry_int_gt (PySem.F.args_int_gt_2 _ _) (gives_int_gt _ _ t tm) (fun x => nomatch x) ?_
    refine wpAny_bind (wpAny_holding (wpAny_truthy_bool ?_))
    refine wpAny_bind (wpAny_letGo (wpAny_pure ?_))
    by_cases hb : val (j + 1) > m
    · simp only [decide_eq_true hb, if_true]
      refine wpAny_bind (wpAny_updateSeq at2 rfl (wpAny_bind (wpAny_letGo ?_)))
      rw [nm]
      refine wpAny_pure ⟨plainId_quiet PySem.F.plain_max_loop _, ih (j + 1) _ (val (j + 1)) t _ (by omega) lt (Wk.frame _ _ _ st1 fun b hf o e => ?_) ⟨j + 1, Nat.le_refl _, rfl⟩ (fun i hi => ?_) (Heap.get?_update_self _ at2 rfl) fun m2 t2 h2 tk2 a b keep2 => ?_⟩
      · exact (Heap.get?_update_other _ _ (fun h : S = b => out (by rw [h]; exact hf))).trans e
      · by_cases q : i = j + 1
        · subst q; exact Int.le_refl _
        · have := hle i (by omega); omega
      · exact fin m2 t2 h2 tk2 a b fun x o hb hS e => keep2 x o hb hS ((Heap.get?_update_other _ _ (Ne.symm hS)).trans (keep x o hb e))
    · simp only [decide_eq_false hb, Bool.false_eq_true, if_false]
      refine wpAny_bind (wpAny_letGo ?_)
      rw [nm]
      refine wpAny_pure ⟨plainId_quiet PySem.F.plain_max_loop _, ih (j + 1) _ m tm c (by omega) lt st1 ⟨i0, by omega, ei0⟩ (fun i hi => ?_) at2 fun m2 t2 h2 tk2 a b keep2 => ?_⟩
      · by_cases q : i = j + 1
        · subst q; omega
        · exact hle i (by omega)
      · exact fin m2 t2 h2 tk2 a b fun x o hb hS e => keep2 x o hb hS (keep x o hb e)
theorem max_start {prog : Program} {w : World} {A : Around} {R : Result → Shared → Prop} {I S : Addr} {fp wr : List Addr} {n : Nat} {Pv : Nat → Value → Prop} {St : Nat → Heap → Prop} {val : Nat → Int} {d : Value} {s : Shared} {c : Nat}
    (Wk : Walks prog w A.in1 I fp wr n Pv St) (hv : ∀ i v, Pv i v → ∃ t, v = .int (val i) t) (out : S ∉ fp) (st : St 0 s.heap) (at_ : s.heap.get? S = some { cls := .type "list", dict := none, data := .seq #[] c, slots := #[] })
    (nil : n = 0 → ∀ h' tk, (∀ b o, b ∉ wr → b ≠ S → s.heap.get? b = some o → h'.get? b = some o) → R (.ok (.ret d)) { s with heap := h', toks := tk })
    (fin : ∀ m t h' tk, (∃ i, i < n ∧ val i = m) → (∀ i, i < n → val i ≤ m) → (∀ b o, b ∉ wr → b ≠ S → s.heap.get? b = some o → h'.get? b = some o) → R (.ok (.ret (.int m t))) { s with heap := h', toks := tk }) :
    codeAny (model prog w) A (.builtin "max.loop" ⟨[.ref I, .none, .ref S], [(Str.ofString "default", d)]⟩) R s := by
  have outw : S ∉ wr := fun h => out (Wk.sub _ h)
  have nm : (toString "max" ++ toString ".loop" : String) = "max.loop" := by decide
  refine codeAny_builtin PySem.F.entry_max_loop ?_
  rw [Around.under_plainId PySem.F.plain_max_loop _]
  show wpAny _ A.in1 (seqItems? (Value.ref S) >>= _) _ _ s
  refine wpAny_bind (wpAny_seqItems at_ rfl ?_)
  show wpAny _ A.in1 (tryCatch (pyNext (Value.ref I)) _ >>= _) _ _ s
  by_cases hn : n = 0
  · refine wpAny_bind (wpAny_tryCatch (Wk.done s _ _ (hn ▸ st) fun h1 tk1 keep => ?_))
    exact wpAny_bind (wpAny_rule (wpAny_pure (nil hn h1 tk1 fun b o hb _ e => keep b o hb e)))
  · refine wpAny_bind (wpAny_tryCatch (Wk.item 0 s _ _ (by omega) st fun v h1 tk1 hp st1 keep => ?_))
    have at2 := keep S _ outw at_
    obtain ⟨t, rfl⟩ := hv _ _ hp
    show wpAny _ A.in1 (updateSeq S (fun _ => #[Value.int (val 0) t, Value.int (val 0) t]) >>= _) _ _ { s with heap := h1, toks := tk1 }
    refine wpAny_bind (wpAny_updateSeq at2 rfl ?_)
    rw [nm]
    refine wpAny_pure ⟨plainId_quiet PySem.F.plain_max_loop _, max_go Wk hv out _ 0 _ (val 0) t _ rfl (by omega) (Wk.frame _ _ _ st1 fun b hf o e => ?_) ⟨0, Nat.le_refl _, rfl⟩ (fun i hi => ?_) (Heap.get?_update_self _ at2 rfl) fun m2 t2 h2 tk2 a b keep2 => ?_⟩
    · exact (Heap.get?_update_other _ _ (fun h : S = b => out (by rw [h]; exact hf))).trans e
    · have : i = 0 := by omega
      subst this
      exact Int.le_refl _
    · exact fin m2 t2 h2 tk2 a b fun x o hb hS e => keep2 x o hb hS ((Heap.get?_update_other _ _ (Ne.symm hS)).trans (keep x o hb e))
theorem max_dflt {prog : Program} {w : World} {A : Around} {E : Value → Shared → Prop} {s : Shared} {l : Addr} {its : List Value} {ns : List Int} {d : Value} {Q : Value → Shared → Prop} (hh : A.handled = none) (hl : s.heap.IsList l its.toArray) (hi : IntsAre its ns)
    (nil : ns = [] → ∀ h' tk, (∀ b o, s.heap.get? b = some o → h'.get? b = some o) → Q d { s with heap := h', toks := tk })
    (fin : ∀ m t h' tk, m ∈ ns → (∀ y, y ∈ ns → y ≤ m) → (∀ b o, s.heap.get? b = some o → h'.get? b = some o) → Q (.int m t) { s with heap := h', toks := tk }) :
    wpAny (model prog w) A (call (.builtin "max") [.ref l] [(Str.ofString "default", d)]) Q E s := by
  have nm : (toString "max" ++ toString ".loop" : String) = "max.loop" := by decide
  refine kmk_tree PySem.F.kind_max PySem.F.plain_max PySem.F.entry_max (max_kwa _ _) ?_
  show wpAny _ A.in1 (Builtin.Builtins.bindParams "max" ["key", "default"] 0 ⟨[], [(Str.ofString "default", d)]⟩ >>= _) _ _ s
  refine wpAny_bind (wpAny_of_eq (show Builtin.Builtins.bindParams "max" ["key", "default"] 0 ⟨[], [(Str.ofString "default", d)]⟩ = pure [none, some d] from rfl) ?_)
  refine wpAny_bind (wpAny_pure ?_)
  have hlt : l < s.heap.objs.size := by obtain ⟨_, e, _⟩ := hl; exact Heap.lt_size e
  refine wpAny_bind (wpAny_pyIter_list hl ?_)
  refine wpAny_bind (wpAny_newObj_type ?_)
  rw [nm]
  have hsz : (s.heap.push { cls := .type "list_iterator", data := .fields #[.ref l, .int 0 0] }).objs.size = s.heap.objs.size + 1 := Heap.size_push ..
  have ne : l ≠ s.heap.objs.size := Nat.ne_of_lt hlt
  have gI : ((s.heap.push { cls := .type "list_iterator", data := .fields #[.ref l, .int 0 0] }).push { cls := .type "list", data := .seq #[] }).get? s.heap.objs.size = some { cls := .type "list_iterator", data := .fields #[.ref l, .int 0 0] } := Heap.get?_push_of_some _ (Heap.get?_push_size _ rfl)
  have hn : its.toArray.size = ns.length := by rw [List.size_toArray]; exact hi.length
  refine wpAny_pure ⟨plainId_quiet PySem.F.plain_max_loop _, ?_⟩
  refine max_start (Walks.list (A := A.in1) hh s.heap.objs.size l ne its.toArray) (val := fun i => ns.getD i 0) (fun i v hv => ?_) ?_ ⟨⟨_, gI, rfl, rfl⟩, ?_⟩ (Heap.get?_push_size _ rfl) (fun h0 h' tk keep => ?_) fun m t h' tk hm hle keep => ?_
  · have hv : its[i]? = some v := by simpa using hv
    obtain ⟨z, t, e, hz⟩ := IntsAre.at hi i v hv
    exact ⟨t, by rw [e, List.getD_eq_getElem?_getD, hz]; rfl⟩
  · intro hm
    have z : (s.heap.push { cls := .type "list_iterator", data := .fields #[.ref l, .int 0 0] }).objs.size = s.heap.objs.size ∨ (s.heap.push { cls := .type "list_iterator", data := .fields #[.ref l, .int 0 0] }).objs.size = l := by
      rcases List.mem_cons.mp hm with e | hm
      · exact .inl e
      · exact .inr (List.mem_singleton.mp hm)
    rw [hsz] at z
    have hlt2 : (l : Nat) < s.heap.objs.size := hlt
    rcases z with z | z
    · exact Nat.succ_ne_self _ z
    · rw [← z] at hlt2
      exact Nat.not_succ_le_self _ (Nat.le_of_succ_le hlt2)
  · obtain ⟨o, e, r⟩ := hl
    exact ⟨o, Heap.get?_push_of_some _ (Heap.get?_push_of_some _ e), r⟩
  · refine nil (List.length_eq_zero_iff.mp (by omega)) h' tk fun b o e => keep b o (fun hm => ?_) (fun hm => ?_) (Heap.get?_push_of_some _ (Heap.get?_push_of_some _ e))
    · have lt := Heap.lt_size e
      rw [List.mem_singleton.mp hm] at lt
      exact Nat.lt_irrefl _ lt
    · have lt := Heap.lt_size e
      rw [hm, hsz] at lt
      exact Nat.not_succ_le_self _ (Nat.le_of_succ_le lt)
  · refine fin m t h' tk ?_ (fun y hy => ?_) fun b o e => keep b o (fun hm => ?_) (fun hm => ?_) (Heap.get?_push_of_some _ (Heap.get?_push_of_some _ e))
    · obtain ⟨i, hi2, e⟩ := hm
      rw [← e, List.getD_eq_getElem?_getD, List.getElem?_eq_getElem (by omega)]
      exact List.getElem_mem _
    · obtain ⟨i, hi2, e⟩ := List.mem_iff_getElem.mp hy
      have := hle i (by omega)
      rw [List.getD_eq_getElem?_getD, List.getElem?_eq_getElem hi2] at this
      rw [← e]; exact this
    · have lt := Heap.lt_size e
      rw [List.mem_singleton.mp hm] at lt
      exact Nat.lt_irrefl _ lt
    · have lt := Heap.lt_size e
      rw [hm, hsz] at lt
      exact Nat.not_succ_le_self _ (Nat.le_of_succ_le lt)
def rmaxD (K : PySem.W.Frag) : List V → List V → Hp → VK → Prop := fun vs zs H Q => ∃ (a : Addr) (ns : List Int) (d : V), vs = [.ref a] ∧ zs = [d] ∧ SqL K H a (ns.map V.int) ∧ (ns = [] → Q d H) ∧ ∀ m, m ∈ ns → (∀ y, y ∈ ns → y ≤ m) → Q (.int m) H
theorem k_maxD {X : Cx} (K : PySem.W.Frag) (hc : X.calm = true) (hK : X.K = K := by rfl) : CallRK X (.builtin "max") [Str.ofString "default"] (rmaxD K) := by
  subst hK
  intro pins s σ H vs zs us ws Q I r rz h
  obtain ⟨a, ns, d, rfl, rfl, hs, q0, q⟩ := h
  obtain ⟨its, rv, hl, _⟩ := I.list hs
  rw [Vals.ref1 r]
  cases rz with
  | cons rd t =>
    cases t
    show wpAny (model X.prog X.w) X.A (call (.builtin "max") [.ref a] [(Str.ofString "default", _)]) (EP X pins σ Q) X.xe s
    exact max_dflt (I.ok.hd hc) hl.isList rv.ints (fun e h' tk hk => ⟨d, H, I.kept hk, rd, q0 e⟩) fun m t h' tk h1 h2 hk => ⟨.int m, H, I.kept hk, ⟨_, rfl⟩, q m h1 h2⟩

/-! min(xs, default=d) -/
theorem min_kwa (a v : Value) : argsOk "min" ⟨[a], [(Str.ofString "default", v)]⟩ := by unfold argsOk; kernel_rfl
theorem min_go {prog : Program} {w : World} {A : Around} {R : Result → Shared → Prop} {I S : Addr} {fp wr : List Addr} {n : Nat} {Pv : Nat → Value → Prop} {St : Nat → Heap → Prop} {val : Nat → Int} {kw : List (Str × Value)}
    (Wk : Walks prog w A.in1 I fp wr n Pv St) (hv : ∀ i v, Pv i v → ∃ t, v = .int (val i) t) (out : S ∉ fp) :
    ∀ (left j : Nat) (s : Shared) (m : Int) (tm : Tok) (c : Nat), n - (j + 1) = left → j + 1 ≤ n → St (j + 1) s.heap → (∃ i, i ≤ j ∧ val i = m) → (∀ i, i ≤ j → m ≤ val i) →
    s.heap.get? S = some { cls := .type "list", dict := none, data := .seq #[.int m tm, .int m tm] c, slots := #[] } →
    (∀ m t h' tk, (∃ i, i < n ∧ val i = m) → (∀ i, i < n → m ≤ val i) → (∀ b o, b ∉ wr → b ≠ S → s.heap.get? b = some o → h'.get? b = some o) → R (.ok (.ret (.int m t))) { s with heap := h', toks := tk }) →
    codeAny (model prog w) A (.builtin "min.loop" ⟨[.ref I, .none, .ref S], kw⟩) R s := by
  have outw : S ∉ wr := fun h => out (Wk.sub _ h)
  have nm : (toString "min" ++ toString ".loop" : String) = "min.loop" := by decide
  have cmp := CmpOf.ints_lt (prog := prog) (w := w) (A := A.in1) (P := Pv) val hv
  intro left
  induction left with
  | zero =>
    intro j s m tm c hk hj st hm hle at_ fin
    have e : j + 1 = n := by omega
    refine codeAny_builtin PySem.F.entry_min_loop ?_
    rw [Around.under_plainId PySem.F.plain_min_loop _]
    show wpAny _ A.in1 (seqItems? (Value.ref S) >>= _) _ _ s
    refine wpAny_bind (wpAny_seqItems at_ rfl ?_)
    show wpAny _ A.in1 (tryCatch (pyNext (Value.ref I)) _ >>= _) _ _ s
    refine wpAny_bind (wpAny_tryCatch (Wk.done s _ _ (e ▸ st) fun h1 tk1 keep => ?_))
    have at2 := keep S _ outw at_
    show wpAny _ A.in1 (updateSeq S (fun _ => #[]) >>= _) _ _ { s with heap := h1, toks := tk1 }
    refine wpAny_bind (wpAny_updateSeq at2 rfl (wpAny_bind (wpAny_letGo (wpAny_pure ?_))))
    obtain ⟨i, hi, ei⟩ := hm
    exact fin m tm _ tk1 ⟨i, by omega, ei⟩ (fun i h => hle i (by omega)) fun b o hb hS e => (Heap.get?_update_other _ _ (Ne.symm hS)).trans (keep b o hb e)
  | succ left ih =>
    intro j s m tm c hk hj st hm hle at_ fin
    have lt : j + 1 < n := by omega
    refine codeAny_builtin PySem.F.entry_min_loop ?_
    rw [Around.under_plainId PySem.F.plain_min_loop _]
    show wpAny _ A.in1 (seqItems? (Value.ref S) >>= _) _ _ s
    refine wpAny_bind (wpAny_seqItems at_ rfl ?_)
    show wpAny _ A.in1 (tryCatch (pyNext (Value.ref I)) _ >>= _) _ _ s
    refine wpAny_bind (wpAny_tryCatch (Wk.item (j + 1) s _ _ lt st fun v h1 tk1 hp st1 keep => ?_))
    have at2 := keep S _ outw at_
    obtain ⟨t, rfl⟩ := hv _ _ hp
    obtain ⟨i0, hi0, ei0⟩ := hm
    show wpAny _ A.in1 (tryCatch (holding [Value.int (val (j + 1)) t, Value.int (val (j + 1)) t] (richCompare .Lt (Value.int (val (j + 1)) t) (Value.int m tm) >>= _)) _ >>= _) _ _ { s with heap := h1, toks := tk1 }
    refine wpAny_bind (wpAny_tryCatch (wpAny_holding (wpAny_bind ?_)))
    refine richCompare_gives (op := .Lt) (typeIs_int _ _ t) (typeIs_int _ _ tm) PySem.F.slot_int_lt PySem.F.entry_int_lt (PySem.F.args_int_lt_2 _ _) (gives_int_lt _ _ t tm) (fun x => nomatch x) ?_
    refine wpAny_bind (wpAny_holding (wpAny_truthy_bool ?_))
    refine wpAny_bind (wpAny_letGo (wpAny_pure ?_))
    by_cases hb : val (j + 1) < m
    · simp only [decide_eq_true hb, if_true]
      refine wpAny_bind (wpAny_updateSeq at2 rfl (wpAny_bind (wpAny_letGo ?_)))
      rw [nm]
      refine wpAny_pure ⟨plainId_quiet PySem.F.plain_min_loop _, ih (j + 1) _ (val (j + 1)) t _ (by omega) lt (Wk.frame _ _ _ st1 fun b hf o e => ?_) ⟨j + 1, Nat.le_refl _, rfl⟩ (fun i hi => ?_) (Heap.get?_update_self _ at2 rfl) fun m2 t2 h2 tk2 a b keep2 => ?_⟩
      · exact (Heap.get?_update_other _ _ (fun h : S = b => out (by rw [h]; exact hf))).trans e
      · by_cases q : i = j + 1
        · subst q; exact Int.le_refl _
        · have := hle i (by omega); omega
      · exact fin m2 t2 h2 tk2 a b fun x o hb hS e => keep2 x o hb hS ((Heap.get?_update_other _ _ (Ne.symm hS)).trans (keep x o hb e))
    · simp only [decide_eq_false hb, Bool.false_eq_true, if_false]
      refine wpAny_bind (wpAny_letGo ?_)
      rw [nm]
      refine wpAny_pure ⟨plainId_quiet PySem.F.plain_min_loop _, ih (j + 1) _ m tm c (by omega) lt st1 ⟨i0, by omega, ei0⟩ (fun i hi => ?_) at2 fun m2 t2 h2 tk2 a b keep2 => ?_⟩
      · by_cases q : i = j + 1
        · subst q; omega
        · exact hle i (by omega)
      · exact fin m2 t2 h2 tk2 a b fun x o hb hS e => keep2 x o hb hS (keep x o hb e)
theorem min_start {prog : Program} {w : World} {A : Around} {R : Result → Shared → Prop} {I S : Addr} {fp wr : List Addr} {n : Nat} {Pv : Nat → Value → Prop} {St : Nat → Heap → Prop} {val : Nat → Int} {d : Value} {s : Shared} {c : Nat}
    (Wk : Walks prog w A.in1 I fp wr n Pv St) (hv : ∀ i v, Pv i v → ∃ t, v = .int (val i) t) (out : S ∉ fp) (st : St 0 s.heap) (at_ : s.heap.get? S = some { cls := .type "list", dict := none, data := .seq #[] c, slots := #[] })
    (nil : n = 0 → ∀ h' tk, (∀ b o, b ∉ wr → b ≠ S → s.heap.get? b = some o → h'.get? b = some o) → R (.ok (.ret d)) { s with heap := h', toks := tk })
    (fin : ∀ m t h' tk, (∃ i, i < n ∧ val i = m) → (∀ i, i < n → m ≤ val i) → (∀ b o, b ∉ wr → b ≠ S → s.heap.get? b = some o → h'.get? b = some o) → R (.ok (.ret (.int m t))) { s with heap := h', toks := tk }) :
    codeAny (model prog w) A (.builtin "min.loop" ⟨[.ref I, .none, .ref S], [(Str.ofString "default", d)]⟩) R s := by
  have outw : S ∉ wr := fun h => out (Wk.sub _ h)
  have nm : (toString "min" ++ toString ".loop" : String) = "min.loop" := by decide
  refine codeAny_builtin PySem.F.entry_min_loop ?_
  rw [Around.under_plainId PySem.F.plain_min_loop _]
  show wpAny _ A.in1 (seqItems? (Value.ref S) >>= _) _ _ s
  refine wpAny_bind (wpAny_seqItems at_ rfl ?_)
  show wpAny _ A.in1 (tryCatch (pyNext (Value.ref I)) _ >>= _) _ _ s
  by_cases hn : n = 0
  · refine wpAny_bind (wpAny_tryCatch (Wk.done s _ _ (hn ▸ st) fun h1 tk1 keep => ?_))
    exact wpAny_bind (wpAny_rule (wpAny_pure (nil hn h1 tk1 fun b o hb _ e => keep b o hb e)))
  · refine wpAny_bind (wpAny_tryCatch (Wk.item 0 s _ _ (by omega) st fun v h1 tk1 hp st1 keep => ?_))
    have at2 := keep S _ outw at_
    obtain ⟨t, rfl⟩ := hv _ _ hp
    show wpAny _ A.in1 (updateSeq S (fun _ => #[Value.int (val 0) t, Value.int (val 0) t]) >>= _) _ _ { s with heap := h1, toks := tk1 }
    refine wpAny_bind (wpAny_updateSeq at2 rfl ?_)
    rw [nm]
    refine wpAny_pure ⟨plainId_quiet PySem.F.plain_min_loop _, min_go Wk hv out _ 0 _ (val 0) t _ rfl (by omega) (Wk.frame _ _ _ st1 fun b hf o e => ?_) ⟨0, Nat.le_refl _, rfl⟩ (fun i hi => ?_) (Heap.get?_update_self _ at2 rfl) fun m2 t2 h2 tk2 a b keep2 => ?_⟩
    · exact (Heap.get?_update_other _ _ (fun h : S = b => out (by rw [h]; exact hf))).trans e
    · have : i = 0 := by omega
      subst this
      exact Int.le_refl _
    · exact fin m2 t2 h2 tk2 a b fun x o hb hS e => keep2 x o hb hS ((Heap.get?_update_other _ _ (Ne.symm hS)).trans (keep x o hb e))
theorem min_dflt {prog : Program} {w : World} {A : Around} {E : Value → Shared → Prop} {s : Shared} {l : Addr} {its : List Value} {ns : List Int} {d : Value} {Q : Value → Shared → Prop} (hh : A.handled = none) (hl : s.heap.IsList l its.toArray) (hi : IntsAre its ns)
    (nil : ns = [] → ∀ h' tk, (∀ b o, s.heap.get? b = some o → h'.get? b = some o) → Q d { s with heap := h', toks := tk })
    (fin : ∀ m t h' tk, m ∈ ns → (∀ y, y ∈ ns → m ≤ y) → (∀ b o, s.heap.get? b = some o → h'.get? b = some o) → Q (.int m t) { s with heap := h', toks := tk }) :
    wpAny (model prog w) A (call (.builtin "min") [.ref l] [(Str.ofString "default", d)]) Q E s := by
  have nm : (toString "min" ++ toString ".loop" : String) = "min.loop" := by decide
  refine kmk_tree PySem.F.kind_min PySem.F.plain_min PySem.F.entry_min (min_kwa _ _) ?_
  show wpAny _ A.in1 (Builtin.Builtins.bindParams "min" ["key", "default"] 0 ⟨[], [(Str.ofString "default", d)]⟩ >>= _) _ _ s
  refine wpAny_bind (wpAny_of_eq (show Builtin.Builtins.bindParams "min" ["key", "default"] 0 ⟨[], [(Str.ofString "default", d)]⟩ = pure [none, some d] from rfl) ?_)
  refine wpAny_bind (wpAny_pure ?_)
  have hlt : l < s.heap.objs.size := by obtain ⟨_, e, _⟩ := hl; exact Heap.lt_size e
  refine wpAny_bind (wpAny_pyIter_list hl ?_)
  refine wpAny_bind (wpAny_newObj_type ?_)
  rw [nm]
  have hsz : (s.heap.push { cls := .type "list_iterator", data := .fields #[.ref l, .int 0 0] }).objs.size = s.heap.objs.size + 1 := Heap.size_push ..
  have ne : l ≠ s.heap.objs.size := Nat.ne_of_lt hlt
  have gI : ((s.heap.push { cls := .type "list_iterator", data := .fields #[.ref l, .int 0 0] }).push { cls := .type "list", data := .seq #[] }).get? s.heap.objs.size = some { cls := .type "list_iterator", data := .fields #[.ref l, .int 0 0] } := Heap.get?_push_of_some _ (Heap.get?_push_size _ rfl)
  have hn : its.toArray.size = ns.length := by rw [List.size_toArray]; exact hi.length
  refine wpAny_pure ⟨plainId_quiet PySem.F.plain_min_loop _, ?_⟩
  refine min_start (Walks.list (A := A.in1) hh s.heap.objs.size l ne its.toArray) (val := fun i => ns.getD i 0) (fun i v hv => ?_) ?_ ⟨⟨_, gI, rfl, rfl⟩, ?_⟩ (Heap.get?_push_size _ rfl) (fun h0 h' tk keep => ?_) fun m t h' tk hm hle keep => ?_
  · have hv : its[i]? = some v := by simpa using hv
    obtain ⟨z, t, e, hz⟩ := IntsAre.at hi i v hv
    exact ⟨t, by rw [e, List.getD_eq_getElem?_getD, hz]; rfl⟩
  · intro hm
    have z : (s.heap.push { cls := .type "list_iterator", data := .fields #[.ref l, .int 0 0] }).objs.size = s.heap.objs.size ∨ (s.heap.push { cls := .type "list_iterator", data := .fields #[.ref l, .int 0 0] }).objs.size = l := by
      rcases List.mem_cons.mp hm with e | hm
      · exact .inl e
      · exact .inr (List.mem_singleton.mp hm)
    rw [hsz] at z
    have hlt2 : (l : Nat) < s.heap.objs.size := hlt
    rcases z with z | z
    · exact Nat.succ_ne_self _ z
    · rw [← z] at hlt2
      exact Nat.not_succ_le_self _ (Nat.le_of_succ_le hlt2)
  · obtain ⟨o, e, r⟩ := hl
    exact ⟨o, Heap.get?_push_of_some _ (Heap.get?_push_of_some _ e), r⟩
  · refine nil (List.length_eq_zero_iff.mp (by omega)) h' tk fun b o e => keep b o (fun hm => ?_) (fun hm => ?_) (Heap.get?_push_of_some _ (Heap.get?_push_of_some _ e))
    · have lt := Heap.lt_size e
      rw [List.mem_singleton.mp hm] at lt
      exact Nat.lt_irrefl _ lt
    · have lt := Heap.lt_size e
      rw [hm, hsz] at lt
      exact Nat.not_succ_le_self _ (Nat.le_of_succ_le lt)
  · refine fin m t h' tk ?_ (fun y hy => ?_) fun b o e => keep b o (fun hm => ?_) (fun hm => ?_) (Heap.get?_push_of_some _ (Heap.get?_push_of_some _ e))
    · obtain ⟨i, hi2, e⟩ := hm
      rw [← e, List.getD_eq_getElem?_getD, List.getElem?_eq_getElem (by omega)]
      exact List.getElem_mem _
    · obtain ⟨i, hi2, e⟩ := List.mem_iff_getElem.mp hy
      have := hle i (by omega)
      rw [List.getD_eq_getElem?_getD, List.getElem?_eq_getElem hi2] at this
      rw [← e]; exact this
    · have lt := Heap.lt_size e
      rw [List.mem_singleton.mp hm] at lt
      exact Nat.lt_irrefl _ lt
    · have lt := Heap.lt_size e
      rw [hm, hsz] at lt
      exact Nat.not_succ_le_self _ (Nat.le_of_succ_le lt)
def rminD (K : PySem.W.Frag) : List V → List V → Hp → VK → Prop := fun vs zs H Q => ∃ (a : Addr) (ns : List Int) (d : V), vs = [.ref a] ∧ zs = [d] ∧ SqL K H a (ns.map V.int) ∧ (ns = [] → Q d H) ∧ ∀ m, m ∈ ns → (∀ y, y ∈ ns → m ≤ y) → Q (.int m) H
theorem k_minD {X : Cx} (K : PySem.W.Frag) (hc : X.calm = true) (hK : X.K = K := by rfl) : CallRK X (.builtin "min") [Str.ofString "default"] (rminD K) := by
  subst hK
  intro pins s σ H vs zs us ws Q I r rz h
  obtain ⟨a, ns, d, rfl, rfl, hs, q0, q⟩ := h
  obtain ⟨its, rv, hl, _⟩ := I.list hs
  rw [Vals.ref1 r]
  cases rz with
  | cons rd t =>
    cases t
    show wpAny (model X.prog X.w) X.A (call (.builtin "min") [.ref a] [(Str.ofString "default", _)]) (EP X pins σ Q) X.xe s
    exact min_dflt (I.ok.hd hc) hl.isList rv.ints (fun e h' tk hk => ⟨d, H, I.kept hk, rd, q0 e⟩) fun m t h' tk h1 h2 hk => ⟨.int m, H, I.kept hk, ⟨_, rfl⟩, q m h1 h2⟩

section
variable {K : PySem.W.Frag} {ρ : List Sl} {L : Chs} {Φ : Pd} {aa kk : TA}
def WCK (K : PySem.W.Frag) (r : List V → List V → Hp → VK → Prop) (xs ys : List Sl) (L : Chs) (Φ : Pd) : Prop :=
  ∀ (Fr : List (Addr × HO)) (B : Hp) (H : Hp) (Q : VK) (vs us : List V), Hc K B L Fr H → Paired (SlR K B) xs vs → Paired (SlR K B) ys us → (∀ r L' v B' H', Φ r L' → Le B B' → Hc K B' L' Fr H' → SlR K B' r v → Q v H') → r vs us H Q
theorem w_ckw {f : List V → List V → Hp → VK → Prop} (h : WA K aa ρ L fun xs L1 => WA K kk ρ L1 fun ys L2 => WCK K f xs ys L2 Φ) : WE K (tCKw f aa kk) ρ L Φ := by
  intro Fr B σ H Q he hc k
  refine h Fr B σ H _ he hc fun xs L1 vs B1 H1 h1 s1 hc1 r1 => ?_
  refine h1 Fr B1 σ H1 _ (he.mono s1) hc1 fun ys L2 us B2 H2 h2 s2 hc2 r2 => ?_
  exact h2 Fr B2 H2 Q vs us hc2 (Paired.mapP r1 fun _ _ q => q.mono s2) r2 fun r L' v B' H' a b c d => k r L' v B' H' a ((s1.trans s2).trans b) c d
theorem c_maxD {ns : List Int} {d : Sl} (q0 : ns = [] → Φ d L) (q : ∀ m, m ∈ ns → (∀ y, y ∈ ns → y ≤ m) → Φ (.dt (.int m)) L) : WCK K (rmaxD K) [.dt (.lst (ns.map .int))] [d] L Φ := by
  intro Fr B H Q vs us hc rs rz k
  obtain ⟨a, rfl, hs⟩ := one_ints hc.seq rs
  cases rz with
  | cons rd t =>
    cases t
    exact ⟨a, ns, _, rfl, rfl, hs, fun e => k _ L _ B H (q0 e) (Le.refl B) hc rd, fun m h1 h2 => k _ L _ B H (q m h1 h2) (Le.refl B) hc (.int m)⟩
theorem c_minD {ns : List Int} {d : Sl} (q0 : ns = [] → Φ d L) (q : ∀ m, m ∈ ns → (∀ y, y ∈ ns → m ≤ y) → Φ (.dt (.int m)) L) : WCK K (rminD K) [.dt (.lst (ns.map .int))] [d] L Φ := by
  intro Fr B H Q vs us hc rs rz k
  obtain ⟨a, rfl, hs⟩ := one_ints hc.seq rs
  cases rz with
  | cons rd t =>
    cases t
    exact ⟨a, ns, _, rfl, rfl, hs, fun e => k _ L _ B H (q0 e) (Le.refl B) hc rd, fun m h1 h2 => k _ L _ B H (q m h1 h2) (Le.refl B) hc (.int m)⟩
end
end Sx
namespace Sx
open PySem PySem.Spec PyProof.Rows L2
/-- what every law promises -/
def F_law : List Sl → Chs → Pd → Prop := fun ss L Φ => ∃ ns : List Int, ss = [.dt (.scr ns)] ∧ L = [] ∧ ns.length ≤ 63 ∧ ∀ L', Φ (.dt (.bl true)) L'
theorem law_in {K : PySem.W.Frag} {H : Hp} {a : Addr} {ns : List Int} {E : XK} (hl : ns.length ≤ 63) (hS : SqL K H a (ns.map V.int)) : SpD K F_law [.ref a] H (fun v _ => v = .bl true) E :=
  ⟨H, [], [.dt (.scr ns)], [], fun r _ => r = .dt (.bl true), .cons (.scr hS) .nil, ⟨[], .nil, Hd.base H⟩, ⟨ns, rfl, rfl, hl, fun _ => rfl⟩, fun r L' v B' H' e _ _ rv => by subst e; cases rv; rfl⟩
theorem f_law_len {ss : List Sl} {L : Chs} {Φ : Pd} (h : F_law ss L Φ) : ss.length = 1 := by
  obtain ⟨_, e, _⟩ := h
  rw [e]; rfl
end Sx
namespace Sx
open PySem PySem.Spec PyProof.Rows L2
section
variable {K : PySem.W.Frag} {ρ : List Sl} {L : Chs} {t u : TS} {nx bk ct : List Sl → Chs → Prop} {rt : Pd}
/-- a state that several ways lead to -/
def Mid (I : List Sl → Chs → Prop) (ρ : List Sl) (L : Chs) : Prop := ∃ ρ2 L2 M, Wk ρ ρ2 ∧ L.Perm (L2 ++ M) ∧ I ρ2 L2
theorem z_mid (I : List Sl → Chs → Prop) (h1 : WS K t ⟨Mid I, rt, bk, ct⟩ ρ L) (h2 : ∀ ρ' L', I ρ' L' → WS K u ⟨nx, rt, bk, ct⟩ ρ' L') : WS K (tSeq t u) ⟨nx, rt, bk, ct⟩ ρ L := by
  refine z_seq fun Fr B σ H D' he hc ok => h1 Fr B σ H D' he hc ⟨fun ρ' L' σ' B' H' a s e c => ?_, ok.rt, ok.bk, ok.ct⟩
  obtain ⟨ρ2, L2, M, wk, p, q⟩ := a
  obtain ⟨B2, s2, c2⟩ := Hc.cut M (c.perm p)
  exact ok.nx ρ2 L2 σ' B2 H' (h2 ρ2 L2 q) (s.trans s2) ((wk.en e).mono s2) c2
end
end Sx
namespace Sx
open PySem PySem.Spec PyProof.Rows L2
/-- data without dicts, nested at most c deep -/
def Tp (c : Nat) (d : Dt) : Prop := ∃ p, toP d = some p ∧ p.depth ≤ c
theorem tp_str {c : Nat} {x : Str} : Tp c (.str x) := ⟨_, rfl, Nat.zero_le _⟩
theorem tp_int {c : Nat} {x : Int} : Tp c (.int x) := ⟨_, rfl, Nat.zero_le _⟩
theorem tp_bl {c : Nat} {x : Bool} : Tp c (.bl x) := ⟨_, rfl, Nat.zero_le _⟩
theorem tp_non {c : Nat} : Tp c .non := ⟨_, rfl, Nat.zero_le _⟩
theorem toPs_all {c : Nat} : ∀ {ds : List Dt}, (∀ d ∈ ds, Tp c d) → ∃ ps, toPs ds = some ps ∧ PyData.depthAll ps ≤ c
  | [], _ => ⟨[], rfl, Nat.zero_le _⟩
  | d :: ds, h => by
    obtain ⟨p, e, l⟩ := h d List.mem_cons_self
    obtain ⟨ps, e2, l2⟩ := toPs_all fun x hx => h x (List.mem_cons_of_mem d hx)
    refine ⟨p :: ps, ?_, ?_⟩
    · rw [toPs, e, e2]
    · rw [PyData.depthAll]; exact Nat.max_le.mpr ⟨l, l2⟩
theorem tp_lst {c : Nat} {ds : List Dt} (h : ∀ d ∈ ds, Tp c d) : Tp (c + 1) (.lst ds) := by
  obtain ⟨ps, e, l⟩ := toPs_all h
  exact ⟨.list ps, by rw [toP, e]; rfl, by rw [PyData.depth]; omega⟩
theorem tp_tup {c : Nat} {ds : List Dt} (h : ∀ d ∈ ds, Tp c d) : Tp (c + 1) (.tup ds) := by
  obtain ⟨ps, e, l⟩ := toPs_all h
  exact ⟨.tuple ps, by rw [toP, e]; rfl, by rw [PyData.depth]; omega⟩
theorem Tp.mono {c e : Nat} {d : Dt} (h : Tp c d) (l : c ≤ e) : Tp e d := by
  obtain ⟨p, a, b⟩ := h
  exact ⟨p, a, Nat.le_trans b l⟩
theorem all2 {α : Type} {p : α → Prop} {a b : α} (ha : p a) (hb : p b) : ∀ x ∈ [a, b], p x := fun x h => by
  rcases List.mem_cons.mp h with e | h
  · rw [e]; exact ha
  · rw [List.mem_singleton.mp h]; exact hb
theorem all3 {α : Type} {p : α → Prop} {a b c : α} (ha : p a) (hb : p b) (hc : p c) : ∀ x ∈ [a, b, c], p x := fun x h => by
  rcases List.mem_cons.mp h with e | h
  · rw [e]; exact ha
  · exact all2 hb hc x h
theorem all_map {α β : Type} {p : β → Prop} {f : α → β} {l : List α} (h : ∀ x ∈ l, p (f x)) : ∀ y ∈ l.map f, p y := fun y hy => by
  obtain ⟨x, hx, e⟩ := List.mem_map.mp hy
  rw [← e]; exact h x hx
theorem tp_strs {c : Nat} {l : List Str} : Tp (c + 1) (.lst (l.map .str)) := tp_lst (all_map fun _ _ => tp_str)
end Sx
namespace Sx
theorem if_nt {A B : Prop} (h : B) : if (!true) = true then A else B := h
theorem if_nf {A B : Prop} (h : A) : if (!false) = true then A else B := h
end Sx
/-! the text by places -/
namespace T
open PySem PySem.Spec PyProof.Rows L2
def top (i : Nat) : Stmt := PySem.Challenge.pw_surepresses_k22_depth_of_a_plan.main.body.getD i (.Pass ⟨0, 0, 0, 0⟩)
abbrev s_depth : Stmt := top 1
abbrev s__law_source : Stmt := top 3
abbrev s__law_draw : Stmt := top 4
abbrev s__law_word : Stmt := top 5
abbrev s__law_names : Stmt := top 6
abbrev s__law_answer : Stmt := top 7
abbrev s__law_tree : Stmt := top 8
abbrev s__law_copy : Stmt := top 9
abbrev s__law_deep : Stmt := top 10
abbrev s_law : Stmt := top 11
abbrev N_depth : List Str := ["told", "answer", "rest"]
abbrev P_depth : List Str := ["told"]
theorem sc_depth : FnScope N_depth P_depth (defScope s_depth) := ⟨rfl, rfl, rfl, by decide +kernel, rfl, by decide +kernel, by decide +kernel⟩
abbrev N__law_source : List Str := ["_law_script", "_law_mixed", "_law_cell"]
abbrev P__law_source : List Str := ["_law_script"]
theorem sc__law_source : FnScope N__law_source P__law_source (defScope s__law_source) := ⟨rfl, rfl, rfl, by decide +kernel, rfl, by decide +kernel, by decide +kernel⟩
abbrev N__law_draw : List Str := ["_law_source_here", "_law_limit", "_law_cell", "_law_turn", "_law_mixed"]
abbrev P__law_draw : List Str := ["_law_source_here", "_law_limit"]
theorem sc__law_draw : FnScope N__law_draw P__law_draw (defScope s__law_draw) := ⟨rfl, rfl, rfl, by decide +kernel, rfl, by decide +kernel, by decide +kernel⟩
abbrev N__law_word : List Str := ["_law_source_here", "_law_letters", "_law_k"]
abbrev P__law_word : List Str := ["_law_source_here"]
theorem sc__law_word : FnScope N__law_word P__law_word (defScope s__law_word) := ⟨rfl, rfl, rfl, by decide +kernel, rfl, by decide +kernel, by decide +kernel⟩
abbrev N__law_names : List Str := ["_law_source_here", "_law_count", "_law_letters", "_law_word_here", "_law_names_here", "_law_k", "_law_way", "_law_at", "_law_letter", "_law_other", "_law_longer", "_law_some", "_law_spare", "_law_one"]
abbrev P__law_names : List Str := ["_law_source_here", "_law_count"]
theorem sc__law_names : FnScope N__law_names P__law_names (defScope s__law_names) := ⟨rfl, rfl, rfl, by decide +kernel, rfl, by decide +kernel, by decide +kernel⟩
abbrev N__law_answer : List Str := ["_law_source_here", "_law_model", "_law_pool", "_law_many", "_law_k"]
abbrev P__law_answer : List Str := ["_law_source_here", "_law_model"]
theorem sc__law_answer : FnScope N__law_answer P__law_answer (defScope s__law_answer) := ⟨rfl, rfl, rfl, by decide +kernel, rfl, by decide +kernel, by decide +kernel⟩
abbrev N__law_tree : List Str := ["_law_source_here", "_law_model", "_law_room", "_law_deep_here", "_law_pool", "_law_button", "_law_branches", "_law_k", "_law_answer_here"]
abbrev P__law_tree : List Str := ["_law_source_here", "_law_model", "_law_room", "_law_deep_here"]
theorem sc__law_tree : FnScope N__law_tree P__law_tree (defScope s__law_tree) := ⟨rfl, rfl, rfl, by decide +kernel, rfl, by decide +kernel, by decide +kernel⟩
abbrev N__law_copy : List Str := ["_law_said", "_law_branches", "_law_answer_here", "_law_rest"]
abbrev P__law_copy : List Str := ["_law_said"]
theorem sc__law_copy : FnScope N__law_copy P__law_copy (defScope s__law_copy) := ⟨rfl, rfl, rfl, by decide +kernel, rfl, by decide +kernel, by decide +kernel⟩
abbrev N__law_deep : List Str := ["_law_said", "_law_answer_here", "_law_rest"]
abbrev P__law_deep : List Str := ["_law_said"]
theorem sc__law_deep : FnScope N__law_deep P__law_deep (defScope s__law_deep) := ⟨rfl, rfl, rfl, by decide +kernel, rfl, by decide +kernel, by decide +kernel⟩
abbrev N_law : List Str := ["_law_script", "_law_source_here", "_law_k", "_law_pushes", "_law_model", "_law_chained", "_law_said", "_law_j", "_law_due", "_law_handed", "_law_found"]
abbrev P_law : List Str := ["_law_script"]
theorem sc_law : FnScope N_law P_law (defScope s_law) := ⟨rfl, rfl, rfl, by decide +kernel, rfl, by decide +kernel, by decide +kernel⟩
end T

namespace T
open PySem PySem.Spec PyProof.Rows L2 Sx
/-- what the top has written -/
structure Txt (K : PySem.W.Frag) (mg : Str → Option Value) : Prop where
  d_depth : Df K mg "depth" s_depth
  d__law_source : Df K mg "_law_source" s__law_source
  d__law_draw : Df K mg "_law_draw" s__law_draw
  d__law_word : Df K mg "_law_word" s__law_word
  d__law_names : Df K mg "_law_names" s__law_names
  d__law_answer : Df K mg "_law_answer" s__law_answer
  d__law_tree : Df K mg "_law_tree" s__law_tree
  d__law_copy : Df K mg "_law_copy" s__law_copy
  d__law_deep : Df K mg "_law_deep" s__law_deep
  d_law : Df K mg "law" s_law
  f_max : mg "max" = none
  f_int : mg "int" = none
  f_range : mg "range" = none
  f_len : mg "len" = none
  f_list : mg "list" = none
  f_isinstance : mg "isinstance" = none
  f_bool : mg "bool" = none
end T

namespace T
open PySem PySem.Spec PyProof.Rows L2 Sx
set_option hygiene false
/-! one step of the second calculus, by the form of what is to be shown -/
local macro_rules | `(tactic| walk_at "g0") => `(tactic| first
  | (with_reducible refine' z_seq ?_)
  | (with_reducible refine' z_new ?_)
  | (with_reducible refine' z_newK ?_)
  | (with_reducible refine' z_newT ?_)
  | ((fail_if_success (with_reducible refine' z_lst ?_)); (with_reducible refine' z_asg ?_))
  | ((with_reducible refine' w_v ?_); refine ⟨_, rfl, rfl, ?_⟩)
  | (with_reducible refine' w_int ?_)
  | (with_reducible refine' w_str ?_)
  | (with_reducible refine' w_op ?_)
  | (with_reducible refine' wd_cons ?_)
  | (with_reducible refine' wd_nil ?_)
  | (with_reducible refine' wa_cons ?_)
  | (with_reducible refine' wa_nil ?_)
  | (with_reducible refine' z_ret ?_)
  | (with_reducible refine' s_if ?_)
  | (with_reducible refine' z_drop ?_)
  | (with_reducible refine' z_next ?_)
  | (with_reducible refine' z_cont ?_)
  | (with_reducible refine' z_break ?_)
  | (with_reducible refine' wt_test ?_)
  | (with_reducible refine' wt_B ?_)
  | (with_reducible refine' r_II ?_)
  | (with_reducible refine' r_IB ?_)
  | (with_reducible refine' r_eqI ?_)
  | (with_reducible refine' r_eqS ?_)
  | (with_reducible refine' r_neI ?_)
  | (with_reducible refine' r_neS ?_)
  | (with_reducible refine' w_cb ?_)
  | (with_reducible refine' c_int1 ?_)
  | (with_reducible refine' w_tup ?_)
  | (with_reducible refine' w_dget ?_)
  | (with_reducible refine' w_bl ?_)
  | (with_reducible refine' w_non ?_)
  | (with_reducible refine' w_ty ?_)
  | (with_reducible refine' wt_and ?_)
  | (with_reducible refine' wt_or ?_)
  | (with_reducible refine' wt_not ?_)
  | (with_reducible refine' w_bmL ?_)
  | (with_reducible refine' w_bmL0 ?_)
  | (with_reducible refine' w_sl ?_)
  | (with_reducible refine' wo_none ?_)
  | (with_reducible refine' wo_some ?_)
  | (with_reducible refine' w_un ?_)
  | (with_reducible refine' r_neg ?_)
  | (with_reducible refine' r_isN ?_)
  | (with_reducible refine' r_notN ?_)
  | (with_reducible refine' c_lenL ?_)
  | (with_reducible refine' c_lenT ?_)
  | (with_reducible refine' c_listL ?_)
  | (with_reducible refine' c_listT ?_)
  | (with_reducible refine' c_intB ?_)
  | (with_reducible refine' w_and ?_)
  | (with_reducible refine' w_or ?_)
  | (with_reducible refine' w_not ?_)
  | (with_reducible refine' w_if ?_)
  | (with_reducible refine' z_retN ?_)
  | (with_reducible refine' l_list ?_)
  | (with_reducible refine' g_name ?_)
  | (with_reducible refine' gs_cons ?_)
  | (with_reducible refine' gs_nil ?_)
  | (with_reducible refine' g_tup2 ?_)
  | (with_reducible refine' g_tup3 ?_)
  | (with_reducible refine' z_setL ?_)
  | ((fail_if_success (with_reducible refine' z_lst ?_)); (with_reducible refine' z_asgG ?_))
  | ((with_reducible refine' v_name ?_ ?_); rfl)
  | (with_reducible refine' vs_cons ?_)
  | (with_reducible refine' vs_nil ?_)
  | (with_reducible refine' v_tup2 ?_)
  | (with_reducible refine' v_tup3 ?_)
  | (with_reducible refine' wt_yes ?_)
  | (with_reducible refine' wi_list ?_)
  | (with_reducible refine' wi_rng1 ?_)
  | (with_reducible refine' wi_rng2 ?_)
  | (with_reducible refine' wi_tup ?_)
  | (with_reducible refine' wi_str ?_)
  | (with_reducible refine' wi_enum ?_)
  | (with_reducible refine' wi_zip ?_)
  | ((with_reducible refine' z_aug ?_); refine ⟨_, rfl, ?_⟩)
  | (refine ⟨isls_d, ?_⟩)
  | (refine ⟨_, rfl, ?_⟩)
  | (refine ⟨_, _, rfl, rfl, ?_⟩)
  | (with_reducible refine' wp_cons ?_)
  | (with_reducible refine' wp_nil ?_)
  | (with_reducible refine' if_t ?_)
  | (with_reducible refine' if_f ?_)
  | (with_reducible refine' if_nt ?_)
  | (with_reducible refine' if_nf ?_)
  | (with_reducible refine' wt_yes ?_)
  | (with_reducible refine' w_src S_draw.m ?_)
  | (with_reducible refine' w_src S_word.m ?_)
  | (with_reducible refine' w_src S_names.m ?_)
  | (with_reducible refine' w_src S_answer.m ?_)
  | (refine ⟨lz rfl, ?_⟩)
  | ((with_reducible refine' r_mod ?_ ?_); omega)
  | ((with_reducible refine' r_fdiv ?_ ?_ ?_); omega; omega)
  | ((with_reducible refine' r_mul ?_ ?_); (first | exact Or.inl ⟨by omega, by omega⟩ | exact Or.inr ⟨by omega, by omega⟩)))
local macro_rules | `(tactic| walk_at "g1") => `(tactic| first | walk_at "g0" | (with_reducible refine' w_lst ?_))
local macro_rules | `(tactic| walk_at "go") => `(tactic| repeat walk_at "g1")
local macro_rules | `(tactic| walk_at "gn") => `(tactic| repeat walk_at "g0")
/-! weakening of slots -/
local macro_rules | `(tactic| walk_at "wk") => `(tactic| repeat (first | exact wk0 | refine wkk ?_ | refine wkn ?_))
local macro_rules | `(tactic| walk_at "dg") => `(tactic| first | refine ⟨_, _, rfl, dg_great, ?_⟩ | refine ⟨_, _, rfl, dg_mixed, ?_⟩ | refine ⟨_, _, rfl, dg_turn, ?_⟩)
local macro_rules | `(tactic| walk_at "gd") => `(tactic| repeat (first | walk_at "g1" | walk_at "dg"))
local macro_rules | `(tactic| walk_at "fz") => `(tactic| repeat (first | exact fz0 | refine fzp ?_ | refine fzk ?_))

/-! ### the source of draws -/
structure Z where
  G : List Int
  mx : Int
  tn : Int
def Zk (b : Nat) (z : Z) : Prop := (0 ≤ z.mx ∧ z.mx < 2305843009213693951) ∧ (0 ≤ z.tn ∧ z.tn ≤ b) ∧ z.G.length ≤ 63
abbrev srcD (g : Addr) (z : Z) : List (Key × Sl) := [(.inr "great", .pt g), (.inr "mixed", .dt (.int z.mx)), (.inr "turn", .dt (.int z.tn))]
def srcL (s g : Addr) (z : Z) : Chs := [(s, .dic (srcD g z)), (g, .lst (dts (z.G.map .int)))]
theorem val_great {g : Addr} {z : Z} : valG (srcD g z) (.inr "great") = some (.pt g) := rfl
theorem val_mixed {g : Addr} {z : Z} : valG (srcD g z) (.inr "mixed") = some (.dt (.int z.mx)) := rfl
theorem val_turn {g : Addr} {z : Z} : valG (srcD g z) (.inr "turn") = some (.dt (.int z.tn)) := rfl
theorem put_mixed {g : Addr} {z : Z} {t : Int} : putG (srcD g z) (.inr "mixed") (.dt (.int t)) = srcD g ⟨z.G, t, z.tn⟩ := rfl
theorem put_turn {g : Addr} {z : Z} {t : Int} : putG (srcD g z) (.inr "turn") (.dt (.int t)) = srcD g ⟨z.G, z.mx, t⟩ := rfl
theorem set_mixed {s g : Addr} {G : List Int} {mx tn t : Int} : (srcL s g ⟨G, mx, tn⟩).set 0 (s, .dic (putG (srcD g ⟨G, mx, tn⟩) (.inr "mixed") (.dt (.int t)))) = srcL s g ⟨G, t, tn⟩ := rfl
theorem set_turn {s g : Addr} {G : List Int} {mx tn t : Int} : (srcL s g ⟨G, mx, tn⟩).set 0 (s, .dic (putG (srcD g ⟨G, mx, tn⟩) (.inr "turn") (.dt (.int t)))) = srcL s g ⟨G, mx, t⟩ := rfl
theorem set_pop {s g : Addr} {mx tn : Int} {x : Int} {G : List Int} : (srcL s g ⟨x :: G, mx, tn⟩).set 1 (g, .lst ((dts ((x :: G).map .int)).eraseIdx 0)) = srcL s g ⟨G, mx, tn⟩ := rfl
theorem set_ins {s g : Addr} {mx tn : Int} {x : Int} {G : List Int} : (srcL s g ⟨G, mx, tn⟩).set 1 (g, .lst ((dts (G.map .int)).take (0 : Int).toNat ++ [.dt (.int x)] ++ (dts (G.map .int)).drop (0 : Int).toNat)) = srcL s g ⟨x :: G, mx, tn⟩ := rfl
theorem srcD_len {g : Addr} {z : Z} : (srcD g z).length < 1000000 := by show 3 < 1000000; decide
theorem ix0 {α : Type} (x : α) (l : List α) : ixN (x :: l).length 0 = some 0 := by
  unfold ixN
  simp
theorem dg_great {s g : Addr} {z : Z} : DG (.pt s) (.str "great") (srcL s g z) (some (.pt g)) := .inl ⟨0, s, srcD g z, .inr "great", rfl, rfl, rfl, rfl⟩
theorem dg_mixed {s g : Addr} {z : Z} : DG (.pt s) (.str "mixed") (srcL s g z) (some (.dt (.int z.mx))) := .inl ⟨0, s, srcD g z, .inr "mixed", rfl, rfl, rfl, rfl⟩
theorem dg_turn {s g : Addr} {z : Z} : DG (.pt s) (.str "turn") (srcL s g z) (some (.dt (.int z.tn))) := .inl ⟨0, s, srcD g z, .inr "turn", rfl, rfl, rfl, rfl⟩
def SrcF (S : List Sl → Nat → (Sl → Nat → Prop) → Prop) : List Sl → Chs → Pd → Prop := fun ss L Φ => ∃ s g z b rest, ss = .pt s :: rest ∧ L = srcL s g z ∧ Zk b z ∧ S rest b fun r c => ∀ z', Zk (b + c) z' → Φ r (srcL s g z')
theorem w_src {K : PySem.W.Frag} {ρ : List Sl} {L : Chs} {Φ : Pd} {aa : TA} {E : XK} {S : List Sl → Nat → (Sl → Nat → Prop) → Prop} (hm : ∀ {r b} {Ψ Ψ' : Sl → Nat → Prop}, S r b Ψ → (∀ x c, Ψ x c → Ψ' x c) → S r b Ψ')
    (h : WA K aa ρ L fun ss L1 => ∃ s g z b rest M, ss = .pt s :: rest ∧ L1 = srcL s g z ++ M ∧ Zk b z ∧ S rest b fun r c => ∀ z', Zk (b + c) z' → Φ r (srcL s g z' ++ M)) : WE K (tCall (SpD K (SrcF S)) [] E aa) ρ L Φ := by
  refine w_callN 2 fun Fr B σ H Q he hc k => h Fr B σ H Q he hc fun ss L1 vs B1 H1 h1 => k ss L1 vs B1 H1 ?_
  obtain ⟨s, g, z, b, rest, M, e1, e2, hz, q⟩ := h1
  subst e2
  exact ⟨s, g, z, b, rest, e1, rfl, hz, hm q fun r c f z' hz' => f z' hz'⟩
def S_draw : List Sl → Nat → (Sl → Nat → Prop) → Prop := fun rest b Ψ => ∃ lim, rest = [.dt (.int lim)] ∧ b < 2 ^ 199 ∧ lim < 2 ^ 29 ∧ ∀ n : Int, 0 ≤ n → (n < lim ∨ n = 0) → Ψ (.dt (.int n)) 1
theorem S_draw.m {r : List Sl} {b : Nat} {Ψ Ψ' : Sl → Nat → Prop} (h : S_draw r b Ψ) (i : ∀ x c, Ψ x c → Ψ' x c) : S_draw r b Ψ' := by
  obtain ⟨l, a, b, c, d⟩ := h
  exact ⟨l, a, b, c, fun n x y => i _ _ (d n x y)⟩
abbrev F_draw := SrcF S_draw
section
variable {P : Program} {w : World} {K : PySem.W.Frag} {mg : Str → Option Value} {base : Heap}
theorem turn_bits {t : Int} {b : Nat} (h0 : 0 ≤ t) (h : t ≤ b) (hb : b < 2 ^ 200) : t.natAbs < 2 ^ 201 ∧ (48611 * t + 7919).natAbs < 2 ^ 217 := by
  have e : (2 : Nat) ^ 201 = 2 * 2 ^ 200 := by decide
  have e2 : (2 : Nat) ^ 217 = 131072 * 2 ^ 200 := by decide
  rw [e, e2]
  generalize (2 : Nat) ^ 200 = B at hb ⊢
  omega
theorem ok_draw (T : Txt K mg) : Kp P w K mg base 1 "_law_draw" P__law_draw F_draw := by
  refine kp_of T.d__law_draw sc__law_draw (fun _ _ _ _ _ _ us hl => match us, hl with | [_, _], _ => rfl) (fun ss L Φ ⟨_, _, _, _, _, e, _, _, _, e2, _⟩ => by rw [e, e2]; rfl) fun f cdv A outer s H E hr => ?_
  have hu := hu_of hr
  refine ⟨_, pss_cons (ps_if (pt_cmpR op_lt (pv 1) pe_int (nomark _)) (pss_one (ps_ret pe_int)) (pss_nil))
  (pss_cons (ps_dput hu (pv 0) pe_str (pe_op op_add (pe_dget hu (pv 0) pe_str (fun _ _ => rfl)) pe_int) rfl)
  (pss_cons (ps_if (pt_cmpR (k_neP K hr) (pe_dget hu (pv 0) pe_str (fun _ _ => rfl)) (pe_lst pa_nil) (nomark _)) (pss_cons (ps_set (i := 2) sc__law_draw.nd rfl (Or.inl rfl) (k_bm K PySem.F.plainAttrs_list PySem.F.slot_list_pop PySem.F.type_list_pop mt_popAt (pe_dget hu (pv 0) pe_str (fun _ _ => rfl)) (pa_cons pe_int pa_nil)))
  (pss_cons (ps_if (pt_cmpR op_ge (pv 2) (pv 1) (nomark _)) (pss_one (ps_expr (k_bm K PySem.F.plainAttrs_list PySem.F.slot_list_insert PySem.F.type_list_insert mt_insert (pe_dget hu (pv 0) pe_str (fun _ _ => rfl)) (pa_cons pe_int (pa_cons (pe_op op_fdiv (pv 2) (pv 1)) pa_nil))))) (pss_nil))
  (pss_one (ps_ret (pe_op op_mod (pe_callTy call_int1 (by rfl) T.f_int (by decide +kernel) (pa_cons (pv 2) pa_nil)) (pv 1)))))) (pss_nil))
  (pss_cons (ps_set (i := 3) sc__law_draw.nd rfl (Or.inl rfl) (pe_dget hu (pv 0) pe_str (fun _ _ => rfl)))
  (pss_cons (ps_set (i := 4) sc__law_draw.nd rfl (Or.inl rfl) (pe_op op_add (pe_op op_add (pe_op op_mul (pe_dget hu (pv 0) pe_str (fun _ _ => rfl)) (pe_dget hu (pv 0) pe_str (fun _ _ => rfl))) (pe_op op_mulX (pv 3) (pe_op op_add (pe_op op_mul pe_int (pv 3)) pe_int))) pe_int))
  (pss_cons (ps_dput hu (pv 0) pe_str (pe_op op_mod (pe_callTy call_int1 (by rfl) T.f_int (by decide +kernel) (pa_cons (pv 4) pa_nil)) pe_int) rfl)
  (pss_one (ps_ret (pe_op op_mod (pe_callTy call_int1 (by rfl) T.f_int (by decide +kernel) (pa_cons (pe_op op_fdiv (pe_dget hu (pv 0) pe_str (fun _ _ => rfl)) pe_int) pa_nil)) (pv 1))))))))), fun ss L Φ hF => ?_⟩
  obtain ⟨s, g, ⟨G, mx, tn⟩, b, _, rfl, rfl, ⟨⟨hm1, hm2⟩, ⟨ht1, ht2⟩, hg⟩, lim, rfl, hb, hl, q⟩ := hF
  have hm1 : 0 ≤ mx := hm1
  have hm2 : mx < 2305843009213693951 := hm2
  have ht1 : 0 ≤ tn := ht1
  have ht2 : tn ≤ b := ht2
  have hg : G.length ≤ 63 := hg
  try dsimp only [cxOf, Cx.nox]
  walk_at "go"
  refine if_dec (fun c => ?_) (fun c => ?_)
  · walk_at "go"
    exact q 0 (by omega) (.inr rfl) ⟨G, mx, tn⟩ ⟨⟨hm1, hm2⟩, ⟨ht1, show tn ≤ ((b + 1 : Nat) : Int) by omega⟩, hg⟩
  have tb : tn + 1 ≤ ((b + 1 : Nat) : Int) := by omega
  walk_at "go"
  refine z_dput ?_
  walk_at "gd"
  refine ⟨0, s, srcD g ⟨G, mx, tn⟩, _, .inr "turn", rfl, rfl, rfl, rfl, srcD_len, ?_⟩
  rw [set_turn]
  walk_at "gd"
  refine r_neNil (j := 1) (ns := G) rfl ?_
  walk_at "go"
  refine if_nbl (fun c => ?_) (fun c => ?_)
  · cases G with
    | nil => cases c
    | cons x G =>
      walk_at "gd"
      refine ⟨isls_p 1 rfl, ?_⟩
      walk_at "gd"
      refine m_popAt (k := 1) (ss := dts ((x :: G).map .int)) (s := .dt (.int x)) (j := 0) rfl (by decide) (ix0 _ _) rfl ?_
      rw [set_pop]
      walk_at "gd"
      refine if_dec (fun c2 => ?_) (fun c2 => ?_)
      · walk_at "gd"
        refine ⟨isls_p 1 rfl, ?_⟩
        walk_at "gd"
        have hg2 : G.length + 1 ≤ 63 := hg
        refine m_insert (k := 1) (ss := dts (G.map .int)) rfl (by rw [dts_len, List.length_map]; omega) (by decide) ?_
        rw [set_ins]
        walk_at "gd"
        exact q (x % lim) (Int.emod_nonneg _ (by omega)) (.inl (Int.emod_lt_of_pos _ (by omega))) ⟨x / lim :: G, mx, tn + 1⟩ ⟨⟨hm1, hm2⟩, ⟨show 0 ≤ tn + 1 by omega, tb⟩, hg⟩
      · walk_at "gd"
        have hg2 : G.length + 1 ≤ 63 := hg
        exact q (x % lim) (Int.emod_nonneg _ (by omega)) (.inl (Int.emod_lt_of_pos _ (by omega))) ⟨G, mx, tn + 1⟩ ⟨⟨hm1, hm2⟩, ⟨show 0 ≤ tn + 1 by omega, tb⟩, show G.length ≤ 63 by omega⟩
  walk_at "gd"
  refine r_mul (.inl ⟨show -(2 ^ 64) < mx by omega, show mx < 2 ^ 64 by omega⟩) ?_
  walk_at "gd"
  obtain ⟨tb1, tb2⟩ := turn_bits (t := tn + 1) (b := b + 1) (by omega) tb (by omega)
  refine r_mulX 201 217 tb1 tb2 (by decide) ?_
  walk_at "gd"
  refine z_dput ?_
  walk_at "gd"
  refine ⟨0, s, srcD g ⟨G, mx, tn + 1⟩, _, .inr "mixed", rfl, rfl, rfl, rfl, srcD_len, ?_⟩
  rw [set_mixed]
  walk_at "gd"
  generalize mx * mx + (tn + 1) * (48611 * (tn + 1) + 7919) + 1 = m2
  refine q _ (Int.emod_nonneg _ (by omega)) (.inl (Int.emod_lt_of_pos _ (by omega))) ⟨G, m2 % 2305843009213693951, tn + 1⟩ ⟨⟨show 0 ≤ m2 % 2305843009213693951 by omega, show m2 % 2305843009213693951 < 2305843009213693951 by omega⟩, ⟨show 0 ≤ tn + 1 by omega, tb⟩, hg⟩
end

section
variable {P : Program} {w : World} {K : PySem.W.Frag} {mg : Str → Option Value} {base : Heap}
def F_source : List Sl → Chs → Pd → Prop := fun ss L Φ => ∃ ns : List Int, ss = [.dt (.scr ns)] ∧ L = [] ∧ ns.length ≤ 63 ∧ ∀ s g z, Zk 0 z → Φ (.pt s) (srcL s g z)
theorem ok_source (T : Txt K mg) : Kp P w K mg base 1 "_law_source" P__law_source F_source := by
  refine kp_of T.d__law_source sc__law_source (fun _ _ _ _ _ _ us hl => match us, hl with | [_], _ => rfl) (fun ss L Φ ⟨_, e, _⟩ => by rw [e]; rfl) fun f cdv A outer s H E hr => ?_
  have hu := hu_of hr
  refine ⟨_, pss_cons (ps_set (i := 1) sc__law_source.nd rfl (Or.inl rfl) pe_int)
  (pss_cons (ps_for PassesOwn.never rfl (ki_list K (pv 0)) (pg_name (i := 2) sc__law_source.nd rfl (Or.inl rfl))
  (pss_one (ps_if (pt_cmpR op_lt (pv 2) (pe_op op_pow pe_int pe_int) (nomark _)) (pss_cons (ps_set (i := 1) sc__law_source.nd rfl (Or.inl rfl) (pe_op op_add (pe_op op_add (pe_op op_mul (pv 1) (pv 1)) (pe_op op_mul (pe_op op_mod (pe_callTy call_int1 (by rfl) T.f_int (by decide +kernel) (pa_cons (pv 2) pa_nil)) (pe_op op_pow pe_int pe_int)) pe_int)) pe_int))
  (pss_one (ps_set (i := 1) sc__law_source.nd rfl (Or.inl rfl) (pe_op op_mod (pe_callTy call_int1 (by rfl) T.f_int (by decide +kernel) (pa_cons (pv 1) pa_nil)) pe_int)))) (pss_nil))))
  (pss_one (ps_ret (pe_disp (pps_cons pe_str (pe_lc (own := [("_law_cell", 2)]) (g := gName 2) (by rfl) sc__law_source.nd (ki_list K (pv 0)) (blkOk_by (own := [("_law_cell", 2)]) (N := N__law_source) (sc := defScope s__law_source) (by decide +kernel)) (fun _ _ _ _ _ => pg_name (i := 2) sc__law_source.nd rfl (Or.inl rfl)) (fun _ _ _ _ _ => pts_one (pt_cmpR op_ge (pv 2) (pe_op op_pow pe_int pe_int) (nomark _))) (fun _ _ _ _ _ => pv 2)) (pps_cons pe_str (pv 1) (pps_cons pe_str pe_int pps_nil))) (by rfl) (by rfl) (fun z => by cases z) (by decide))))), fun ss L Φ hF => ?_⟩
  obtain ⟨ns, rfl, rfl, hl, q⟩ := hF
  try dsimp only [cxOf, Cx.nox]
  walk_at "go"
  refine z_for (wi_scr ?_)
  walk_at "go"
  refine ⟨fun _ ρ' L' => ∃ m : Int, (0 ≤ m ∧ m < 2305843009213693951) ∧ ρ' = [.dt (.scr ns), .dt (.int m), .no] ∧ L' = [], ?_, ?_, ?_⟩
  · exact ⟨_, wkk (wkk (wkk wk0)), 2166136261, ⟨by decide, by decide⟩, rfl, rfl⟩
  · intro i d ρ' L' hd ⟨m, ⟨hm1, hm2⟩, e1, e2⟩
    subst e1 e2
    obtain ⟨x, hx, rfl⟩ := map_at hd
    walk_at "go"
    refine r_pow 1000000000000000000 (by decide) (by decide) ?_
    walk_at "go"
    refine if_dec (fun c => ?_) (fun c => ?_)
    · walk_at "go"
      refine r_pow 1000000000000000000 (by decide) (by decide) ?_
      walk_at "go"
      generalize m * m + x % 1000000000000000000 * 69061 + 40487 = m2
      exact ⟨_, wkk (wkk (wkn wk0)), m2 % 2305843009213693951, ⟨by omega, by omega⟩, rfl, rfl⟩
    · walk_at "go"
      exact ⟨_, wkk (wkk (wkn wk0)), m, ⟨hm1, hm2⟩, rfl, rfl⟩
  · intro ρ' L' ⟨m, ⟨hm1, hm2⟩, e1, e2⟩
    subst e1 e2
    walk_at "go"
    refine w_out (w_dispM ?_)
    walk_at "go"
    refine w_lcPM (α := Int) (wi_scr ?_)
    walk_at "go"
    refine ⟨ns, .int, fun x => decide (1000000000000000000 ≤ x), .int, rfl, by omega, fun x _ => ?_, fun p => ?_⟩
    · walk_at "go"
      refine r_pow 1000000000000000000 (by decide) (by decide) ?_
      walk_at "go"
      refine ⟨rfl, if_dec (fun c => ?_) (fun c => ?_)⟩
      · walk_at "go"
        exact ⟨rfl, rfl⟩
      · rfl
    · walk_at "go"
      refine ⟨nle rfl, fun p2 => ?_⟩
      refine ⟨_, perm2, q p2 p ⟨_, m, 0⟩ ⟨⟨hm1, hm2⟩, ⟨Int.le_refl 0, Int.le_refl 0⟩, ?_⟩⟩
      exact Nat.le_trans (List.length_filter_le _ _) hl
end

section
variable {P : Program} {w : World} {K : PySem.W.Frag} {mg : Str → Option Value} {base : Heap}
theorem Zk.mono {b c : Nat} {z : Z} (h : Zk b z) (l : b ≤ c) : Zk c z := ⟨h.1, ⟨h.2.1.1, Int.le_trans h.2.1.2 (Int.ofNat_le.mpr l)⟩, h.2.2⟩
def S_word : List Sl → Nat → (Sl → Nat → Prop) → Prop := fun rest b Ψ => rest = [] ∧ b < 2 ^ 198 ∧ ∀ x : Str, 1 ≤ x.length → x.length ≤ 8 → Ψ (.dt (.str x)) 9
theorem S_word.m {r : List Sl} {b : Nat} {Ψ Ψ' : Sl → Nat → Prop} (h : S_word r b Ψ) (i : ∀ x c, Ψ x c → Ψ' x c) : S_word r b Ψ' := ⟨h.1, h.2.1, fun x a b => i _ _ (h.2.2 x a b)⟩
abbrev F_word := SrcF S_word
def abc : Str := Str.ofString "abcdefghijklmnopqrstuvwxyz"
theorem ok_word (T : Txt K mg) : Kp P w K mg base 2 "_law_word" P__law_word F_word := by
  have G__law_draw := ok_draw (P := P) (w := w) (base := base) T
  refine kp_of T.d__law_word sc__law_word (fun _ _ _ _ _ _ us hl => match us, hl with | [_], _ => rfl) (fun ss L Φ ⟨_, _, _, _, _, e, _, _, e2, _⟩ => by rw [e, e2]; rfl) fun f cdv A outer s H E hr => ?_
  have hu := hu_of hr
  refine ⟨_, pss_cons (ps_set (i := 1) sc__law_word.nd rfl (Or.inr rfl) pe_str)
  (pss_one (ps_ret (k_join K pe_str (pe_lc (own := [("_law_k", 2)]) (g := gName 2) (tt := tYes) (by rfl) sc__law_word.nd (pi_range1 (by rfl) T.f_range (pa_cons (pe_op op_add pe_int (k_kp G__law_draw hr (by omega) (pa_cons (pv 0) (pa_cons pe_int pa_nil)))) pa_nil)) (blkOk_by (own := [("_law_k", 2)]) (N := N__law_word) (sc := defScope s__law_word) (by decide +kernel)) (fun _ _ _ _ _ => pg_name (i := 2) sc__law_word.nd rfl (Or.inl rfl)) (fun _ _ _ _ _ => pts_nil) (fun _ _ _ _ _ => pe_ix ix_str (pv 1) (k_kp G__law_draw hr (by omega) (pa_cons (pv 0) (pa_cons pe_int pa_nil))) (fun _ _ => rfl)))))), fun ss L Φ hF => ?_⟩
  obtain ⟨s, g, z, b, _, rfl, rfl, hz, rfl, hb, q⟩ := hF
  try dsimp only [cxOf, Cx.nox]
  walk_at "go"
  refine w_join ?_
  walk_at "go"
  refine w_lc ?_
  walk_at "go"
  refine ⟨s, g, z, b, _, [], rfl, rfl, hz, 8, rfl, by omega, by decide, fun n hn0 hn z1 hz1 => ?_⟩
  walk_at "go"
  refine ⟨by omega, by omega, fun i acc M => ∃ (ys : List Str) (z' : Z), acc = ys.map .str ∧ ys.length = i ∧ (∀ y ∈ ys, y.length = 1) ∧ M = srcL s g z' ∧ Zk (b + 1 + i) z', ?_, ?_, ?_, ?_⟩
  · exact ⟨[], z1, rfl, rfl, fun _ h => (nomatch h), rfl, hz1⟩
  · rw [rngD_len]; omega
  · intro i d acc M hd _ ⟨ys, z2, e1, e2, h1, e3, hz2⟩
    obtain ⟨hi, rfl⟩ := rngD_at hd
    subst e1 e2 e3
    walk_at "go"
    refine ⟨s, g, z2, _, _, [], rfl, rfl, hz2, 26, rfl, by omega, by decide, fun c hc0 hc z3 hz3 => ?_⟩
    obtain ⟨cp, hcp⟩ := atS (z := abc) (i := c) hc0 (show c < ((26 : Nat) : Int) by omega)
    refine r_ixS (nle rfl) hcp ?_
    refine ⟨.str ⟨#[cp]⟩, rfl, ys ++ [⟨#[cp]⟩], z3, by rw [List.map_append]; rfl, by rw [List.length_append]; rfl, fun y hy => ?_, rfl, hz3.mono (by omega)⟩
    rcases List.mem_append.mp hy with h | h
    · exact h1 y h
    · rw [List.mem_singleton.mp h]; rfl
  · intro acc M ⟨ys, z2, e1, e2, h1, e3, hz2⟩
    subst e1 e3
    rw [rngD_len] at e2 hz2
    have hs := sum_eq (c := 1) h1
    refine ⟨ys, rfl, by rw [hs]; show ys.length * 1 + ys.length * 0 ≤ _; omega, ?_⟩
    have hj : (Txt.join (Str.ofString "") ys).length = ys.length := by rw [txt_join_len, hs]; show ys.length * 1 + (ys.length - 1) * 0 = _; omega
    exact q _ (by rw [hj]; omega) (by rw [hj]; omega) z2 (hz2.mono (by omega))
end


section
variable {P : Program} {w : World} {K : PySem.W.Frag} {mg : Str → Option Value} {base : Heap}
def S_names : List Sl → Nat → (Sl → Nat → Prop) → Prop := fun rest b Ψ => ∃ c : Nat, rest = [.dt (.int c)] ∧ c ≤ 4 ∧ b < 2 ^ 197 ∧ ∀ ys : List Str, ys.length = c → (∀ y ∈ ys, y.length ≤ 20) → Ψ (.dt (.lst (ys.map .str))) 60
theorem S_names.m {r : List Sl} {b : Nat} {Ψ Ψ' : Sl → Nat → Prop} (h : S_names r b Ψ) (i : ∀ x c, Ψ x c → Ψ' x c) : S_names r b Ψ' := by
  obtain ⟨c, e, h1, h2, q⟩ := h
  exact ⟨c, e, h1, h2, fun ys a b => i _ _ (q ys a b)⟩
abbrev F_names := SrcF S_names
def five : List Str := ["q", "zx", "mna", "kjhgfdsa", "bo"]
theorem five_nd : five.Nodup := by decide +kernel
theorem five_len : ∀ y ∈ five, y.length ≤ 20 := by decide +kernel
theorem ok_names (T : Txt K mg) : Kp P w K mg base 3 "_law_names" P__law_names F_names := by
  have G__law_draw := ok_draw (P := P) (w := w) (base := base) T
  have G__law_word := ok_word (P := P) (w := w) (base := base) T
  refine kp_of T.d__law_names sc__law_names (fun _ _ _ _ _ _ us hl => match us, hl with | [_, _], _ => rfl) (fun ss L Φ ⟨_, _, _, _, _, e, _, _, _, e2, _⟩ => by rw [e, e2]; rfl) fun f cdv A outer s H E hr => ?_
  have hu := hu_of hr
  refine ⟨_, pss_cons (ps_set (i := 2) sc__law_names.nd rfl (Or.inl rfl) pe_str)
  (pss_cons (ps_set (i := 3) sc__law_names.nd rfl (Or.inl rfl) (k_kp G__law_word hr (by omega) (pa_cons (pv 0) pa_nil)))
  (pss_cons (ps_set (i := 4) sc__law_names.nd rfl (Or.inr rfl) (pe_lst pa_nil))
  (pss_cons (ps_for PassesOwn.never rfl (pi_range1 (by rfl) T.f_range (pa_cons (pv 1) pa_nil)) (pg_name (i := 5) sc__law_names.nd rfl (Or.inl rfl))
  (pss_cons (ps_set (i := 6) sc__law_names.nd rfl (Or.inl rfl) (k_kp G__law_draw hr (by omega) (pa_cons (pv 0) (pa_cons pe_int pa_nil))))
  (pss_cons (ps_set (i := 7) sc__law_names.nd rfl (Or.inl rfl) (k_kp G__law_draw hr (by omega) (pa_cons (pv 0) (pa_cons (pe_callB call_len_str (by rfl) T.f_len (by decide +kernel) (pa_cons (pv 3) pa_nil)) pa_nil))))
  (pss_cons (ps_set (i := 8) sc__law_names.nd rfl (Or.inl rfl) (pe_ix ix_str (pv 2) (k_kp G__law_draw hr (by omega) (pa_cons (pv 0) (pa_cons pe_int pa_nil))) (fun _ _ => rfl)))
  (pss_cons (ps_set (i := 9) sc__law_names.nd rfl (Or.inl rfl) (pe_op op_add_str (pe_op op_add_str (pe_slice sl_str (pv 3) po_none (po_some (pv 7))) (pv 8)) (pe_slice sl_str (pv 3) (po_some (pe_op op_add (pv 7) pe_int)) po_none)))
  (pss_cons (ps_set (i := 10) sc__law_names.nd rfl (Or.inl rfl) (pe_slice sl_str (pe_op op_add_str (pv 3) (pv 8)) po_none (po_some pe_int)))
  (pss_cons (ps_set (i := 11) sc__law_names.nd rfl (Or.inl rfl) (pe_lst (pa_cons (pv 3) (pa_cons (pe_slice sl_str (pv 3) po_none (po_some (pe_op op_add (pv 7) pe_int))) (pa_cons (pe_revT (pv 3)) (pa_cons (pv 9) (pa_cons (pv 10) pa_nil)))))))
  (pss_cons (ps_expr (k_bm K PySem.F.plainAttrs_list PySem.F.slot_list_append PySem.F.type_list_append mt_append (pv 11) (pa_cons (k_kp G__law_word hr (by omega) (pa_cons (pv 0) pa_nil)) pa_nil)))
  (pss_cons (ps_set (i := 12) sc__law_names.nd rfl (Or.inl rfl) (pe_lst (pa_cons (pe_ix (kx_list K) (pv 11) (pv 6) (fun _ _ => rfl)) (pa_cons pe_str (pa_cons pe_str (pa_cons pe_str (pa_cons pe_str (pa_cons pe_str pa_nil))))))))
  (pss_one (ps_expr (k_bm K PySem.F.plainAttrs_list PySem.F.slot_list_append PySem.F.type_list_append mt_append (pv 4) (pa_cons (pe_ix (kx_list K) (pe_lc (own := [("_law_one", 13)]) (g := gName 13) (by rfl) sc__law_names.nd (ki_list K (pv 12)) (blkOk_by (own := [("_law_one", 13)]) (N := N__law_names) (sc := defScope s__law_names) (by decide +kernel)) (fun _ _ _ _ _ => pg_name (i := 13) sc__law_names.nd rfl (Or.inl rfl)) (fun _ _ _ _ _ => pts_one (pt_cmpR (k_notIn K) (pv 13) (pv 4) rfl)) (fun _ _ _ _ _ => pv 13)) pe_int (fun _ _ => rfl)) pa_nil)))))))))))))
  (pss_one (ps_ret (pv 4)))))), fun ss L Φ hF => ?_⟩
  obtain ⟨s, g, z, b, _, rfl, rfl, hz, c, rfl, hc, hb, q⟩ := hF
  walk_at "go"
  refine ⟨s, g, z, b, _, [], rfl, rfl, hz, rfl, by omega, fun wd w1 w8 z1 hz1 => ?_⟩
  walk_at "go"
  intro p
  walk_at "go"
  refine z_for ?_
  walk_at "go"
  refine ⟨by omega, by omega, fun i ρ' M => ∃ (ys : List Str) (z' : Z), ys.length = i ∧ (∀ y ∈ ys, y.length ≤ 20) ∧ M = srcL s g z' ++ [(p, .lst (dts (ys.map .str)))] ∧ Zk (b + 9 + 12 * i) z' ∧ ρ' = [.pt s, .dt (.int c), .dt (.str abc), .dt (.str wd), .pt p, .no, .no, .no, .no, .no, .no, .no, .no, .no], ?_, ?_, ?_⟩
  · refine ⟨_, ?_, [], z1, rfl, fun _ h => (nomatch h), rfl, hz1, rfl⟩
    walk_at "wk"
  · intro i d ρ' M hd ⟨ys, z2, e1, hy, e2, hz2, e3⟩
    obtain ⟨hi, rfl⟩ := rngD_at hd
    subst e1 e2 e3
    refine g_name (s_gx ?_)
    walk_at "go"
    refine ⟨s, g, z2, _, _, _, rfl, rfl, hz2, 6, rfl, by omega, by decide, fun way hw0 hw z3 hz3 => ?_⟩
    walk_at "go"
    refine c_lenS (by omega) ?_
    walk_at "go"
    refine ⟨s, g, z3, _, _, _, rfl, rfl, hz3, _, rfl, by omega, by omega, fun at_ ha0 ha z4 hz4 => ?_⟩
    walk_at "go"
    refine ⟨s, g, z4, _, _, _, rfl, rfl, hz4, 26, rfl, by omega, by decide, fun lt hl0 hl z5 hz5 => ?_⟩
    obtain ⟨cp, hcp⟩ := atS (z := abc) (i := lt) hl0 (show lt < ((26 : Nat) : Int) by omega)
    refine r_ixS (nle rfl) hcp ?_
    walk_at "go"
    have q1 := cut_len wd none (some at_)
    have q2 := cut_len wd (some (at_ + 1)) none
    have q3 : (sgn cp).length = 1 := rfl
    refine l_str (by omega) ?_
    walk_at "go"
    refine r_addS (by show (cutS wd none (some at_)).length + (sgn cp).length ≤ _; omega) ?_
    walk_at "go"
    refine l_str (by omega) ?_
    refine r_addS (by rw [str_app_len]; show (cutS wd none (some at_)).length + (sgn cp).length + _ ≤ _; omega) ?_
    walk_at "go"
    refine r_addS (by show wd.length + (sgn cp).length ≤ _; omega) ?_
    walk_at "go"
    have q4 : (wd ++ sgn cp).length = wd.length + 1 := str_app_len _ _
    have q5 := cut_len (wd ++ sgn cp) none (some 8)
    refine l_str (by show (wd ++ sgn cp).length ≤ _; omega) ?_
    walk_at "go"
    refine z_asg (w_lstM ?_)
    walk_at "go"
    have q6 := cut_len wd none (some (at_ + 1))
    refine l_str (by omega) ?_
    walk_at "go"
    refine w_revT ?_
    walk_at "go"
    refine ⟨by omega, fun rv q7 => ?_⟩
    walk_at "go"
    intro p2
    walk_at "go"
    refine ⟨isls_p 3 rfl, ?_⟩
    walk_at "go"
    refine ⟨s, g, z5, _, _, _, rfl, rfl, hz5, rfl, by omega, fun w2 v1 v8 z6 hz6 => ?_⟩
    walk_at "go"
    refine m_append (k := 3) rfl (nlt rfl) ?_
    walk_at "go"
    refine z_lst ?_
    walk_at "go"
    have qo : (cutS wd none (some at_) ++ sgn cp ++ cutS wd (some (at_ + 1)) none).length ≤ 20 := by rw [str_app_len, str_app_len]; omega
    obtain ⟨v, hv, _⟩ := atL (l := [wd, cutS wd none (some (at_ + 1)), rv, cutS wd none (some at_) ++ sgn cp ++ cutS wd (some (at_ + 1)) none, cutS (wd ++ sgn cp) none (some 8), w2]) hw0 (show way < ((6 : Nat) : Int) by omega)
    have vl : v.length ≤ 20 := by
      have m := atI_mem hv
      simp only [List.mem_cons, List.not_mem_nil, or_false] at m
      rcases m with rfl | rfl | rfl | rfl | rfl | rfl
      · omega
      · omega
      · omega
      · exact qo
      · omega
      · omega
    refine r_ixP (k := 3) (s := sS v) rfl (atI_map sS hv) ?_
    refine ⟨_, rfl, ?_⟩
    walk_at "go"
    refine ⟨isls_p 2 rfl, ?_⟩
    walk_at "go"
    refine w_lcP (α := Str) ?_
    walk_at "go"
    refine ⟨v :: five, .str, fun x => !decide (x ∈ ys), .str, rfl, nle rfl, fun x _ => ?_, ?_⟩
    · walk_at "go"
      refine r_inStrP (j := 2) (zs := ys) rfl ?_
      walk_at "go"
      refine ⟨rfl, if_ndec (fun cc => ?_) (fun cc => ?_)⟩
      · walk_at "go"
        exact ⟨rfl, rfl⟩
      · rfl
    · walk_at "go"
      obtain ⟨x0, hx0, hn0⟩ := spare_left (xs := five) (ys := ys) five_nd (show ys.length < 5 by omega)
      have hpos := len_of_mem_filter (f := fun x => !decide (x ∈ ys)) (l := v :: five) (List.mem_cons_of_mem v hx0) (by rw [decide_eq_false hn0]; rfl)
      obtain ⟨u, hu1, _⟩ := atL (l := (v :: five).filter fun x => !decide (x ∈ ys)) (i := 0) (by omega) (by omega)
      have ul : u.length ≤ 20 := by
        rcases List.mem_cons.mp (List.mem_filter.mp (atI_mem hu1)).1 with e | m
        · rw [e]; exact vl
        · exact five_len u m
      refine r_ixL (atI_map Dt.str hu1) ?_
      walk_at "go"
      refine m_append (k := 2) rfl (by rw [dts_len, List.length_map]; omega) ?_
      refine ⟨srcL s g z6 ++ [(p, .lst (dts (ys.map .str) ++ [.dt (.str u)]))], [_], .refl _, _, ?_, ys ++ [u], z6, by rw [List.length_append]; rfl, fun y hy2 => ?_, by rw [List.map_append, dts_app]; rfl, hz6.mono (by omega), rfl⟩
      · walk_at "wk"
      · rcases List.mem_append.mp hy2 with m | m
        · exact hy y m
        · rw [List.mem_singleton.mp m]; exact ul
  · intro ρ' M ⟨ys, z2, e1, hy, e2, hz2, e3⟩
    rw [rngD_len] at e1 hz2
    subst e2 e3
    refine z_ret (w_fz ?_)
    walk_at "go"
    refine ⟨2, p, ys.map .str, rfl, rfl, ?_⟩
    exact q ys (by omega) hy z2 (hz2.mono (by omega))
end

section
variable {P : Program} {w : World} {K : PySem.W.Frag} {mg : Str → Option Value} {base : Heap}
def mdl (ps ls : List Str) : Dt := .dic [(.inr "pushes", .lst (ps.map .str)), (.inr "lights", .lst (ls.map .str))]
theorem dg_lights {ps ls : List Str} {L : Chs} : DG (.dt (mdl ps ls)) (.str "lights") L (some (.dt (.lst (ls.map .str)))) := dg_d (key := .inr "lights") rfl rfl
theorem dg_pushes {ps ls : List Str} {L : Chs} : DG (.dt (mdl ps ls)) (.str "pushes") L (some (.dt (.lst (ps.map .str)))) := dg_d (key := .inr "pushes") rfl rfl
def S_answer : List Sl → Nat → (Sl → Nat → Prop) → Prop := fun rest b Ψ => ∃ ps ls, rest = [.dt (mdl ps ls)] ∧ ls.length ≤ 4 ∧ (∀ y ∈ ls, y.length ≤ 20) ∧ b < 2 ^ 197 ∧ ∀ ys : List Str, Ψ (.dt (.lst (ys.map .str))) 4
theorem S_answer.m {r : List Sl} {b : Nat} {Ψ Ψ' : Sl → Nat → Prop} (h : S_answer r b Ψ) (i : ∀ x c, Ψ x c → Ψ' x c) : S_answer r b Ψ' := by
  obtain ⟨ps, ls, e, h1, h2, h3, q⟩ := h
  exact ⟨ps, ls, e, h1, h2, h3, fun ys => i _ _ (q ys)⟩
abbrev F_answer := SrcF S_answer
theorem ok_answer (T : Txt K mg) : Kp P w K mg base 2 "_law_answer" P__law_answer F_answer := by
  have G__law_draw := ok_draw (P := P) (w := w) (base := base) T
  refine kp_of T.d__law_answer sc__law_answer (fun _ _ _ _ _ _ us hl => match us, hl with | [_, _], _ => rfl) (fun ss L Φ ⟨_, _, _, _, _, e, _, _, _, _, e2, _⟩ => by rw [e, e2]; rfl) fun f cdv A outer s H E hr => ?_
  have hu := hu_of hr
  refine ⟨_, pss_cons (ps_set (i := 2) sc__law_answer.nd rfl (Or.inr rfl) (pe_op op_cat (pe_dget hu (pv 1) pe_str (fun _ _ => rfl)) (pe_lst (pa_cons pe_str (pa_cons pe_str (pa_cons (k_join K pe_str (pe_slice (ks_list K) (pe_dget hu (pv 1) pe_str (fun _ _ => rfl)) po_none (po_some pe_int))) pa_nil))))))
  (pss_cons (ps_set (i := 3) sc__law_answer.nd rfl (Or.inl rfl) (pe_ix (kx_list K) (pe_lst (pa_cons pe_int (pa_cons pe_int (pa_cons pe_int (pa_cons pe_int (pa_cons pe_int (pa_cons pe_int pa_nil))))))) (k_kp G__law_draw hr (by omega) (pa_cons (pv 0) (pa_cons pe_int pa_nil))) (fun _ _ => rfl)))
  (pss_one (ps_ret (pe_lc (own := [("_law_k", 4)]) (g := gName 4) (tt := tYes) (by rfl) sc__law_answer.nd (pi_range1 (by rfl) T.f_range (pa_cons (pv 3) pa_nil)) (blkOk_by (own := [("_law_k", 4)]) (N := N__law_answer) (sc := defScope s__law_answer) (by decide +kernel)) (fun _ _ _ _ _ => pg_name (i := 4) sc__law_answer.nd rfl (Or.inl rfl)) (fun _ _ _ _ _ => pts_nil) (fun _ _ _ _ _ => pe_ix (kx_list K) (pv 2) (k_kp G__law_draw hr (by omega) (pa_cons (pv 0) (pa_cons (pe_callB (k_len K) (by rfl) T.f_len (by decide +kernel) (pa_cons (pv 2) pa_nil)) pa_nil))) (fun _ _ => rfl)))))), fun ss L Φ hF => ?_⟩
  obtain ⟨s, g, z, b, _, rfl, rfl, hz, ps, ls, rfl, hl, hy, hb, q⟩ := hF
  walk_at "go"
  refine ⟨_, _, rfl, dg_lights, ?_⟩
  walk_at "go"
  refine w_join ?_
  walk_at "go"
  refine ⟨_, _, rfl, dg_lights, ?_⟩
  walk_at "go"
  rw [cutG_map]
  have cs := sum_le (ys := cutG ls none (some 2)) (c := 20) fun y h => hy y (cutG_mem h)
  have cl := cutG_len ls none (some 2)
  refine ⟨_, rfl, by show _ + (cutG ls none (some 2)).length * 1 ≤ 16777216; omega, ?_⟩
  generalize Txt.join (Str.ofString " ") (cutG ls none (some 2)) = jn
  walk_at "go"
  refine r_cat (es := [Str.ofString "qq", Str.ofString "", jn].map .str) (by rw [List.length_map]; show ls.length + 3 ≤ _; omega) ?_
  rw [← List.map_append]
  have pl : (ls ++ [Str.ofString "qq", Str.ofString "", jn]).length = ls.length + 3 := List.length_append
  generalize ls ++ [Str.ofString "qq", Str.ofString "", jn] = pool at pl ⊢
  walk_at "go"
  refine ⟨s, g, z, b, _, [], rfl, rfl, hz, 6, rfl, by omega, by decide, fun n hn0 hn z1 hz1 => ?_⟩
  obtain ⟨many, hm, _⟩ := atL (l := [1, 0, 2, 0, 1, (3 : Int)]) hn0 (show n < ((6 : Nat) : Int) by omega)
  have hmany : 0 ≤ many ∧ many ≤ 3 := by
    have m := atI_mem hm
    simp only [List.mem_cons, List.not_mem_nil, or_false] at m
    omega
  refine r_ixL (atI_map Dt.int hm) ?_
  walk_at "go"
  refine w_lc ?_
  walk_at "go"
  refine ⟨by omega, by omega, fun i acc M => ∃ (ys : List Str) (z' : Z), acc = ys.map .str ∧ M = srcL s g z' ∧ Zk (b + 1 + i) z', ?_, ?_, ?_, ?_⟩
  · exact ⟨[], z1, rfl, rfl, hz1⟩
  · rw [rngD_len]; omega
  · intro i d acc M hd _ ⟨ys, z2, e1, e3, hz2⟩
    obtain ⟨hi, rfl⟩ := rngD_at hd
    subst e1 e3
    walk_at "go"
    refine ⟨s, g, z2, _, _, [], rfl, rfl, hz2, _, rfl, by omega, by rw [List.length_map]; omega, fun c hc0 hc z3 hz3 => ?_⟩
    rw [List.length_map] at hc
    obtain ⟨v, hv, _⟩ := atL (l := pool) (i := c) hc0 (by omega)
    refine r_ixL (atI_map Dt.str hv) ?_
    exact ⟨_, rfl, ys ++ [v], z3, by rw [List.map_append]; rfl, rfl, hz3.mono (by omega)⟩
  · intro acc M ⟨ys, z2, e1, e3, hz2⟩
    subst e1 e3
    rw [rngD_len] at hz2
    exact q ys z2 (hz2.mono (by omega))
end

section
variable {P : Program} {w : World} {K : PySem.W.Frag} {mg : Str → Option Value} {base : Heap}
/-! plans -/
abbrev encB (q : List Str × Dt) : Dt := .tup [.lst (q.1.map .str), q.2]
abbrev endD : Dt := .tup [.str (Str.ofString "end")]
abbrev preD (b : Str) (qs : List (List Str × Dt)) : Dt := .tup [.str (Str.ofString "press"), .str b, .lst (qs.map encB)]
inductive IsPl : Nat → Dt → Prop
  | fin (n : Nat) : IsPl n endD
  | press (n : Nat) (b : Str) (qs : List (List Str × Dt)) (hl : qs.length ≤ 8) (h : ∀ q, q ∈ qs → IsPl n q.2) : IsPl (n + 1) (preD b qs)
theorem IsPl.mono {n : Nat} {d : Dt} (h : IsPl n d) : ∀ {m : Nat}, n ≤ m → IsPl m d := by
  induction h with
  | fin n => intro m _; exact .fin m
  | press n b qs hl _ ih =>
    intro m hm
    cases m with
    | zero => omega
    | succ m => exact .press m b qs hl fun q hq => ih q hq (by omega)
theorem IsPl.tp {n : Nat} {d : Dt} (h : IsPl n d) : Tp (3 * n + 3) d := by
  induction h with
  | fin n => exact tp_tup (c := 3 * n + 2) fun x hx => by rw [List.mem_singleton.mp hx]; exact tp_str
  | press n b qs hl _ ih =>
    refine tp_tup (c := 3 * n + 5) (all3 tp_str tp_str (tp_lst (c := 3 * n + 4) (all_map fun q hq => tp_tup (c := 3 * n + 3) (all2 (tp_strs (c := 3 * n + 2)) (ih q hq)))))
def tc : Nat → Nat
  | 0 => 35
  | n + 1 => 35 + 8 * tc n
def F_tree (n : Nat) : List Sl → Chs → Pd → Prop := fun ss L Φ => ∃ s g z b r m ps ls, ss = [.pt s, .dt (mdl ps ls), .pt r, .dt (.int (n : Int))] ∧ L = srcL s g z ++ [(r, .lst [.dt (.int m)])] ∧ Zk b z ∧ b + tc n < 2 ^ 196 ∧ ls.length ≤ 4 ∧ (∀ y ∈ ls, y.length ≤ 20) ∧ ps.length ≤ 4 ∧
  ∀ d m' z', IsPl n d → Zk (b + tc n) z' → Φ (.dt d) (srcL s g z' ++ [(r, .lst [.dt (.int m')])])
def F_treeS (n : Nat) : List Sl → Chs → Pd → Prop := fun ss L Φ => ∃ k, n = k + 1 ∧ F_tree k ss L Φ
theorem tc_pos (n : Nat) : 35 ≤ tc n := by cases n <;> unfold tc <;> omega
theorem ok_treeI (T : Txt K mg) (n : Nat) (G__law_tree : Kp P w K mg base (n + 2) "_law_tree" P__law_tree (F_treeS n)) : Kp P w K mg base (n + 3) "_law_tree" P__law_tree (F_tree n) := by
  have G__law_draw := ok_draw (P := P) (w := w) (base := base) T
  have G__law_answer := ok_answer (P := P) (w := w) (base := base) T
  refine kp_of T.d__law_tree sc__law_tree (fun _ _ _ _ _ _ us hl => match us, hl with | [_, _, _, _], _ => rfl) (fun ss L Φ ⟨_, _, _, _, _, _, _, _, e, _⟩ => by rw [e]; rfl) fun f cdv A outer s H E hr => ?_
  have hu := hu_of hr
  refine ⟨_, pss_cons (ps_if (PW.pt (pw_or (pt_cmpR op_eq (pv 3) pe_int (nomark _)) (pw_or (pt_cmpR op_eq (pe_ix (kx_list K) (pv 2) pe_int (fun _ _ => rfl)) pe_int (nomark _)) (pw_or1 (pt_cmpR op_eq (k_kp G__law_draw hr (by omega) (pa_cons (pv 0) (pa_cons pe_int pa_nil))) pe_int (nomark _)))))) (pss_one (ps_ret (pe_tup (pa_cons pe_str pa_nil)))) (pss_nil))
  (pss_cons (ps_asg (pe_op op_sub (pe_ix (kx_list K) (pv 2) pe_int (fun _ _ => rfl)) pe_int) (pg_sub (pv 2) pe_int set_list))
  (pss_cons (ps_set (i := 4) sc__law_tree.nd rfl (Or.inl rfl) (pe_op op_cat (pe_dget hu (pv 1) pe_str (fun _ _ => rfl)) (pe_lst (pa_cons pe_str (pa_cons pe_str pa_nil)))))
  (pss_cons (ps_set (i := 5) sc__law_tree.nd rfl (Or.inl rfl) (pe_ix (kx_list K) (pv 4) (k_kp G__law_draw hr (by omega) (pa_cons (pv 0) (pa_cons (pe_callB (k_len K) (by rfl) T.f_len (by decide +kernel) (pa_cons (pv 4) pa_nil)) pa_nil))) (fun _ _ => rfl)))
  (pss_cons (ps_set (i := 6) sc__law_tree.nd rfl (Or.inl rfl) (pe_lst pa_nil))
  (pss_cons (ps_for PassesOwn.never rfl (pi_range1 (by rfl) T.f_range (pa_cons (pe_ix (kx_list K) (pe_lst (pa_cons pe_int (pa_cons pe_int (pa_cons pe_int (pa_cons pe_int (pa_cons pe_int (pa_cons pe_int (pa_cons pe_int pa_nil)))))))) (k_kp G__law_draw hr (by omega) (pa_cons (pv 0) (pa_cons pe_int pa_nil))) (fun _ _ => rfl)) pa_nil)) (pg_name (i := 7) sc__law_tree.nd rfl (Or.inl rfl))
  (pss_cons (ps_set (i := 8) sc__law_tree.nd rfl (Or.inl rfl) (k_kp G__law_answer hr (by omega) (pa_cons (pv 0) (pa_cons (pv 1) pa_nil))))
  (pss_one (ps_expr (k_bm K PySem.F.plainAttrs_list PySem.F.slot_list_append PySem.F.type_list_append mt_append (pv 6) (pa_cons (pe_tup (pa_cons (pv 8) (pa_cons (k_kp G__law_tree hr (by omega) (pa_cons (pv 0) (pa_cons (pv 1) (pa_cons (pv 2) (pa_cons (pe_op op_sub (pv 3) pe_int) pa_nil))))) pa_nil))) pa_nil))))))
  (pss_one (ps_ret (pe_tup (pa_cons pe_str (pa_cons (pv 5) (pa_cons (pv 6) pa_nil))))))))))), fun ss L Φ hF => ?_⟩
  obtain ⟨s, g, z, b, r, m, ps, ls, rfl, rfl, hz, hb, hl, hy, hp, q⟩ := hF
  have tp := tc_pos n
  walk_at "go"
  refine if_dec (fun c => ?_) (fun c => ?_)
  · walk_at "go"
    exact q _ m z (.fin n) (hz.mono (by omega))
  walk_at "go"
  refine r_ixP (k := 2) (s := .dt (.int m)) rfl rfl ?_
  walk_at "go"
  refine if_dec (fun c2 => ?_) (fun c2 => ?_)
  · walk_at "go"
    exact q _ m z (.fin n) (hz.mono (by omega))
  walk_at "go"
  refine ⟨s, g, z, b, _, [_], rfl, rfl, hz, 5, rfl, by omega, by decide, fun n1 hn0 hn1 z1 hz1 => ?_⟩
  walk_at "go"
  refine if_dec (fun c3 => ?_) (fun c3 => ?_)
  · walk_at "go"
    exact q _ m z1 (.fin n) (hz1.mono (by omega))
  walk_at "go"
  refine r_ixP (k := 2) (s := .dt (.int m)) rfl rfl ?_
  walk_at "go"
  refine ⟨r, 2, _, 0, 0, rfl, rfl, rfl, rfl, ?_⟩
  walk_at "go"
  refine ⟨_, _, rfl, dg_pushes, ?_⟩
  walk_at "go"
  refine r_cat (es := [Str.ofString "end", Str.ofString "Zz"].map .str) (by rw [List.length_map]; show ps.length + 2 ≤ _; omega) ?_
  rw [← List.map_append]
  have pl : (ps ++ [Str.ofString "end", Str.ofString "Zz"]).length = ps.length + 2 := List.length_append
  generalize ps ++ [Str.ofString "end", Str.ofString "Zz"] = pool at pl ⊢
  walk_at "go"
  refine ⟨s, g, z1, _, _, [(r, .lst [.dt (.int (m - 1))])], rfl, rfl, hz1, _, rfl, by omega, by rw [List.length_map]; omega, fun n2 h20 h21 z2 hz2 => ?_⟩
  rw [List.length_map] at h21
  obtain ⟨bt, hbt, _⟩ := atL (l := pool) (i := n2) h20 (by omega)
  refine r_ixL (atI_map Dt.str hbt) ?_
  walk_at "go"
  intro p
  walk_at "go"
  refine z_for ?_
  walk_at "go"
  refine ⟨s, g, z2, _, _, [(r, .lst [.dt (.int (m - 1))]), (p, .lst [])], rfl, rfl, hz2, 7, rfl, by omega, by decide, fun n3 h30 h31 z3 hz3 => ?_⟩
  obtain ⟨cnt, hcnt, _⟩ := atL (l := [2, 1, 3, 1, 2, 0, (8 : Int)]) h30 (show n3 < ((7 : Nat) : Int) by omega)
  have hm8 : 0 ≤ cnt ∧ cnt ≤ 8 := by
    have mm := atI_mem hcnt
    simp only [List.mem_cons, List.not_mem_nil, or_false] at mm
    omega
  refine r_ixL (atI_map Dt.int hcnt) ?_
  walk_at "go"
  obtain ⟨k, rfl⟩ : ∃ k, n = k + 1 := ⟨n - 1, by omega⟩
  have tk : tc (k + 1) = 35 + 8 * tc k := rfl
  refine ⟨by omega, by omega, fun i ρ' M => ∃ (qs : List (List Str × Dt)) (m' : Int) (z' : Z), qs.length = i ∧ (∀ q ∈ qs, IsPl k q.2) ∧ M = srcL s g z' ++ [(r, .lst [.dt (.int m')]), (p, .lst (dts (qs.map encB)))] ∧ Zk (b + 3 + (4 + tc k) * i) z' ∧ ρ' = [.pt s, .dt (mdl ps ls), .pt r, .dt (.int ((k + 1 : Nat) : Int)), .dt (.lst (pool.map .str)), .dt (.str bt), .pt p, .no, .no], ?_, ?_, ?_⟩
  · refine ⟨_, ?_, [], m - 1, z3, rfl, fun _ h => (nomatch h), rfl, hz3.mono (by omega), rfl⟩
    walk_at "wk"
  · intro i d ρ' M hd ⟨qs, m', z4, e1, hq, e2, hz4, e3⟩
    obtain ⟨hi, rfl⟩ := rngD_at hd
    subst e1 e2 e3
    refine g_name (s_gx ?_)
    have il : qs.length ≤ 7 := by omega
    have mu : (4 + tc k) * (qs.length + 1) = (4 + tc k) * qs.length + (4 + tc k) := Nat.mul_succ _ _
    have mu2 : (4 + tc k) * (qs.length + 1) ≤ (4 + tc k) * 8 := Nat.mul_le_mul_left _ (by omega)
    walk_at "go"
    refine ⟨s, g, z4, _, _, _, rfl, rfl, hz4, ps, ls, rfl, hl, hy, by omega, fun ys z5 hz5 => ?_⟩
    walk_at "go"
    refine ⟨isls_p 3 rfl, ?_⟩
    walk_at "go"
    refine w_callN 3 ?_
    walk_at "go"
    refine ⟨s, g, z5, _, r, m', ps, ls, ?_, rfl, hz5, by omega, hl, hy, hp, fun d m2 z6 hd2 hz6 => ?_⟩
    · have e : ((k + 1 : Nat) : Int) - 1 = (k : Int) := by omega
      rw [e]
    refine ⟨d, rfl, ?_⟩
    walk_at "go"
    refine m_append (k := 3) (ss := dts (qs.map encB)) rfl (by rw [dts_len, List.length_map]; omega) ?_
    refine ⟨srcL s g z6 ++ [(r, .lst [.dt (.int m2)]), (p, .lst (dts ((qs ++ [(ys, d)]).map encB)))], [], ?_, _, ?_, qs ++ [(ys, d)], m2, z6, by rw [List.length_append]; rfl, fun q0 hq0 => ?_, rfl, hz6.mono (by omega), rfl⟩
    · rw [List.map_append, dts_app, List.append_nil]
      exact .refl _
    · walk_at "wk"
    · rcases List.mem_append.mp hq0 with mm | mm
      · exact hq q0 mm
      · rw [List.mem_singleton.mp mm]; exact hd2
  · intro ρ' M ⟨qs, m', z4, e1, hq, e2, hz4, e3⟩
    rw [rngD_len] at e1 hz4
    subst e2 e3
    have mu2 : (4 + tc k) * cnt.toNat ≤ (4 + tc k) * 8 := Nat.mul_le_mul_left _ (by omega)
    refine s_fz (k := 3) (p := p) (ds := qs.map encB) (ρ' := [.pt s, .dt (mdl ps ls), .pt r, .dt (.int ((k + 1 : Nat) : Int)), .dt (.lst (pool.map .str)), .dt (.str bt), .dt (.lst (qs.map encB)), .no, .no]) rfl (by walk_at "fz") ?_
    walk_at "go"
    exact q _ m' z4 (.press k bt qs (by omega) hq) (hz4.mono (by omega))
theorem ok_tree (T : Txt K mg) : ∀ n, Kp P w K mg base (n + 3) "_law_tree" P__law_tree (F_tree n)
  | 0 => ok_treeI T 0 (kp_no T.d__law_tree (fun _ _ _ _ _ _ us hl => match us, hl with | [_, _, _, _], _ => rfl) fun ss L Φ ⟨k, h, _⟩ => by omega)
  | n + 1 => ok_treeI T (n + 1) ((ok_tree T n).imp fun ss L Φ ⟨k, h, q⟩ => by
      have e : k = n := by omega
      subst e
      exact q)
end

section
variable {P : Program} {w : World} {K : PySem.W.Frag} {mg : Str → Option Value} {base : Heap}
def F_copy (n : Nat) : List Sl → Chs → Pd → Prop := fun ss L Φ => ∃ d, ss = [.dt d] ∧ IsPl n d ∧ Φ (.dt d) L
def F_copyS (n : Nat) : List Sl → Chs → Pd → Prop := fun ss L Φ => ∃ k, n = k + 1 ∧ F_copy k ss L Φ
theorem ok_copyI (T : Txt K mg) (n : Nat) (G__law_copy : Kp P w K mg base n "_law_copy" P__law_copy (F_copyS n)) : Kp P w K mg base (n + 1) "_law_copy" P__law_copy (F_copy n) := by
  refine kp_of T.d__law_copy sc__law_copy (fun _ _ _ _ _ _ us hl => match us, hl with | [_], _ => rfl) (fun ss L Φ ⟨_, e, _⟩ => by rw [e]; rfl) fun f cdv A outer s H E hr => ?_
  have hu := hu_of hr
  refine ⟨_, pss_cons (ps_if (pt_cmpR op_eq (pe_ix (kx_tup K) (pv 0) pe_int (fun _ _ => rfl)) pe_str (nomark _)) (pss_one (ps_ret (pv 0))) (pss_nil))
  (pss_cons (ps_setLc (i := 1) (own := [("_law_answer_here", 2), ("_law_rest", 3)]) (g := gTup K 2 (gCons (gName 2) (gCons (gName 3) (gNil)))) (tt := tYes) rfl sc__law_copy.nd rfl rfl (sw_true rfl rfl rfl (by decide +kernel)) (ki_list K (pe_ix (kx_tup K) (pv 0) pe_int (fun _ _ => rfl))) (blkOk_by (own := [("_law_answer_here", 2), ("_law_rest", 3)]) (N := N__law_copy) (sc := defScope s__law_copy) (by decide +kernel)) (fun _ _ _ _ _ => kg_tup K rfl (pgs_cons (pg_name (i := 2) sc__law_copy.nd rfl (Or.inl rfl)) (pgs_cons (pg_name (i := 3) sc__law_copy.nd rfl (Or.inl rfl)) pgs_nil))) (fun _ _ _ _ _ => pts_nil) (fun _ _ _ _ _ => pe_tup (pa_cons (pe_callTy (k_list K) (by rfl) T.f_list (by decide +kernel) (pa_cons (pv 2) pa_nil)) (pa_cons (k_kp G__law_copy hr (by omega) (pa_cons (pv 3) pa_nil)) pa_nil))))
  (pss_one (ps_ret (pe_tup (pa_cons pe_str (pa_cons (pe_ix (kx_tup K) (pv 0) pe_int (fun _ _ => rfl)) (pa_cons (pv 1) pa_nil))))))), fun ss L Φ hF => ?_⟩
  obtain ⟨d, rfl, hd, q⟩ := hF
  cases hd with
  | fin n =>
    walk_at "go"
    refine r_ixT (d := .str (Str.ofString "end")) rfl ?_
    walk_at "go"
    refine if_dec (fun c => ?_) (fun c => absurd rfl c)
    walk_at "go"
    exact q
  | press n b qs hl h =>
    walk_at "go"
    refine r_ixT (d := .str (Str.ofString "press")) rfl ?_
    walk_at "go"
    refine if_dec (fun c => absurd c (by decide +kernel)) (fun c => ?_)
    walk_at "go"
    refine w_lcP (α := List Str × Dt) ?_
    walk_at "go"
    refine r_ixT (d := .lst (qs.map encB)) rfl ?_
    walk_at "go"
    refine ⟨qs, encB, fun _ => true, encB, rfl, by omega, fun x hx => ?_, ?_⟩
    · walk_at "go"
      refine ⟨rfl, ?_⟩
      walk_at "go"
      refine w_call ?_
      walk_at "go"
      refine ⟨h x hx, ?_⟩
      walk_at "go"
      exact ⟨rfl, rfl⟩
    · rw [filter_tt]
      walk_at "go"
      refine r_ixT (d := .str b) rfl ?_
      walk_at "go"
      exact q
theorem ok_copy (T : Txt K mg) : ∀ n, Kp P w K mg base (n + 1) "_law_copy" P__law_copy (F_copy n)
  | 0 => ok_copyI T 0 (kp_no T.d__law_copy (fun _ _ _ _ _ _ us hl => match us, hl with | [_], _ => rfl) fun ss L Φ ⟨k, h, _⟩ => by omega)
  | n + 1 => ok_copyI T (n + 1) ((ok_copy T n).imp fun ss L Φ ⟨k, h, q⟩ => by
      have e : k = n := by omega
      subst e
      exact q)
end

section
variable {P : Program} {w : World} {K : PySem.W.Frag} {mg : Str → Option Value} {base : Heap}
def mx : List Int → Int
  | [] => 0
  | x :: xs => max x (mx xs)
theorem mx_nn : ∀ l : List Int, 0 ≤ mx l
  | [] => Int.le_refl 0
  | x :: xs => Int.le_trans (mx_nn xs) (Int.le_max_right _ _)
theorem mx_le : ∀ {l : List Int} {y : Int}, y ∈ l → y ≤ mx l
  | x :: xs, y, h => by
    rcases List.mem_cons.mp h with e | h
    · rw [e]; exact Int.le_max_left _ _
    · exact Int.le_trans (mx_le h) (Int.le_max_right _ _)
theorem mx_of : ∀ {l : List Int} {m : Int}, 0 ≤ m → (∀ y ∈ l, y ≤ m) → mx l ≤ m
  | [], _, h, _ => h
  | x :: xs, m, h0, h => Int.max_le.mpr ⟨h x List.mem_cons_self, mx_of h0 fun y hy => h y (List.mem_cons_of_mem x hy)⟩
def kid (f : Dt → Int) : Dt → Int
  | .tup [_, d] => f d
  | _ => 0
def dep : Nat → Dt → Int
  | n + 1, .tup [_, _, .lst br] => 1 + mx (br.map (kid (dep n)))
  | _, _ => 0
theorem dep_end (n : Nat) : dep n endD = 0 := by cases n <;> rfl
theorem dep_pre (n : Nat) (b : Str) (qs : List (List Str × Dt)) : dep (n + 1) (preD b qs) = 1 + mx (qs.map fun q => dep n q.2) := by
  show 1 + mx ((qs.map encB).map (kid (dep n))) = _
  rw [List.map_map]; rfl
theorem dep_nn {n : Nat} {d : Dt} (h : IsPl n d) : 0 ≤ dep n d := by
  cases h with
  | fin n => rw [dep_end]; exact Int.le_refl 0
  | press n b qs hl h => rw [dep_pre]; have := mx_nn (qs.map fun q => dep n q.2); omega
def F_dep (n : Nat) : List Sl → Chs → Pd → Prop := fun ss L Φ => ∃ d, ss = [.dt d] ∧ IsPl n d ∧ Φ (.dt (.int (dep n d))) L
def F_depS (n : Nat) : List Sl → Chs → Pd → Prop := fun ss L Φ => ∃ k, n = k + 1 ∧ F_dep k ss L Φ
theorem ok_deepI (T : Txt K mg) (n : Nat) (G__law_deep : Kp P w K mg base n "_law_deep" P__law_deep (F_depS n)) : Kp P w K mg base (n + 1) "_law_deep" P__law_deep (F_dep n) := by
  refine kp_of T.d__law_deep sc__law_deep (fun _ _ _ _ _ _ us hl => match us, hl with | [_], _ => rfl) (fun ss L Φ ⟨_, e, _⟩ => by rw [e]; rfl) fun f cdv A outer s H E hr => ?_
  have hu := hu_of hr
  refine ⟨_, pss_cons (ps_if (pt_cmpR op_eq (pe_ix (kx_tup K) (pv 0) pe_int (fun _ _ => rfl)) pe_str (nomark _)) (pss_one (ps_ret pe_int)) (pss_nil))
  (pss_one (ps_ret (pe_op op_add pe_int (pe_callB (k_max K rfl) (by rfl) T.f_max (by decide +kernel) (pa_cons (pe_op op_cat (pe_lc (own := [("_law_answer_here", 1), ("_law_rest", 2)]) (g := gTup K 2 (gCons (gName 1) (gCons (gName 2) (gNil)))) (tt := tYes) (by rfl) sc__law_deep.nd (ki_list K (pe_ix (kx_tup K) (pv 0) pe_int (fun _ _ => rfl))) (blkOk_by (own := [("_law_answer_here", 1), ("_law_rest", 2)]) (N := N__law_deep) (sc := defScope s__law_deep) (by decide +kernel)) (fun _ _ _ _ _ => kg_tup K rfl (pgs_cons (pg_name (i := 1) sc__law_deep.nd rfl (Or.inl rfl)) (pgs_cons (pg_name (i := 2) sc__law_deep.nd rfl (Or.inl rfl)) pgs_nil))) (fun _ _ _ _ _ => pts_nil) (fun _ _ _ _ _ => k_kp G__law_deep hr (by omega) (pa_cons (pv 2) pa_nil))) (pe_lst (pa_cons pe_int pa_nil))) pa_nil))))), fun ss L Φ hF => ?_⟩
  obtain ⟨d, rfl, hd, q⟩ := hF
  cases hd with
  | fin n =>
    walk_at "go"
    refine r_ixT (d := .str (Str.ofString "end")) rfl ?_
    walk_at "go"
    refine if_dec (fun c => ?_) (fun c => absurd rfl c)
    walk_at "go"
    rw [dep_end] at q
    exact q
  | press n b qs hl h =>
    walk_at "go"
    refine r_ixT (d := .str (Str.ofString "press")) rfl ?_
    walk_at "go"
    refine if_dec (fun c => absurd c (by decide +kernel)) (fun c => ?_)
    walk_at "go"
    refine w_lcP (α := List Str × Dt) ?_
    walk_at "go"
    refine r_ixT (d := .lst (qs.map encB)) rfl ?_
    walk_at "go"
    refine ⟨qs, encB, fun _ => true, fun q => .int (dep n q.2), rfl, by omega, fun x hx => ?_, ?_⟩
    · walk_at "go"
      refine ⟨rfl, ?_⟩
      walk_at "go"
      refine w_call ?_
      walk_at "go"
      exact ⟨h x hx, rfl, rfl⟩
    · rw [filter_tt]
      walk_at "go"
      refine r_cat (es := [(0 : Int)].map .int) (by rw [List.length_map]; show qs.length + 1 ≤ _; omega) ?_
      have e0 : qs.map (fun q => Dt.int (dep n q.2)) = (qs.map fun q => dep n q.2).map .int := by rw [List.map_map]; rfl
      rw [e0, ← List.map_append]
      walk_at "go"
      refine c_max (ns := (qs.map fun q => dep n q.2) ++ [0]) (by rw [List.length_append]; exact Nat.lt_of_lt_of_le Nat.one_pos (Nat.le_add_left _ _)) (fun m h1 h2 => ?_)
      walk_at "go"
      rw [dep_pre] at q
      have e : m = mx (qs.map fun q => dep n q.2) := by
        have z : 0 ≤ m := h2 0 (List.mem_append_right _ (List.mem_singleton.mpr rfl))
        refine Int.le_antisymm ?_ (mx_of z fun y hy => h2 y (List.mem_append_left _ hy))
        rcases List.mem_append.mp h1 with k | k
        · exact mx_le k
        · rw [List.mem_singleton.mp k]; exact mx_nn _
      rw [e]
      exact q
theorem ok_deep (T : Txt K mg) : ∀ n, Kp P w K mg base (n + 1) "_law_deep" P__law_deep (F_dep n)
  | 0 => ok_deepI T 0 (kp_no T.d__law_deep (fun _ _ _ _ _ _ us hl => match us, hl with | [_], _ => rfl) fun ss L Φ ⟨k, h, _⟩ => by omega)
  | n + 1 => ok_deepI T (n + 1) ((ok_deep T n).imp fun ss L Φ ⟨k, h, q⟩ => by
      have e : k = n := by omega
      subst e
      exact q)
theorem ok_depthI (T : Txt K mg) (n : Nat) (G_depth : Kp P w K mg base n "depth" P_depth (F_depS n)) : Kp P w K mg base (n + 1) "depth" P_depth (F_dep n) := by
  refine kp_of T.d_depth sc_depth (fun _ _ _ _ _ _ us hl => match us, hl with | [_], _ => rfl) (fun ss L Φ ⟨_, e, _⟩ => by rw [e]; rfl) fun f cdv A outer s H E hr => ?_
  have hu := hu_of hr
  refine ⟨_, pss_cons (ps_if (pt_cmpR op_eq (pe_ix (kx_tup K) (pv 0) pe_int (fun _ _ => rfl)) pe_str (nomark _)) (pss_one (ps_ret pe_int)) (pss_nil))
  (pss_one (ps_ret (pe_op op_add pe_int (pe_callBK (k_maxD K rfl) (by rfl) T.f_max (by decide +kernel) (pa_cons (pe_lc (own := [("answer", 1), ("rest", 2)]) (g := gTup K 2 (gCons (gName 1) (gCons (gName 2) (gNil)))) (tt := tYes) (by rfl) sc_depth.nd (ki_list K (pe_ix (kx_tup K) (pv 0) pe_int (fun _ _ => rfl))) (blkOk_by (own := [("answer", 1), ("rest", 2)]) (N := N_depth) (sc := defScope s_depth) (by decide +kernel)) (fun _ _ _ _ _ => kg_tup K rfl (pgs_cons (pg_name (i := 1) sc_depth.nd rfl (Or.inl rfl)) (pgs_cons (pg_name (i := 2) sc_depth.nd rfl (Or.inl rfl)) pgs_nil))) (fun _ _ _ _ _ => pts_nil) (fun _ _ _ _ _ => k_kp G_depth hr (by omega) (pa_cons (pv 2) pa_nil))) pa_nil) (pk_cons pe_int pk_nil))))), fun ss L Φ hF => ?_⟩
  obtain ⟨d, rfl, hd, q⟩ := hF
  cases hd with
  | fin n =>
    walk_at "go"
    refine r_ixT (d := .str (Str.ofString "end")) rfl ?_
    walk_at "go"
    refine if_dec (fun c => ?_) (fun c => absurd rfl c)
    walk_at "go"
    rw [dep_end] at q
    exact q
  | press n b qs hl h =>
    walk_at "go"
    refine r_ixT (d := .str (Str.ofString "press")) rfl ?_
    walk_at "go"
    refine if_dec (fun c => absurd c (by decide +kernel)) (fun c => ?_)
    walk_at "go"
    refine w_ckw ?_
    walk_at "go"
    refine w_lcP (α := List Str × Dt) ?_
    walk_at "go"
    refine r_ixT (d := .lst (qs.map encB)) rfl ?_
    walk_at "go"
    refine ⟨qs, encB, fun _ => true, fun q => .int (dep n q.2), rfl, by omega, fun x hx => ?_, ?_⟩
    · walk_at "go"
      refine ⟨rfl, ?_⟩
      walk_at "go"
      refine w_call ?_
      walk_at "go"
      exact ⟨h x hx, rfl, rfl⟩
    · rw [filter_tt]
      walk_at "go"
      have e0 : qs.map (fun q => Dt.int (dep n q.2)) = (qs.map fun q => dep n q.2).map .int := by rw [List.map_map]; rfl
      rw [e0]
      rw [dep_pre] at q
      refine c_maxD (fun e => ?_) (fun m h1 h2 => ?_)
      · rw [e] at q
        walk_at "go"
        exact q
      · have e : m = mx (qs.map fun q => dep n q.2) := by
          have z : 0 ≤ m := by
            obtain ⟨x, hx, ex⟩ := List.mem_map.mp h1
            rw [← ex]
            exact dep_nn (h x hx)
          exact Int.le_antisymm (mx_le h1) (mx_of z h2)
        rw [e]
        walk_at "go"
        exact q
theorem ok_depth (T : Txt K mg) : ∀ n, Kp P w K mg base (n + 1) "depth" P_depth (F_dep n)
  | 0 => ok_depthI T 0 (kp_no T.d_depth (fun _ _ _ _ _ _ us hl => match us, hl with | [_], _ => rfl) fun ss L Φ ⟨k, h, _⟩ => by omega)
  | n + 1 => ok_depthI T (n + 1) ((ok_depth T n).imp fun ss L Φ ⟨k, h, q⟩ => by
      have e : k = n := by omega
      subst e
      exact q)
end

section
variable {P : Program} {w : World} {K : PySem.W.Frag} {mg : Str → Option Value} {base : Heap}
abbrev level : Nat := 24
theorem ok_law (T : Txt K mg) : Kp P w K mg base level "law" P_law F_law := by
  have G__law_draw := ok_draw (P := P) (w := w) (base := base) T
  have G__law_source := ok_source (P := P) (w := w) (base := base) T
  have G__law_names := ok_names (P := P) (w := w) (base := base) T
  have G__law_answer := ok_answer (P := P) (w := w) (base := base) T
  have G__law_tree := ok_tree (P := P) (w := w) (base := base) T 20
  have G__law_copy := ok_copy (P := P) (w := w) (base := base) T 20
  have G__law_deep := ok_deep (P := P) (w := w) (base := base) T 20
  have G_depth := ok_depth (P := P) (w := w) (base := base) T 20
  have G_depth_0_told := kk_of T.d_depth G_depth 0 ["told"] (fun _ ws => ws) (fun _ h => h) (fun _ _ _ _ _ _ us ws h1 h2 => match us, ws, h1, h2 with | [], [_], _, _ => rfl)
  refine kp_of T.d_law sc_law (fun _ _ _ _ _ _ us hl => match us, hl with | [_], _ => rfl) (fun ss L Φ h => f_law_len h) fun f cdv A outer s H E hr => ?_
  have hu := hu_of hr
  refine ⟨_, pss_cons (ps_set (i := 1) sc_law.nd rfl (Or.inl rfl) (k_kp G__law_source hr (by omega) (pa_cons (pv 0) pa_nil)))
  (pss_cons (ps_for PassesOwn.never rfl (pi_range1 (by rfl) T.f_range (pa_cons pe_int pa_nil)) (pg_name (i := 2) sc_law.nd rfl (Or.inl rfl))
  (pss_cons (ps_set (i := 3) sc_law.nd rfl (Or.inl rfl) (k_kp G__law_names hr (by omega) (pa_cons (pv 1) (pa_cons (pe_op op_add pe_int (k_kp G__law_draw hr (by omega) (pa_cons (pv 1) (pa_cons pe_int pa_nil)))) pa_nil))))
  (pss_cons (ps_set (i := 4) sc_law.nd rfl (Or.inl rfl) (pe_disp (pps_cons pe_str (pv 3) (pps_cons pe_str (k_kp G__law_names hr (by omega) (pa_cons (pv 1) (pa_cons (k_kp G__law_draw hr (by omega) (pa_cons (pv 1) (pa_cons pe_int pa_nil))) pa_nil))) pps_nil)) (by rfl) (by rfl) (fun z => by cases z) (by decide)))
  (pss_cons (ps_set (i := 5) sc_law.nd rfl (Or.inl rfl) (pe_cmpR op_eq (k_kp G__law_draw hr (by omega) (pa_cons (pv 1) (pa_cons pe_int pa_nil))) pe_int (nomark _)))
  (pss_cons (ps_set (i := 6) sc_law.nd rfl (Or.inl rfl) (k_kp G__law_tree hr (by omega) (pa_cons (pv 1) (pa_cons (pv 4) (pa_cons (pe_lst (pa_cons (pe_ix (kx_list K) (pe_lst (pa_cons pe_int (pa_cons pe_int pa_nil))) (pe_op op_fdiv (k_kp G__law_draw hr (by omega) (pa_cons (pv 1) (pa_cons pe_int pa_nil))) pe_int) (fun _ _ => rfl)) pa_nil)) (pa_cons pe_int pa_nil))))))
  (pss_cons (ps_if (pt_val (pv 5)) (pss_cons (ps_set (i := 6) sc_law.nd rfl (Or.inl rfl) (pe_tup (pa_cons pe_str pa_nil)))
  (pss_one (ps_for PassesOwn.never rfl (pi_range1 (by rfl) T.f_range (pa_cons (pe_op op_add pe_int (k_kp G__law_draw hr (by omega) (pa_cons (pv 1) (pa_cons pe_int pa_nil)))) pa_nil)) (pg_name (i := 7) sc_law.nd rfl (Or.inl rfl))
  (pss_one (ps_set (i := 6) sc_law.nd rfl (Or.inl rfl) (pe_tup (pa_cons pe_str (pa_cons (pe_ix (kx_list K) (pv 3) pe_int (fun _ _ => rfl)) (pa_cons (pe_lst (pa_cons (pe_tup (pa_cons (k_kp G__law_answer hr (by omega) (pa_cons (pv 1) (pa_cons (pv 4) pa_nil))) (pa_cons (pv 6) pa_nil))) pa_nil)) pa_nil))))))))) (pss_nil))
  (pss_cons (ps_set (i := 8) sc_law.nd rfl (Or.inl rfl) (k_kp G__law_deep hr (by omega) (pa_cons (pv 6) pa_nil)))
  (pss_cons (ps_set (i := 9) sc_law.nd rfl (Or.inl rfl) (k_kp G__law_copy hr (by omega) (pa_cons (pv 6) pa_nil)))
  (pss_cons (ps_for PassesOwn.never rfl (ki_list K (pe_lst (pa_cons (k_kp G_depth hr (by omega) (pa_cons (pv 9) pa_nil)) (pa_cons (k_kk0 G_depth_0_told hr (by omega) (pk_cons (pv 9) pk_nil)) pa_nil)))) (pg_name (i := 10) sc_law.nd rfl (Or.inl rfl))
  (pss_one (ps_if (PW.pt (pw_or (pt_not (pt_val (pe_callB (k_isi K) (by rfl) T.f_isinstance (by decide +kernel) (pa_cons (pv 10) (pa_cons (pe_bltn (v := .ty "int") (by rfl) T.f_int (by decide +kernel) rfl) pa_nil))))) (pw_or (pt_val (pe_callB (k_isi K) (by rfl) T.f_isinstance (by decide +kernel) (pa_cons (pv 10) (pa_cons (pe_bltn (v := .ty "bool") (by rfl) T.f_bool (by decide +kernel) rfl) pa_nil)))) (pw_or1 (pt_cmpR op_ne (pv 10) (pv 8) (nomark _)))))) (pss_one (ps_ret pe_bl)) (pss_nil))))
  (pss_one (ps_if (pt_cmpR (k_neP K hr) (pv 9) (pv 6) (nomark _)) (pss_one (ps_ret pe_bl)) (pss_nil))))))))))))
  (pss_one (ps_ret pe_bl))), fun ss L Φ hF => ?_⟩
  obtain ⟨ns, rfl, rfl, hl, q⟩ := hF
  walk_at "go"
  refine w_call ?_
  walk_at "go"
  refine ⟨rfl, hl, fun s g z0 hz0 => ?_⟩
  walk_at "go"
  refine z_for ?_
  walk_at "go"
  refine ⟨by decide, by decide, fun i ρ' M => ∃ z', M = srcL s g z' ∧ Zk (2 ^ 80 * i) z' ∧ ρ' = [.no, .pt s, .no, .no, .no, .no, .no, .no, .no, .no, .no], ?_, ?_, ?_⟩
  · refine ⟨_, ?_, z0, rfl, hz0.mono (by omega), rfl⟩
    walk_at "wk"
  · intro i d ρ' M hd ⟨z1, e1, hz1, e2⟩
    obtain ⟨hi, rfl⟩ := rngD_at hd
    subst e1 e2
    refine g_name (s_gx ?_)
    have i3 : i ≤ 3 := by
      have : (4 : Int).toNat = 4 := rfl
      omega
    walk_at "go"
    refine ⟨s, g, z1, _, _, [], rfl, rfl, hz1, 4, rfl, by omega, by decide, fun n1 h10 h11 z2 hz2 => ?_⟩
    walk_at "go"
    obtain ⟨c1, rfl⟩ := Int.eq_ofNat_of_zero_le h10
    refine ⟨s, g, z2, _, _, [], rfl, rfl, hz2, 1 + c1, by rw [show ((1 + c1 : Nat) : Int) = 1 + (c1 : Int) from by omega], by omega, by omega, fun ps pl pb z3 hz3 => ?_⟩
    walk_at "go"
    refine w_disp ?_
    walk_at "go"
    refine ⟨s, g, z3, _, _, [], rfl, rfl, hz3, 4, rfl, by omega, by decide, fun n2 h20 h21 z4 hz4 => ?_⟩
    walk_at "go"
    obtain ⟨c2, rfl⟩ := Int.eq_ofNat_of_zero_le h20
    refine ⟨s, g, z4, _, _, [], rfl, rfl, hz4, c2, rfl, by omega, by omega, fun ls ll lb z5 hz5 => ?_⟩
    walk_at "go"
    refine ⟨nle rfl, [(.inr "pushes", .lst (ps.map .str)), (.inr "lights", .lst (ls.map .str))], rfl, ?_⟩
    walk_at "go"
    refine ⟨s, g, z5, _, _, [], rfl, rfl, hz5, 6, rfl, by omega, by decide, fun n3 h30 h31 z6 hz6 => ?_⟩
    walk_at "gn"
    refine w_callN 3 ?_
    walk_at "gn"
    refine w_lstM ?_
    walk_at "gn"
    refine w_lst ?_
    walk_at "gn"
    refine ⟨s, g, z6, _, _, [], rfl, rfl, hz6, 4, rfl, by omega, by decide, fun n4 h40 h41 z7 hz7 => ?_⟩
    walk_at "gn"
    obtain ⟨m0, hm0, _⟩ := atL (l := [40, (200 : Int)]) (i := n4 / 3) (by omega) (show n4 / 3 < ((2 : Nat) : Int) by omega)
    refine r_ixL (atI_map Dt.int hm0) ?_
    walk_at "gn"
    intro r
    walk_at "gn"
    have t20 : tc 20 < 2 ^ 70 := by decide +kernel
    refine ⟨s, g, z7, _, r, m0, ps, ls, rfl, rfl, hz7, by omega, by omega, lb, by omega, fun d m' z8 hd8 hz8 => ?_⟩
    refine z_mid (fun ρ' M => ∃ d z', IsPl 20 d ∧ Zk (2 ^ 80 * i + 2 ^ 79) z' ∧ M = srcL s g z' ∧ ρ' = [.no, .pt s, .no, .no, .no, .no, .dt d, .no, .no, .no, .no]) ?_ ?_
    · walk_at "go"
      refine if_dec (fun c3 => ?_) (fun c3 => ?_)
      · walk_at "go"
        refine z_for ?_
        walk_at "go"
        refine ⟨s, g, z8, _, _, [(r, .lst [.dt (.int m')])], rfl, rfl, hz8, 20, rfl, by omega, by decide, fun n5 h50 h51 z9 hz9 => ?_⟩
        walk_at "go"
        refine ⟨by omega, by omega, fun j ρ' M => ∃ d z', IsPl j d ∧ Zk (2 ^ 80 * i + 2 ^ 71 + 4 * j) z' ∧ M = srcL s g z' ++ [(r, .lst [.dt (.int m')])] ∧ ρ' = [.no, .pt s, .no, .dt (.lst (ps.map .str)), .dt (mdl ps ls), .no, .dt d, .no, .no, .no, .no], ?_, ?_, ?_⟩
        · refine ⟨_, ?_, endD, z9, .fin 0, hz9.mono (by omega), rfl, rfl⟩
          walk_at "wk"
        · intro j dj ρ' M hdj ⟨d9, z10, hp9, hz10, e1, e2⟩
          obtain ⟨hj, rfl⟩ := rngD_at hdj
          subst e1 e2
          walk_at "go"
          obtain ⟨p0, hp0, _⟩ := atL (l := ps) (i := 0) (by omega) (by omega)
          refine r_ixL (atI_map Dt.str hp0) ?_
          walk_at "go"
          refine ⟨s, g, z10, _, _, [(r, .lst [.dt (.int m')])], rfl, rfl, hz10, ps, ls, rfl, by omega, lb, by omega, fun ys z11 hz11 => ?_⟩
          walk_at "go"
          refine ⟨_, ?_, preD p0 [(ys, d9)], z11, .press j p0 [(ys, d9)] (nle rfl) (fun q hq => by rw [List.mem_singleton.mp hq]; exact hp9), hz11.mono (by omega), rfl, rfl⟩
          walk_at "wk"
        · intro ρ' M ⟨d9, z10, hp9, hz10, e1, e2⟩
          rw [rngD_len] at hp9 hz10
          subst e1 e2
          refine ⟨_, srcL s g z10, [_], ?_, .refl _, d9, z10, hp9.mono (by omega), hz10.mono (by omega), rfl, rfl⟩
          walk_at "wk"
      · walk_at "go"
        refine ⟨_, srcL s g z8, [_], ?_, .refl _, d, z8, hd8, hz8.mono (by omega), rfl, rfl⟩
        walk_at "wk"
    · intro ρ' M ⟨d9, z10, hp9, hz10, e1, e2⟩
      subst e1 e2
      obtain ⟨pd, hpd, hpl⟩ := hp9.tp
      walk_at "go"
      refine w_call ?_
      walk_at "go"
      refine ⟨hp9, ?_⟩
      walk_at "go"
      refine w_call ?_
      walk_at "go"
      refine ⟨hp9, ?_⟩
      walk_at "go"
      refine z_for (wi_list ?_)
      walk_at "go"
      refine w_call ?_
      walk_at "go"
      refine ⟨hp9, _, rfl, ?_⟩
      walk_at "go"
      refine w_callKn (gS := fun _ ys => ys) 2 (fun _ _ _ _ _ _ h => h) ?_
      walk_at "go"
      refine ⟨rfl, rfl, d9, rfl, hp9, _, rfl, ?_⟩
      walk_at "go"
      refine ⟨fun i' ρ' M => M = srcL s g z10 ∧ ρ' = [.no, .pt s, .no, .no, .no, .no, .dt d9, .no, .dt (.int (dep 20 d9)), .dt d9, .no], ?_, ?_, ?_⟩
      · refine ⟨_, ?_, rfl, rfl⟩
        walk_at "wk"
      · intro i' d' ρ' M hd' ⟨e1, e2⟩
        subst e1 e2
        have e3 : d' = .int (dep 20 d9) := by
          have m := mem_of_at hd'
          rcases List.mem_cons.mp m with e | m
          · exact e
          · exact List.mem_singleton.mp m
        subst e3
        walk_at "go"
        refine c_isi (d := .int (dep 20 d9)) (n := "int") (T := "int") (b := true) rfl (by decide +kernel) ?_
        walk_at "go"
        refine c_isi (d := .int (dep 20 d9)) (n := "int") (T := "bool") (b := false) rfl (by decide +kernel) ?_
        walk_at "go"
        refine if_ndec (fun c => absurd rfl c) (fun c => ?_)
        walk_at "go"
        refine ⟨_, ?_, rfl, rfl⟩
        walk_at "wk"
      · intro ρ' M ⟨e1, e2⟩
        subst e1 e2
        walk_at "go"
        refine r_neP hpd hpd (by omega) ?_
        rw [eqv_self hpd]
        walk_at "go"
        refine ⟨srcL s g z10, [], by rw [List.append_nil], _, ?_, z10, rfl, hz10.mono (by omega), rfl⟩
        walk_at "wk"
  · intro ρ' M ⟨z1, e1, hz1, e2⟩
    subst e1 e2
    walk_at "go"
    exact q _
end

end T
namespace T
open PySem PySem.Spec PyProof.Rows L2 Sx
def e_depth : He.DefD := ⟨("depth", none), "depth", "depth", defArgs s_depth, defBody s_depth, defScope s_depth, [], []⟩
def e__law_source : He.DefD := ⟨("_law_source", none), "_law_source", "_law_source", defArgs s__law_source, defBody s__law_source, defScope s__law_source, [], []⟩
def e__law_draw : He.DefD := ⟨("_law_draw", none), "_law_draw", "_law_draw", defArgs s__law_draw, defBody s__law_draw, defScope s__law_draw, [], []⟩
def e__law_word : He.DefD := ⟨("_law_word", none), "_law_word", "_law_word", defArgs s__law_word, defBody s__law_word, defScope s__law_word, [], []⟩
def e__law_names : He.DefD := ⟨("_law_names", none), "_law_names", "_law_names", defArgs s__law_names, defBody s__law_names, defScope s__law_names, [], []⟩
def e__law_answer : He.DefD := ⟨("_law_answer", none), "_law_answer", "_law_answer", defArgs s__law_answer, defBody s__law_answer, defScope s__law_answer, [], []⟩
def e__law_tree : He.DefD := ⟨("_law_tree", none), "_law_tree", "_law_tree", defArgs s__law_tree, defBody s__law_tree, defScope s__law_tree, [], []⟩
def e__law_copy : He.DefD := ⟨("_law_copy", none), "_law_copy", "_law_copy", defArgs s__law_copy, defBody s__law_copy, defScope s__law_copy, [], []⟩
def e__law_deep : He.DefD := ⟨("_law_deep", none), "_law_deep", "_law_deep", defArgs s__law_deep, defBody s__law_deep, defScope s__law_deep, [], []⟩
def e_law : He.DefD := ⟨("law", none), "law", "law", defArgs s_law, defBody s_law, defScope s_law, [], []⟩
def fn : List He.DefD := [e_depth, e__law_source, e__law_draw, e__law_word, e__law_names, e__law_answer, e__law_tree, e__law_copy, e__law_deep, e_law]
def fa : List He.Fa := [.glo "depth", .glo "_law_source", .glo "_law_draw", .glo "_law_word", .glo "_law_names", .glo "_law_answer", .glo "_law_tree", .glo "_law_copy", .glo "_law_deep", .glo "law", .free "max", .free "int", .free "range", .free "len", .free "list", .free "isinstance", .free "bool"]
def names : List PySem.Str := ["depth", "_law_source", "_law_draw", "_law_word", "_law_names", "_law_answer", "_law_tree", "_law_copy", "_law_deep"]
abbrev Rr : PySem.W.OpenRow := PySem.W.OpenLaw.row PySem.Challenge.rw_surepresses_k22_depth_of_a_plan
abbrev hk : PySem.W.Hook := He.hookD 4 fa fn
def ob (s : PySem.W.SharedT) : He.AlD := He.obsDG 4 fa fn (HandSHeadRun.getT s)
theorem ob_eq (s : PySem.W.SharedT) : ob s = hk.obs s.abs := He.obsDG_eq (HandSHeadRun.getT_eq s)
theorem run (w : World) : HandSHeadRun.RunEq Rr (PySem.W.view Rr.prog [11]) hk ob 3000 names w := by
  intro os
  kernel_rfl
theorem txt_of {K : PySem.W.Frag} {h : Heap} {mg : Str → Option Value} (X : K.In h) (G : h.Ns mainGlobals mg) (c : He.SaysD fa fn K) : Txt K mg := by
  have df : ∀ (i : Nat) (x : Str) (st : Stmt), fa[i]? = some (.glo x) → fn[i]? = some ⟨(x, none), x, x, defArgs st, defBody st, defScope st, [], []⟩ → Df K mg x st := fun i x st h1 h2 => by
    obtain ⟨fd, F⟩ := c.def_ i h2
    exact ⟨_, fd, F, He.glo_ok X G (c.fact i h1)⟩
  have fr : ∀ (i : Nat) (x : Str), fa[i]? = some (.free x) → mg x = none := fun i x h1 => He.free_ok X G (c.fact i h1)
  exact ⟨df 0 _ _ rfl rfl, df 1 _ _ rfl rfl, df 2 _ _ rfl rfl, df 3 _ _ rfl rfl, df 4 _ _ rfl rfl, df 5 _ _ rfl rfl, df 6 _ _ rfl rfl, df 7 _ _ rfl rfl, df 8 _ _ rfl rfl, df 9 _ _ rfl rfl, fr 10 _ rfl, fr 11 _ rfl, fr 12 _ rfl, fr 13 _ rfl, fr 14 _ rfl, fr 15 _ rfl, fr 16 _ rfl⟩
end T
open PySem PySem.W PySem.Calls PyProof.Rows
theorem PySem.Challenge.cw_surepresses_k22_depth_of_a_plan_holds : PySem.Challenge.rw_surepresses_k22_depth_of_a_plan.Holds := by
  w_on; o_law
  refine HandSHeadRun.head_any (r := T.Rr) (q := view T.Rr.prog [11]) (H := T.hk) (ob := T.ob) (M := 3000) (loose := T.names) (d := HandSHeadRun.topDef T.Rr.prog 11) (kwd := []) T.ob_eq
    (by kernel_rfl) (fun s => by kernel_rfl) T.run (by kernel_rfl) (by kernel_rfl) (by kernel_rfl) (by rfl) (by first | assumption | decide +kernel) (by decide +kernel) ⟨rfl, rfl, rfl, rfl, rfl, by decide +kernel⟩ ?hw ?hc
  case hw => w_witness2
  case hc =>
    refine L2.walk_ofE (l := PySem.Challenge.rw_surepresses_k22_depth_of_a_plan) (n := 63) (k := T.level) (x := "_law_script") (CX := L2.CX0) rfl (by decide) (by kernel_rfl) ⟨rfl, by decide, by decide⟩ ?F (fun _ _ _ _ z => z)
    intro w mg fa h Y G hmg0
    obtain ⟨K, KX, c⟩ := Y
    have hmg : mg ("law" : PySem.Str) = some (.ref fa) := by
      have e : (HandSHeadRun.topDef T.Rr.prog 11).name = ("law" : PySem.Str) := by kernel_rfl
      rw [← e]
      exact hmg0
    have Tx := T.txt_of KX G c
    obtain ⟨f1, fd, FD, hm⟩ := id Tx.d_law
    have ef : f1 = fa := by
      rw [hm] at hmg
      injection hmg with e1
      injection e1
    subst ef
    refine ⟨K, fd, Sx.SpD K Sx.F_law, KX, fun s v => L2.FunD.bindsA (ps := ["_law_script"]) FD (fun _ _ _ _ _ _ us hl => match us, hl with | [_], _ => rfl) s [v] rfl, fun H a ns hl _ hS => Sx.law_in hl hS, fun base _ _ => ?_⟩
    obtain ⟨f2, fd2, hm2, ki, _, ok⟩ := T.ok_law (P := (PySem.Challenge.rw_surepresses_k22_depth_of_a_plan).prog) (w := w) (base := base) Tx
    rw [hm] at hm2
    injection hm2 with e1
    injection e1 with e2
    subst e2
    have e3 := Sx.KI.same (Sx.FunD.ki FD) ki
    subst e3
    exact ok


