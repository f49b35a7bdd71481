import PyProof.Rows.All
import Wide.All
import OpenK.AllK
import Wide.FinOn
import PySem.Str
import HandS.ForMost
import HandS.ForExc
import HandS.RaiseMore
import HandS.TupAny
import HandS.Rev
import PyProof.ReprRoads
import HandS.GenList
import HandS.Small
import PyProof.StrOps2
import HandS.Comp
import HandS.MethStar
import HandS.Dict
import HandS.TryOnly
import HandS.IsInst
import PySem.Challenge.RW_flowform_k23_whole_one_after_another
set_option Elab.async false
set_option linter.all false
set_option maxRecDepth 100000
set_option maxHeartbeats 4000000
namespace Fl
open PySem
abbrev Nm := Str
mutual
inductive Cond where
  | call (n : Nm)
  | flag (n : Nm)
  | not (c : Cond)
  | and (cs : Conds)
  | or (cs : Conds)
inductive Conds where
  | nil
  | cons (c : Cond) (cs : Conds)
end
mutual
inductive Stm where
  | call (n : Nm)
  | letf (x : Nm) (b : Bool)
  | setf (x : Nm) (b : Bool)
  | ite (c : Cond) (a b : Stms)
  | whl (l : Option Nm) (c : Cond) (a : Stms)
  | forl (l : Option Nm) (a : Stms)
  | brk (l : Option Nm)
  | cont (l : Option Nm)
  | ret (n : Option Int)
  | tryf (a b : Stms)
  | block (a : Stms)
inductive Stms where
  | nil
  | cons (s : Stm) (r : Stms)
end
abbrev Flg := List (Nm × Bool)
abbrev Made := List Nm
def nms (f : Flg) : List Nm := f.map (·.1)
/-- the last flag of that name -/
def lookF : Flg → Nm → Option Bool
  | [], _ => none
  | (x, b) :: r, n => match lookF r n with
    | some v => some v
    | none => if x = n then some b else none
def setF : Flg → Nm → Bool → Flg
  | [], _, _ => []
  | (x, v) :: r, n, b => if (lookF r n).isSome then (x, v) :: setF r n b else if x = n then (x, b) :: r else (x, v) :: setF r n b
theorem nms_setF (n : Nm) (b : Bool) : ∀ f : Flg, nms (setF f n b) = nms f
  | [] => rfl
  | (x, v) :: r => by
    have ih := nms_setF n b r
    unfold nms at ih ⊢
    unfold setF
    split
    · simp [ih]
    · split
      · simp
      · simp [ih]
theorem lookF_some {n : Nm} : ∀ {f : Flg}, n ∈ nms f → ∃ b, lookF f n = some b
  | [], h => by simp [nms] at h
  | (x, v) :: r, h => by
    unfold lookF
    cases e : lookF r n with
    | some w => exact ⟨w, rfl⟩
    | none =>
      by_cases hx : x = n
      · exact ⟨v, by simp [hx]⟩
      · have h' : n ∈ nms r := by
          simp only [nms, List.map_cons, List.mem_cons] at h
          rcases h with h | h
          · exact absurd h.symm hx
          · exact h
        obtain ⟨w, hw⟩ := lookF_some h'
        rw [hw] at e; cases e
theorem lookF_none {n : Nm} : ∀ {f : Flg}, n ∉ nms f → lookF f n = none
  | [], _ => rfl
  | (x, v) :: r, h => by
    simp only [nms, List.map_cons, List.mem_cons, not_or] at h
    unfold lookF
    rw [lookF_none (f := r) h.2]
    have hx : ¬ x = n := fun e => h.1 e.symm
    simp [hx]
theorem lookF_isSome {n : Nm} {f : Flg} : (lookF f n).isSome = true ↔ n ∈ nms f := by
  constructor
  · intro h
    by_cases hm : n ∈ nms f
    · exact hm
    · rw [lookF_none hm] at h; cases h
  · intro h
    obtain ⟨b, e⟩ := lookF_some h
    rw [e]; rfl
mutual
def evC (as : List Bool) (fl : Flg) : Cond → Made → Option Bool × Made
  | .call n, mk => (as[mk.length]?, mk ++ [n])
  | .flag n, mk => (some ((lookF fl n).getD false), mk)
  | .not c, mk => match evC as fl c mk with
    | (some b, m) => (some (!b), m)
    | (none, m) => (none, m)
  | .and cs, mk => evCs as fl false cs mk
  | .or cs, mk => evCs as fl true cs mk
def evCs (as : List Bool) (fl : Flg) (isOr : Bool) : Conds → Made → Option Bool × Made
  | .nil, mk => (some (!isOr), mk)
  | .cons c r, mk => match evC as fl c mk with
    | (none, m) => (none, m)
    | (some b, m) => if b = isOr then (some isOr, m) else evCs as fl isOr r m
end
inductive Jmp where
  | brk (l : Option Nm)
  | cont (l : Option Nm)
  | ret (n : Option Int)
inductive Out where
  | next (f : Flg)
  | jump (d : Jmp) (f : Flg)
  | wait
  | hang
inductive RO where
  | again (f : Flg)
  | exit (o : Out)
abbrev Res := Out × Made
def cut (n : Nat) : Res → Res
  | (.next f, m) => (.next (f.take n), m)
  | (.jump d f, m) => (.jump d (f.take n), m)
  | (.wait, m) => (.wait, m)
  | (.hang, m) => (.hang, m)
/-- what a jump out of a loop's body does there -/
def jumpRO (lab : Option Nm) (d : Jmp) (f : Flg) : RO :=
  match d with
  | .ret n => .exit (.jump (.ret n) f)
  | .brk l => if l = none ∨ l = lab then .exit (.next f) else .exit (.jump (.brk l) f)
  | .cont l => if l = none ∨ l = lab then .again f else .exit (.jump (.cont l) f)
/-- a round of a loop: its test's answer, then its body -/
def bodyRO (lab : Option Nm) : Res → RO × Made
  | (.next f, m) => (.again f, m)
  | (.jump d f, m) => (jumpRO lab d f, m)
  | (.wait, m) => (.exit .wait, m)
  | (.hang, m) => (.exit .hang, m)
def rndW (lab : Option Nm) (tst : Flg → Made → Option Bool × Made) (body : Flg → Made → Res) (f : Flg) (m : Made) : RO × Made :=
  match tst f m with
  | (none, m1) => (.exit .wait, m1)
  | (some false, m1) => (.exit (.next f), m1)
  | (some true, m1) => bodyRO lab (body f m1)
/-- the law's own loop: the flags' states since the last call -/
def loopL (g : Flg → Made → RO × Made) : Nat → List Flg → Flg → Made → Res
  | 0, _, _, m => (.hang, m)
  | n + 1, st, f, m => if f ∈ st then (.hang, m) else match g f m with
    | (.exit o, m1) => (o, m1)
    | (.again f1, m1) => loopL g n (if m.length < m1.length then [] else st ++ [f]) f1 m1
def rounds : Nat := 9000
def andThen (r : Res) (k : Flg → Made → Res) : Res :=
  match r with
  | (.next f, m) => k f m
  | r => r
/-- behind a try's last body -/
def after (o : Out) (r : Res) : Res :=
  match r with
  | (.next f, m) => (match o with
    | .jump d _ => (.jump d f, m)
    | _ => (.next f, m))
  | r => r
def tryThen (r : Res) (k : Flg → Made → Res) : Res :=
  match r with
  | (.next f, m) => after (.next f) (k f m)
  | (.jump d f, m) => after (.jump d f) (k f m)
  | r => r
def alw : Flg → Made → Option Bool × Made := fun _ m => (some true, m)
mutual
def exS (as : List Bool) : Stm → Flg → Made → Res
  | .call n, fl, mk => match as[mk.length]? with
    | none => (.wait, mk ++ [n])
    | some _ => (.next fl, mk ++ [n])
  | .letf x b, fl, mk => (.next (fl ++ [(x, b)]), mk)
  | .setf x b, fl, mk => (.next (setF fl x b), mk)
  | .ite c a b, fl, mk => match evC as fl c mk with
    | (none, m) => (.wait, m)
    | (some true, m) => cut fl.length (exR as a fl m)
    | (some false, m) => cut fl.length (exR as b fl m)
  | .whl l c a, fl, mk => loopL (rndW l (fun f m => evC as f c m) (fun f m => cut f.length (exR as a f m))) rounds [] fl mk
  | .forl l a, fl, mk => loopL (rndW l alw (fun f m => cut f.length (exR as a f m))) rounds [] fl mk
  | .brk l, fl, mk => (.jump (.brk l) fl, mk)
  | .cont l, fl, mk => (.jump (.cont l) fl, mk)
  | .ret n, fl, mk => (.jump (.ret n) fl, mk)
  | .tryf a b, fl, mk => tryThen (cut fl.length (exR as a fl mk)) (fun f m => cut f.length (exR as b f m))
  | .block a, fl, mk => cut fl.length (exR as a fl mk)
def exR (as : List Bool) : Stms → Flg → Made → Res
  | .nil, fl, mk => (.next fl, mk)
  | .cons s r, fl, mk => andThen (exS as s fl mk) (fun f m => exR as r f m)
end
def exB (as : List Bool) (ss : Stms) (fl : Flg) (mk : Made) : Res := cut fl.length (exR as ss fl mk)
mutual
def szC : Cond → Nat
  | .call _ => 1
  | .flag _ => 1
  | .not c => szC c + 1
  | .and cs => szCs cs + 1
  | .or cs => szCs cs + 1
def szCs : Conds → Nat
  | .nil => 0
  | .cons c r => szC c + szCs r
end
mutual
def szS : Stm → Nat
  | .ite _ a b => szR a + szR b + 1
  | .whl _ _ a => szR a + 1
  | .forl _ a => szR a + 1
  | .tryf a b => szR a + szR b + 1
  | .block a => szR a + 1
  | _ => 1
def szR : Stms → Nat
  | .nil => 0
  | .cons s r => szS s + szR r
end
mutual
def letsS : Stm → Nat
  | .letf _ _ => 1
  | .ite _ a b => letsR a + letsR b
  | .whl _ _ a => letsR a
  | .forl _ a => letsR a
  | .tryf a b => letsR a + letsR b
  | .block a => letsR a
  | _ => 0
def letsR : Stms → Nat
  | .nil => 0
  | .cons s r => letsS s + letsR r
end
def nmOk (n : Nm) : Prop := n.length ≤ 60 ∧ ∀ c ∈ n.cps, c < 128
def labOk (l : Option Nm) : Prop := ∀ n, l = some n → nmOk n
mutual
def wfC (vis : List Nm) : Cond → Prop
  | .call n => nmOk n
  | .flag n => n ∈ vis
  | .not c => wfC vis c
  | .and cs => wfCs vis cs
  | .or cs => wfCs vis cs
def wfCs (vis : List Nm) : Conds → Prop
  | .nil => True
  | .cons c r => wfC vis c ∧ wfCs vis r
end
mutual
def wfS (vis own : List Nm) (lp : Nat) (la : Bool) : Stm → Prop
  | .call n => nmOk n
  | .letf x _ => nmOk x ∧ x ∉ own
  | .setf x _ => x ∈ vis
  | .ite c a b => wfC vis c ∧ szC c ≤ 18 ∧ wfR vis [] lp la a ∧ wfR vis [] lp la b
  | .whl l c a => labOk l ∧ wfC vis c ∧ szC c ≤ 18 ∧ wfR vis [] (lp + 1) la a
  | .forl l a => labOk l ∧ wfR vis [] (lp + 1) la a
  | .brk l => labOk l ∧ (l = none → 0 < lp)
  | .cont l => labOk l ∧ (l = none → 0 < lp)
  | .ret n => ∀ k, n = some k → 0 ≤ k ∧ k < 100
  | .tryf a b => la = false ∧ wfR vis [] lp la a ∧ wfR vis [] lp true b
  | .block a => wfR vis [] lp la a
def wfR (vis own : List Nm) (lp : Nat) (la : Bool) : Stms → Prop
  | .nil => True
  | .cons s r => wfS vis own lp la s ∧ (match s with
    | .letf x _ => wfR (vis ++ [x]) (own ++ [x]) lp la r
    | _ => wfR vis own lp la r)
end
/-- the names that a statement adds -/
def addsS : Stm → List Nm
  | .letf x _ => [x]
  | _ => []
def addsR : Stms → List Nm
  | .nil => []
  | .cons s r => addsS s ++ addsR r
theorem wfR_cons {vis own : List Nm} {lp : Nat} {la : Bool} {s : Stm} {r : Stms} : wfR vis own lp la (.cons s r) ↔ wfS vis own lp la s ∧ wfR (vis ++ addsS s) (own ++ addsS s) lp la r := by
  cases s <;> simp [wfR, addsS]
def outTxt : Out → Option Str
  | .next _ => some "end"
  | .hang => some "hang"
  | .wait => none
  | .jump (.ret none) _ => some "return"
  | .jump (.ret (some n)) _ => some (("return" : Str) ++ " " ++ (toString n : String))
  | .jump (.brk none) _ => some "break"
  | .jump (.brk (some l)) _ => some (("break" : Str) ++ " " ++ l)
  | .jump (.cont none) _ => some "continue"
  | .jump (.cont (some l)) _ => some (("continue" : Str) ++ " " ++ l)
def evName (n : Nm) : Str := n ++ "()"
def events (r : Res) : List Str := r.2.map evName ++ (outTxt r.1).toList
def run (as : List Bool) (p : Stms) : List Str := events (exB as p [] [])
end Fl
namespace Fl
open PySem
def Gr (as : List Bool) (a : Made) (w : Bool) (b : Made) : Prop :=
  (∃ t, b = a ++ t) ∧ (a.length ≤ as.length → (w = false → b.length ≤ as.length) ∧ (w = true → b.length = as.length + 1))
theorem Gr.refl (as : List Bool) (a : Made) : Gr as a false a := ⟨⟨[], by simp⟩, fun h => ⟨fun _ => h, fun q => nomatch q⟩⟩
theorem Gr.trans {as : List Bool} {a b c : Made} {w : Bool} (x : Gr as a false b) (y : Gr as b w c) : Gr as a w c := by
  obtain ⟨⟨t, rfl⟩, h⟩ := x
  obtain ⟨⟨u, rfl⟩, k⟩ := y
  exact ⟨⟨t ++ u, by simp⟩, fun q => k ((h q).1 rfl)⟩
theorem Gr.len {as : List Bool} {a b : Made} {w : Bool} (x : Gr as a w b) : a.length ≤ b.length := by
  obtain ⟨⟨t, rfl⟩, _⟩ := x
  simp
theorem Gr.same {as : List Bool} {a b : Made} {w : Bool} (x : Gr as a w b) (h : ¬ a.length < b.length) : b = a := by
  obtain ⟨⟨t, rfl⟩, _⟩ := x
  have : t = [] := by
    cases t with
    | nil => rfl
    | cons _ _ => simp at h
  simp [this]
theorem gr_call (as : List Bool) (mk : Made) (n : Nm) : Gr as mk ((as[mk.length]?).isNone) (mk ++ [n]) := by
  refine ⟨⟨[n], rfl⟩, fun h => ⟨fun q => ?_, fun q => ?_⟩⟩
  · have : mk.length < as.length := by
      cases e : as[mk.length]? with
      | none => rw [e] at q; cases q
      | some _ => exact (List.getElem?_eq_some_iff.mp e).1
    simp; omega
  · have : as.length ≤ mk.length := by
      cases e : as[mk.length]? with
      | none => exact List.getElem?_eq_none_iff.mp e
      | some _ => rw [e] at q; cases q
    simp; omega
mutual
theorem evC_gr (as : List Bool) (fl : Flg) : ∀ (c : Cond) (mk : Made), Gr as mk ((evC as fl c mk).1.isNone) (evC as fl c mk).2
  | .call n, mk => by
    simp only [evC]
    exact gr_call as mk n
  | .flag n, mk => by
    simp only [evC]
    exact Gr.refl as mk
  | .not c, mk => by
    have ih := evC_gr as fl c mk
    simp only [evC]
    rcases e : evC as fl c mk with ⟨_ | b, m⟩
    · rw [e] at ih; exact ih
    · rw [e] at ih; exact ih
  | .and cs, mk => by
    simp only [evC]
    exact evCs_gr as fl false cs mk
  | .or cs, mk => by
    simp only [evC]
    exact evCs_gr as fl true cs mk
theorem evCs_gr (as : List Bool) (fl : Flg) (o : Bool) : ∀ (cs : Conds) (mk : Made), Gr as mk ((evCs as fl o cs mk).1.isNone) (evCs as fl o cs mk).2
  | .nil, mk => by
    simp only [evCs]
    exact Gr.refl as mk
  | .cons c r, mk => by
    have ih := evC_gr as fl c mk
    simp only [evCs]
    rcases e : evC as fl c mk with ⟨_ | b, m⟩
    · rw [e] at ih; exact ih
    · rw [e] at ih
      by_cases hb : b = o
      · simp only [hb, if_true]
        exact ih
      · simp only [hb, if_false]
        exact ih.trans (evCs_gr as fl o r m)
end
def isWait : Out → Bool
  | .wait => true
  | _ => false
/-- the flags that an outcome leaves, for an outcome that goes on -/
def outF : Out → Option Flg
  | .next f => some f
  | .jump _ f => some f
  | _ => none
/-- a result that keeps the names of the flags ahead, from ns on -/
structure Fine (as : List Bool) (ns : List Nm) (mk : Made) (r : Res) : Prop where
  gr : Gr as mk (isWait r.1) r.2
  nm : ∀ f, outF r.1 = some f → nms f = ns
/-- .. that adds names -/
structure Fin2 (as : List Bool) (ns ad : List Nm) (mk : Made) (r : Res) : Prop where
  gr : Gr as mk (isWait r.1) r.2
  nx : ∀ f, r.1 = .next f → nms f = ns ++ ad
  nm : ∀ f, outF r.1 = some f → ∃ t, nms f = ns ++ t
structure FineR (as : List Bool) (ns : List Nm) (mk : Made) (r : RO × Made) : Prop where
  ag : ∀ f, r.1 = .again f → Gr as mk false r.2 ∧ nms f = ns
  ex : ∀ o, r.1 = .exit o → Fine as ns mk (o, r.2)
theorem nms_take (n : Nat) (f : Flg) : nms (f.take n) = (nms f).take n := by simp [nms, List.map_take]
theorem nms_len (f : Flg) : (nms f).length = f.length := by simp [nms]
theorem Fin2.cut {as : List Bool} {fl : Flg} {ad : List Nm} {mk : Made} {r : Res} (h : Fin2 as (nms fl) ad mk r) : Fine as (nms fl) mk (cut fl.length r) := by
  obtain ⟨o, m⟩ := r
  obtain ⟨g, nx, nm⟩ := h
  cases o with
  | next f =>
    refine ⟨g, fun f' e => ?_⟩
    obtain ⟨t, ht⟩ := nm f rfl
    have e' : f.take fl.length = f' := by simpa [Fl.cut, outF] using e
    rw [← e', nms_take, ht, ← nms_len]; simp
  | jump d f =>
    refine ⟨g, fun f' e => ?_⟩
    obtain ⟨t, ht⟩ := nm f rfl
    have e' : f.take fl.length = f' := by simpa [Fl.cut, outF] using e
    rw [← e', nms_take, ht, ← nms_len]; simp
  | wait => exact ⟨g, fun f' e => by simp [Fl.cut, outF] at e⟩
  | hang => exact ⟨g, fun f' e => by simp [Fl.cut, outF] at e⟩
theorem Fine.to2 {as : List Bool} {ns : List Nm} {mk : Made} {r : Res} (h : Fine as ns mk r) : Fin2 as ns [] mk r :=
  ⟨h.gr, fun f e => by rw [List.append_nil]; exact h.nm f (by rw [e]; rfl), fun f e => ⟨[], by rw [List.append_nil]; exact h.nm f e⟩⟩
theorem bodyRO_fine {as : List Bool} {ns : List Nm} {mk : Made} {lab : Option Nm} {r : Res} (h : Fine as ns mk r) : FineR as ns mk (bodyRO lab r) := by
  obtain ⟨o, m⟩ := r
  cases o with
  | next f => exact ⟨fun f' e => by cases e; exact ⟨h.gr, h.nm f rfl⟩, fun o e => by cases e⟩
  | wait => exact ⟨fun f' e => (by cases e), fun o e => by cases e; exact h⟩
  | hang => exact ⟨fun f' e => (by cases e), fun o e => by cases e; exact h⟩
  | jump d f =>
    have hn := h.nm f rfl
    cases d with
    | ret n => exact ⟨fun f' e => (by cases e), fun o e => by cases e; exact ⟨h.gr, fun f' e => by cases e; exact hn⟩⟩
    | brk l =>
      show FineR as ns mk (jumpRO lab (.brk l) f, m)
      unfold jumpRO
      by_cases c : l = none ∨ l = lab
      · simp only [c, if_true]
        exact ⟨fun f' e => (by cases e), fun o e => by cases e; exact ⟨h.gr, fun f' e => by cases e; exact hn⟩⟩
      · simp only [c, if_false]
        exact ⟨fun f' e => (by cases e), fun o e => by cases e; exact ⟨h.gr, fun f' e => by cases e; exact hn⟩⟩
    | cont l =>
      show FineR as ns mk (jumpRO lab (.cont l) f, m)
      unfold jumpRO
      by_cases c : l = none ∨ l = lab
      · simp only [c, if_true]
        exact ⟨fun f' e => by cases e; exact ⟨h.gr, hn⟩, fun o e => by cases e⟩
      · simp only [c, if_false]
        exact ⟨fun f' e => (by cases e), fun o e => by cases e; exact ⟨h.gr, fun f' e => by cases e; exact hn⟩⟩
theorem Fine.pre {as : List Bool} {ns : List Nm} {a b : Made} {r : Res} (x : Gr as a false b) (h : Fine as ns b r) : Fine as ns a r := ⟨x.trans h.gr, h.nm⟩
theorem FineR.pre {as : List Bool} {ns : List Nm} {a b : Made} {r : RO × Made} (x : Gr as a false b) (h : FineR as ns b r) : FineR as ns a r :=
  ⟨fun f e => ⟨x.trans (h.ag f e).1, (h.ag f e).2⟩, fun o e => (h.ex o e).pre x⟩
/-- a round -/
def FineG (as : List Bool) (ns : List Nm) (g : Flg → Made → RO × Made) : Prop := ∀ f m, nms f = ns → FineR as ns m (g f m)
theorem rndW_fine {as : List Bool} {ns : List Nm} {lab : Option Nm} {tst : Flg → Made → Option Bool × Made} {body : Flg → Made → Res} (ht : ∀ f m, Gr as m ((tst f m).1.isNone) (tst f m).2)
    (hb : ∀ f m, nms f = ns → Fine as ns m (body f m)) : FineG as ns (rndW lab tst body) := fun f m hf => by
  have h := ht f m
  unfold rndW
  rcases e : tst f m with ⟨_ | b, m1⟩
  · rw [e] at h
    exact ⟨fun f' q => (by cases q), fun o q => by cases q; exact ⟨h, fun f' q => by cases q⟩⟩
  · rw [e] at h
    cases b with
    | false => exact ⟨fun f' q => (by cases q), fun o q => by cases q; exact ⟨h, fun f' q => by cases q; exact hf⟩⟩
    | true => exact (bodyRO_fine (hb f m1 hf)).pre h
theorem loopL_fine {as : List Bool} {ns : List Nm} {g : Flg → Made → RO × Made} (hg : FineG as ns g) : ∀ (n : Nat) (st : List Flg) (f : Flg) (m : Made), nms f = ns → Fine as ns m (loopL g n st f m)
  | 0, st, f, m, hf => ⟨Gr.refl as m, fun f' e => by cases e⟩
  | n + 1, st, f, m, hf => by
    unfold loopL
    by_cases c : f ∈ st
    · simp only [c, if_true]
      exact ⟨Gr.refl as m, fun f' e => by cases e⟩
    · simp only [c, if_false]
      have h := hg f m hf
      rcases e : g f m with ⟨f1 | o, m1⟩
      · obtain ⟨h1, h2⟩ := h.ag f1 (by rw [e])
        rw [e] at h1
        exact (loopL_fine hg n _ f1 m1 h2).pre h1
      · have := h.ex o (by rw [e])
        rw [e] at this
        exact this
theorem after_fine {as : List Bool} {ns : List Nm} {mk : Made} {o : Out} {r : Res} (h : Fine as ns mk r) : Fine as ns mk (after o r) := by
  obtain ⟨o', m⟩ := r
  cases o' with
  | next f =>
    have hn := h.nm f rfl
    cases o with
    | jump d f0 => exact ⟨h.gr, fun f' e => by cases e; exact hn⟩
    | next f0 => exact h
    | wait => exact h
    | hang => exact h
  | jump d f => exact h
  | wait => exact h
  | hang => exact h
theorem tryThen_fine {as : List Bool} {ns : List Nm} {mk : Made} {r : Res} {k : Flg → Made → Res} (h : Fine as ns mk r) (hk : ∀ f m, nms f = ns → Fine as ns m (k f m)) : Fine as ns mk (tryThen r k) := by
  obtain ⟨o, m⟩ := r
  cases o with
  | next f => exact after_fine (o := .next f) ((hk f m (h.nm f rfl)).pre h.gr)
  | jump d f => exact after_fine (o := .jump d f) ((hk f m (h.nm f rfl)).pre h.gr)
  | wait => exact h
  | hang => exact h
mutual
theorem exS_fin (as : List Bool) : ∀ (s : Stm) (fl : Flg) (mk : Made), Fin2 as (nms fl) (addsS s) mk (exS as s fl mk)
  | .call n, fl, mk => by
    have h := gr_call as mk n
    simp only [exS]
    cases e : as[mk.length]? with
    | none =>
      rw [e] at h
      exact ⟨h, fun f q => (by cases q), fun f q => by cases q⟩
    | some b =>
      rw [e] at h
      exact ⟨h, fun f q => by cases q; simp [addsS], fun f q => by cases q; exact ⟨[], by simp⟩⟩
  | .letf x b, fl, mk => by
    simp only [exS]
    exact ⟨Gr.refl as mk, fun f q => by cases q; simp [addsS, nms], fun f q => by cases q; exact ⟨[x], by simp [nms]⟩⟩
  | .setf x b, fl, mk => by
    simp only [exS]
    exact ⟨Gr.refl as mk, fun f q => by cases q; simp [addsS, nms_setF], fun f q => by cases q; exact ⟨[], by simp [nms_setF]⟩⟩
  | .ite c a b, fl, mk => by
    have h := evC_gr as fl c mk
    simp only [exS]
    rcases e : evC as fl c mk with ⟨_ | v, m⟩
    · rw [e] at h
      exact ⟨h, fun f q => (by cases q), fun f q => by cases q⟩
    · rw [e] at h
      cases v with
      | true => exact (((exR_fin as a fl m).cut).pre h).to2
      | false => exact (((exR_fin as b fl m).cut).pre h).to2
  | .whl l c a, fl, mk => by
    simp only [exS]
    exact (loopL_fine (rndW_fine (fun f m => evC_gr as f c m) fun f m hf => by rw [← hf]; exact (exR_fin as a f m).cut) rounds [] fl mk rfl).to2
  | .forl l a, fl, mk => by
    simp only [exS]
    exact (loopL_fine (rndW_fine (fun f m => Gr.refl as m) fun f m hf => by rw [← hf]; exact (exR_fin as a f m).cut) rounds [] fl mk rfl).to2
  | .brk l, fl, mk => by
    simp only [exS]
    exact ⟨Gr.refl as mk, fun f q => (by cases q), fun f q => by cases q; exact ⟨[], by simp⟩⟩
  | .cont l, fl, mk => by
    simp only [exS]
    exact ⟨Gr.refl as mk, fun f q => (by cases q), fun f q => by cases q; exact ⟨[], by simp⟩⟩
  | .ret n, fl, mk => by
    simp only [exS]
    exact ⟨Gr.refl as mk, fun f q => (by cases q), fun f q => by cases q; exact ⟨[], by simp⟩⟩
  | .tryf a b, fl, mk => by
    simp only [exS]
    exact (tryThen_fine (exR_fin as a fl mk).cut fun f m hf => by rw [← hf]; exact (exR_fin as b f m).cut).to2
  | .block a, fl, mk => by
    simp only [exS]
    exact (exR_fin as a fl mk).cut.to2
theorem exR_fin (as : List Bool) : ∀ (ss : Stms) (fl : Flg) (mk : Made), Fin2 as (nms fl) (addsR ss) mk (exR as ss fl mk)
  | .nil, fl, mk => by
    simp only [exR]
    exact ⟨Gr.refl as mk, fun f q => by cases q; simp [addsR], fun f q => by cases q; exact ⟨[], by simp⟩⟩
  | .cons s r, fl, mk => by
    have h := exS_fin as s fl mk
    simp only [exR]
    rcases e : exS as s fl mk with ⟨o, m⟩
    rw [e] at h
    cases o with
    | next f =>
      have h1 := h.nx f rfl
      have h2 := exR_fin as r f m
      refine ⟨h.gr.trans h2.gr, fun f' q => ?_, fun f' q => ?_⟩
      · rw [h2.nx f' q, h1]; simp [addsR]
      · obtain ⟨t, ht⟩ := h2.nm f' q
        exact ⟨addsS s ++ t, by rw [ht, h1]; simp⟩
    | jump d f => exact ⟨h.gr, fun f' q => (by cases q), fun f' q => h.nm f' q⟩
    | wait => exact ⟨h.gr, fun f' q => (by cases q), fun f' q => by cases q⟩
    | hang => exact ⟨h.gr, fun f' q => (by cases q), fun f' q => by cases q⟩
end
theorem exB_fine (as : List Bool) (ss : Stms) (fl : Flg) (mk : Made) : Fine as (nms fl) mk (exB as ss fl mk) := (exR_fin as ss fl mk).cut
end Fl
namespace Fl
open PySem
theorem nat_pig : ∀ (N : Nat) (L : List Nat), L.Nodup → (∀ x ∈ L, x < N) → L.length ≤ N
  | 0, L, _, h => by
    cases L with
    | nil => simp
    | cons a r => exact absurd (h a (by simp)) (Nat.not_lt_zero a)
  | N + 1, L, nd, h => by
    by_cases hN : N ∈ L
    · have h1 : (L.erase N).length = L.length - 1 := List.length_erase_of_mem hN
      have h2 := nat_pig N (L.erase N) (nd.erase N) fun x hx => by
        have hx' := (List.Nodup.mem_erase_iff nd).mp hx
        have := h x hx'.2
        have := hx'.1
        omega
      omega
    · have h2 := nat_pig N L nd fun x hx => by
        have h3 := h x hx
        have h4 : x ≠ N := fun e => hN (e ▸ hx)
        omega
      omega
def code : Flg → Nat
  | [] => 0
  | (_, b) :: r => (if b then 1 else 0) + 2 * code r
theorem code_lt : ∀ f : Flg, code f < 2 ^ f.length
  | [] => by simp [code]
  | (x, b) :: r => by
    have ih := code_lt r
    simp only [code, List.length_cons, Nat.pow_succ]
    split <;> omega
theorem code_inj : ∀ (f g : Flg), nms f = nms g → code f = code g → f = g
  | [], [], _, _ => rfl
  | [], _ :: _, h, _ => by simp [nms] at h
  | _ :: _, [], h, _ => by simp [nms] at h
  | (x, b) :: r, (y, c) :: q, h, e => by
    have h' : x = y ∧ nms r = nms q := by simpa [nms] using h
    simp only [code] at e
    have hb : b = c := by
      cases b <;> cases c <;> simp at e ⊢ <;> omega
    subst hb
    have e' : code r = code q := by omega
    rw [code_inj r q h'.2 e', h'.1]
theorem flg_pig {ns : List Nm} {L : List Flg} (nd : L.Nodup) (h : ∀ f ∈ L, nms f = ns) : L.length ≤ 2 ^ ns.length := by
  have h1 : (L.map code).Nodup := by
    have aux : ∀ L : List Flg, L.Nodup → (∀ f ∈ L, nms f = ns) → (L.map code).Nodup := by
      intro L
      induction L with
      | nil => intro _ _; simp
      | cons a r ih =>
        intro nd h
        obtain ⟨n1, n2⟩ := List.nodup_cons.mp nd
        refine List.nodup_cons.mpr ⟨fun hm => ?_, ih n2 fun f hf => h f (by simp [hf])⟩
        obtain ⟨g, hg, e⟩ := List.mem_map.mp hm
        have e' := code_inj g a ((h g (by simp [hg])).trans (h a (by simp)).symm) e
        exact n1 (e' ▸ hg)
    exact aux L nd h
  have h2 := nat_pig (2 ^ ns.length) (L.map code) h1 fun x hx => by
    obtain ⟨f, hf, rfl⟩ := List.mem_map.mp hx
    have := code_lt f
    have e : f.length = ns.length := by rw [← nms_len, h f hf]
    rw [← e]; exact this
  simpa using h2
inductive PL (g : Flg → Made → RO × Made) (R : Nat) : Nat → Nat → Flg → Made → Res → Prop where
  | stop {i k : Nat} {f : Flg} {m : Made} (h : R < k) : PL g R i k f m (.hang, m)
  | exit {i k : Nat} {f : Flg} {m m1 : Made} {o : Out} (h : k ≤ R) (e : g f m = (.exit o, m1)) : PL g R i k f m (o, m1)
  | again {i k : Nat} {f f1 : Flg} {m m1 : Made} {r : Res} (h : k ≤ R) (e : g f m = (.again f1, m1)) (n : PL g R i (if m.length < m1.length then 0 else k + 1) f1 m1 r) : PL g R (i + 1) k f m r
/-- going round in a closed row of states -/
theorem pl_ring {g : Flg → Made → RO × Made} {R : Nat} {S : List Flg} {m : Made} (cl : ∀ f ∈ S, ∃ f1 ∈ S, g f m = (.again f1, m)) : ∀ (d k : Nat) (f : Flg), f ∈ S → R + 1 ≤ k + d → PL g R d k f m (.hang, m)
  | 0, k, f, _, h => .stop (by omega)
  | d + 1, k, f, hf, h => by
    by_cases c : R < k
    · exact .stop c
    · obtain ⟨f1, h1, e⟩ := cl f hf
      refine .again (by omega) e ?_
      rw [if_neg (Nat.lt_irrefl _)]
      exact pl_ring cl d (k + 1) f1 h1 (by omega)
/-- the states of a phase: each is followed by the next -/
def Chain (g : Flg → Made → RO × Made) (m : Made) : List Flg → Flg → Prop
  | [], _ => True
  | [a], f => g a m = (.again f, m)
  | a :: b :: r, f => g a m = (.again b, m) ∧ Chain g m (b :: r) f
theorem chain_snoc {g : Flg → Made → RO × Made} {m : Made} {f1 : Flg} : ∀ {st : List Flg} {f : Flg}, Chain g m st f → g f m = (.again f1, m) → Chain g m (st ++ [f]) f1
  | [], f, _, h => h
  | [a], f, c, h => ⟨c, h⟩
  | a :: b :: r, f, c, h => ⟨c.1, chain_snoc (st := b :: r) c.2 h⟩
theorem chain_next {g : Flg → Made → RO × Made} {m : Made} : ∀ {st : List Flg} {f : Flg}, Chain g m st f → ∀ a ∈ st, ∃ b, (b = f ∨ b ∈ st) ∧ g a m = (.again b, m)
  | [], _, _, a, h => by cases h
  | [a], f, c, x, h => by
    have : x = a := by simpa using h
    subst this
    exact ⟨f, .inl rfl, c⟩
  | a :: b :: r, f, c, x, h => by
    rcases List.mem_cons.mp h with e | h
    · subst e
      exact ⟨b, .inr (by simp), c.1⟩
    · obtain ⟨y, hy, e⟩ := chain_next (st := b :: r) c.2 x h
      refine ⟨y, ?_, e⟩
      rcases hy with hy | hy
      · exact .inl hy
      · exact .inr (List.mem_cons_of_mem _ hy)
theorem loop_pl {as : List Bool} {ns : List Nm} {g : Flg → Made → RO × Made} {R : Nat} (hg : FineG as ns g) (hR : 2 ^ ns.length ≤ R + 1) : ∀ (n : Nat) (st : List Flg) (f : Flg) (m : Made), nms f = ns → m.length ≤ as.length →
    st.Nodup → (∀ x ∈ st, nms x = ns) → Chain g m st f → (as.length - m.length) * (2 ^ ns.length + 1) + (2 ^ ns.length - st.length) < n → ∃ i, PL g R i st.length f m (loopL g n st f m)
  | 0, st, f, m, _, _, _, _, _, hn => absurd hn (Nat.not_lt_zero _)
  | n + 1, st, f, m, hf, hm, nd, hst, ch, hn => by
    unfold loopL
    by_cases c : f ∈ st
    · simp only [c, if_true]
      refine ⟨R + 1, pl_ring (S := st) (fun a ha => ?_) (R + 1) _ f c (by omega)⟩
      obtain ⟨b, hb, e⟩ := chain_next ch a ha
      refine ⟨b, ?_, e⟩
      rcases hb with hb | hb
      · rw [hb]; exact c
      · exact hb
    · simp only [c, if_false]
      have nd' : (st ++ [f]).Nodup := by
        rw [List.nodup_append]
        refine ⟨nd, by simp, fun a ha b hb e => ?_⟩
        have : b = f := by simpa using hb
        subst this
        subst e
        exact c ha
      have hst' : ∀ x ∈ st ++ [f], nms x = ns := fun x hx => by
        rcases List.mem_append.mp hx with hx | hx
        · exact hst x hx
        · have : x = f := by simpa using hx
          rw [this]; exact hf
      have hk : st.length + 1 ≤ 2 ^ ns.length := by
        have := flg_pig nd' hst'
        simpa using this
      have h := hg f m hf
      rcases e : g f m with ⟨f1 | o, m1⟩
      · obtain ⟨h1, h2⟩ := h.ag f1 (by rw [e])
        rw [e] at h1
        have hm1 : m1.length ≤ as.length := (h1.2 hm).1 rfl
        by_cases l : m.length < m1.length
        · have hn' : (as.length - m1.length) * (2 ^ ns.length + 1) + (2 ^ ns.length - 0) < n := by
            have q : (as.length - m1.length + 1) * (2 ^ ns.length + 1) ≤ (as.length - m.length) * (2 ^ ns.length + 1) := Nat.mul_le_mul_right _ (by omega)
            rw [Nat.add_mul, Nat.one_mul] at q
            omega
          obtain ⟨i, p⟩ := loop_pl hg hR n [] f1 m1 h2 hm1 (by simp) (by simp) trivial (by simpa using hn')
          refine ⟨i + 1, .again (by omega) e ?_⟩
          simp only [l, if_true]
          exact p
        · have em : m1 = m := h1.same l
          subst em
          have hn' : (as.length - m1.length) * (2 ^ ns.length + 1) + (2 ^ ns.length - (st ++ [f]).length) < n := by
            simp only [List.length_append, List.length_singleton]
            omega
          obtain ⟨i, p⟩ := loop_pl hg hR n (st ++ [f]) f1 m1 h2 hm nd' hst' (chain_snoc ch e) hn'
          refine ⟨i + 1, .again (by omega) e ?_⟩
          simp only [l, if_false]
          rw [List.length_append, List.length_singleton] at p
          exact p
      · exact ⟨0, .exit (by omega) e⟩
/-- the law's loop, as the program runs it -/
theorem loop_pl0 {as : List Bool} {ns : List Nm} {g : Flg → Made → RO × Made} {R : Nat} (hg : FineG as ns g) (hR : 2 ^ ns.length ≤ R + 1) (hn : ns.length ≤ 4) (ha : as.length ≤ 400) (f : Flg) (m : Made) (hf : nms f = ns) (hm : m.length ≤ as.length) :
    ∃ i, PL g R i 0 f m (loopL g rounds [] f m) := by
  have h4 : 2 ^ ns.length ≤ 2 ^ 4 := Nat.pow_le_pow_right (by decide) hn
  have h5 : (2 : Nat) ^ 4 = 16 := by decide
  refine loop_pl hg hR rounds [] f m hf hm (by simp) (by simp) trivial ?_
  have q : (as.length - m.length) * (2 ^ ns.length + 1) ≤ 400 * 17 := Nat.mul_le_mul (by omega) (by omega)
  show _ < 9000
  simp only [List.length_nil]
  omega
end Fl
namespace Fl
open PySem
def outMv (pre : Flg) : Out → Out
  | .next f => .next (pre ++ f)
  | .jump d f => .jump d (pre ++ f)
  | .wait => .wait
  | .hang => .hang
def mv (pre : Flg) (m1 : Made) (r : Res) : Res := (outMv pre r.1, m1 ++ r.2)
def mvC (m1 : Made) (r : Option Bool × Made) : Option Bool × Made := (r.1, m1 ++ r.2)
def mvRO (pre : Flg) (m1 : Made) (r : RO × Made) : RO × Made := (match r.1 with
  | .again f => .again (pre ++ f)
  | .exit o => .exit (outMv pre o), m1 ++ r.2)
theorem lookF_cons (x : Nm) (b : Bool) (r : Flg) (n : Nm) : lookF ((x, b) :: r) n = (match lookF r n with
    | some v => some v
    | none => if x = n then some b else none) := rfl
theorem setF_cons (x : Nm) (v : Bool) (r : Flg) (n : Nm) (b : Bool) : setF ((x, v) :: r) n b = (if (lookF r n).isSome then (x, v) :: setF r n b else if x = n then (x, b) :: r else (x, v) :: setF r n b) := rfl
theorem look_mv {n : Nm} (fl : Flg) (h : n ∈ nms fl) : ∀ pre : Flg, lookF (pre ++ fl) n = lookF fl n
  | [] => rfl
  | (x, v) :: r => by
    show lookF ((x, v) :: (r ++ fl)) n = _
    obtain ⟨b, e⟩ := lookF_some h
    rw [lookF_cons, look_mv fl h r, e]
theorem set_mv {n : Nm} {b : Bool} (fl : Flg) (h : n ∈ nms fl) : ∀ pre : Flg, setF (pre ++ fl) n b = pre ++ setF fl n b
  | [] => rfl
  | (x, v) :: r => by
    show setF ((x, v) :: (r ++ fl)) n b = _
    obtain ⟨w, e⟩ := lookF_some h
    rw [setF_cons, look_mv fl h r, e, set_mv fl h r]
    simp
theorem call_mv (as : List Bool) (m1 mk : Made) : as[(m1 ++ mk).length]? = (as.drop m1.length)[mk.length]? := by
  rw [List.getElem?_drop, List.length_append]
section
variable {as : List Bool} {pre : Flg} {m1 : Made}
mutual
theorem evC_mv (fl : Flg) : ∀ (c : Cond) (mk : Made), wfC (nms fl) c → evC as (pre ++ fl) c (m1 ++ mk) = mvC m1 (evC (as.drop m1.length) fl c mk)
  | .call n, mk, _ => by
    simp only [evC, mvC, call_mv, List.append_assoc]
  | .flag n, mk, h => by
    simp only [wfC] at h
    simp only [evC, mvC, look_mv fl h]
  | .not c, mk, h => by
    simp only [wfC] at h
    simp only [evC, evC_mv fl c mk h]
    rcases evC (as.drop m1.length) fl c mk with ⟨_ | b, m⟩ <;> rfl
  | .and cs, mk, h => by
    simp only [wfC] at h
    simp only [evC]
    exact evCs_mv fl false cs mk h
  | .or cs, mk, h => by
    simp only [wfC] at h
    simp only [evC]
    exact evCs_mv fl true cs mk h
theorem evCs_mv (fl : Flg) (o : Bool) : ∀ (cs : Conds) (mk : Made), wfCs (nms fl) cs → evCs as (pre ++ fl) o cs (m1 ++ mk) = mvC m1 (evCs (as.drop m1.length) fl o cs mk)
  | .nil, mk, _ => by simp only [evCs, mvC]
  | .cons c r, mk, h => by
    simp only [wfCs] at h
    simp only [evCs, evC_mv fl c mk h.1]
    rcases evC (as.drop m1.length) fl c mk with ⟨_ | b, m⟩
    · rfl
    · simp only [mvC]
      by_cases hb : b = o
      · simp only [hb, if_true]
      · simp only [hb, if_false]
        exact evCs_mv fl o r m h.2
end
theorem cut_mv (n : Nat) (r : Res) : cut (pre.length + n) (mv pre m1 r) = mv pre m1 (cut n r) := by
  obtain ⟨o, m⟩ := r
  cases o <;> simp [cut, mv, outMv, List.take_append, List.take_of_length_le]
theorem bodyRO_mv (lab : Option Nm) (r : Res) : bodyRO lab (mv pre m1 r) = mvRO pre m1 (bodyRO lab r) := by
  obtain ⟨o, m⟩ := r
  cases o with
  | jump d f =>
    show (jumpRO lab d (pre ++ f), m1 ++ m) = mvRO pre m1 (jumpRO lab d f, m)
    cases d with
    | ret n => rfl
    | brk l =>
      unfold jumpRO
      by_cases c : l = none ∨ l = lab
      · simp only [c, if_true]; rfl
      · simp only [c, if_false]; rfl
    | cont l =>
      unfold jumpRO
      by_cases c : l = none ∨ l = lab
      · simp only [c, if_true]; rfl
      · simp only [c, if_false]; rfl
  | _ => rfl
theorem loop_mv {ns : List Nm} {bs : List Bool} {g g' : Flg → Made → RO × Made} (hg : FineG bs ns g') (h : ∀ f m, nms f = ns → g (pre ++ f) (m1 ++ m) = mvRO pre m1 (g' f m)) :
    ∀ (n : Nat) (st : List Flg) (f : Flg) (m : Made), nms f = ns → loopL g n (st.map (pre ++ ·)) (pre ++ f) (m1 ++ m) = mv pre m1 (loopL g' n st f m)
  | 0, st, f, m, _ => rfl
  | n + 1, st, f, m, hf => by
    unfold loopL
    have hm : (pre ++ f ∈ st.map (pre ++ ·)) ↔ f ∈ st := by
      rw [List.mem_map]
      constructor
      · rintro ⟨a, ha, e⟩
        have : a = f := List.append_cancel_left e
        rw [← this]; exact ha
      · intro ha
        exact ⟨f, ha, rfl⟩
    by_cases c : f ∈ st
    · have c' := hm.mpr c
      simp only [c, c', if_true]
      rfl
    · have c' : ¬ (pre ++ f ∈ st.map (pre ++ ·)) := fun q => c (hm.mp q)
      simp only [c, c', if_false]
      rw [h f m hf]
      have hh := hg f m hf
      rcases e : g' f m with ⟨f1 | o, m2⟩
      · obtain ⟨_, h2⟩ := hh.ag f1 (by rw [e])
        simp only [mvRO]
        have := loop_mv hg h n (if m.length < m2.length then [] else st ++ [f]) f1 m2 h2
        by_cases l : m.length < m2.length
        · have l' : (m1 ++ m).length < (m1 ++ m2).length := by simp; exact l
          simp only [l, l', if_true] at this ⊢
          exact this
        · have l' : ¬ (m1 ++ m).length < (m1 ++ m2).length := by simp; omega
          simp only [l, l', if_false] at this ⊢
          rw [List.map_append] at this
          exact this
      · rfl
theorem tryThen_mv {r : Res} {k k' : Flg → Made → Res} {ns : List Nm} (hf : ∀ f, outF r.1 = some f → nms f = ns) (hk : ∀ f m, nms f = ns → k (pre ++ f) (m1 ++ m) = mv pre m1 (k' f m)) : tryThen (mv pre m1 r) k = mv pre m1 (tryThen r k') := by
  obtain ⟨o, m⟩ := r
  have aft : ∀ (o : Out) (r : Res), after (outMv pre o) (mv pre m1 r) = mv pre m1 (after o r) := by
    rintro o ⟨o', m'⟩
    cases o' <;> cases o <;> rfl
  cases o with
  | next f =>
    show after (.next (pre ++ f)) (k (pre ++ f) (m1 ++ m)) = _
    rw [hk f m (hf f rfl)]
    exact aft (.next f) _
  | jump d f =>
    show after (.jump d (pre ++ f)) (k (pre ++ f) (m1 ++ m)) = _
    rw [hk f m (hf f rfl)]
    exact aft (.jump d f) _
  | wait => rfl
  | hang => rfl
theorem len_of {f : Flg} {ns : List Nm} (h : nms f = ns) : f.length = ns.length := by rw [← nms_len, h]
mutual
theorem exS_mv : ∀ (s : Stm) (vis own : List Nm) (lp : Nat) (la : Bool) (fl : Flg) (mk : Made), nms fl = vis → wfS vis own lp la s → exS as s (pre ++ fl) (m1 ++ mk) = mv pre m1 (exS (as.drop m1.length) s fl mk)
  | .call n, vis, own, lp, la, fl, mk, hv, h => by
    simp only [exS, call_mv, List.append_assoc]
    cases (as.drop m1.length)[mk.length]? <;> rfl
  | .letf x b, vis, own, lp, la, fl, mk, hv, h => by
    simp [exS, mv, outMv]
  | .setf x b, vis, own, lp, la, fl, mk, hv, h => by
    simp only [wfS] at h
    rw [← hv] at h
    simp only [exS, mv, outMv, set_mv fl h]
  | .ite c a b, vis, own, lp, la, fl, mk, hv, h => by
    simp only [wfS] at h
    obtain ⟨h1, _, h2, h3⟩ := h
    simp only [exS]
    rw [evC_mv fl c mk (by rw [hv]; exact h1)]
    rcases evC (as.drop m1.length) fl c mk with ⟨_ | v, m⟩
    · rfl
    · cases v with
      | true =>
        simp only [mvC]
        rw [exR_mv a vis [] lp la fl m hv h2, List.length_append, cut_mv]
      | false =>
        simp only [mvC]
        rw [exR_mv b vis [] lp la fl m hv h3, List.length_append, cut_mv]
  | .whl l c a, vis, own, lp, la, fl, mk, hv, h => by
    simp only [wfS] at h
    obtain ⟨_, h1, _, h2⟩ := h
    simp only [exS]
    refine loop_mv (ns := vis) (st := []) (bs := as.drop m1.length) (rndW_fine (fun f m => evC_gr _ f c m) fun f m hf => by rw [← hf]; exact (exR_fin _ a f m).cut) (fun f m hf => ?_) rounds fl mk hv
    unfold rndW
    simp only []
    rw [evC_mv f c m (by rw [hf]; exact h1)]
    rcases evC (as.drop m1.length) f c m with ⟨_ | v, m2⟩
    · rfl
    · cases v with
      | false => rfl
      | true =>
        simp only [mvC]
        rw [exR_mv a vis [] (lp + 1) la f m2 hf h2, List.length_append, cut_mv, bodyRO_mv]
  | .forl l a, vis, own, lp, la, fl, mk, hv, h => by
    simp only [wfS] at h
    simp only [exS]
    refine loop_mv (ns := vis) (st := []) (bs := as.drop m1.length) (rndW_fine (fun f m => Gr.refl _ m) fun f m hf => by rw [← hf]; exact (exR_fin _ a f m).cut) (fun f m hf => ?_) rounds fl mk hv
    unfold rndW alw
    simp only []
    rw [exR_mv a vis [] (lp + 1) la f m hf h.2, List.length_append, cut_mv, bodyRO_mv]
  | .brk l, vis, own, lp, la, fl, mk, hv, h => by simp only [exS]; rfl
  | .cont l, vis, own, lp, la, fl, mk, hv, h => by simp only [exS]; rfl
  | .ret n, vis, own, lp, la, fl, mk, hv, h => by simp only [exS]; rfl
  | .tryf a b, vis, own, lp, la, fl, mk, hv, h => by
    simp only [wfS] at h
    obtain ⟨_, h2, h3⟩ := h
    simp only [exS]
    rw [exR_mv a vis [] lp la fl mk hv h2, List.length_append, cut_mv]
    refine tryThen_mv (ns := vis) (fun f hf => ?_) fun f m hf => ?_
    · exact ((exR_fin _ a fl mk).cut.nm f hf).trans hv
    · rw [exR_mv b vis [] lp true f m hf h3, List.length_append, cut_mv]
  | .block a, vis, own, lp, la, fl, mk, hv, h => by
    simp only [wfS] at h
    simp only [exS]
    rw [exR_mv a vis [] lp la fl mk hv h, List.length_append, cut_mv]
theorem exR_mv : ∀ (ss : Stms) (vis own : List Nm) (lp : Nat) (la : Bool) (fl : Flg) (mk : Made), nms fl = vis → wfR vis own lp la ss → exR as ss (pre ++ fl) (m1 ++ mk) = mv pre m1 (exR (as.drop m1.length) ss fl mk)
  | .nil, vis, own, lp, la, fl, mk, hv, h => by simp only [exR]; rfl
  | .cons s r, vis, own, lp, la, fl, mk, hv, h => by
    rw [wfR_cons] at h
    simp only [exR]
    rw [exS_mv s vis own lp la fl mk hv h.1]
    have hf := exS_fin (as.drop m1.length) s fl mk
    rcases e : exS (as.drop m1.length) s fl mk with ⟨o, m⟩
    rw [e] at hf
    cases o with
    | next f => exact exR_mv r _ _ lp la f m ((hf.nx f rfl).trans (by rw [hv])) h.2
    | jump d f => rfl
    | wait => rfl
    | hang => rfl
end
end
def twoB (p q : Stms) : Stms := .cons (.block p) (.cons (.block q) .nil)
def twoT (p q : Stms) : Stms := .cons (.tryf p .nil) (.cons (.block q) .nil)
def twoI (on x : Nm) (p q : Stms) : Stms := .cons (.block p) (.cons (.letf on true) (.cons (.ite (.flag on) q (.cons (.call x) .nil)) .nil))
theorem outTxt_mv (pre : Flg) (o : Out) : outTxt (outMv pre o) = outTxt o := by
  cases o with
  | jump d f => cases d with
    | ret n => cases n <;> rfl
    | brk l => cases l <;> rfl
    | cont l => cases l <;> rfl
  | _ => rfl
theorem events_mv (pre : Flg) (m1 : Made) (r : Res) : events (mv pre m1 r) = m1.map evName ++ events r := by
  unfold events mv
  rw [outTxt_mv, List.map_append, List.append_assoc]
theorem outTxt_cut (n : Nat) (r : Res) : outTxt (cut n r).1 = outTxt r.1 := by
  obtain ⟨o, m⟩ := r
  cases o with
  | jump d f => cases d with
    | ret n => cases n <;> rfl
    | brk l => cases l <;> rfl
    | cont l => cases l <;> rfl
  | _ => rfl
theorem cut_made (n : Nat) (r : Res) : (cut n r).2 = r.2 := by
  obtain ⟨o, m⟩ := r
  cases o <;> rfl
theorem events_cut (n : Nat) (r : Res) : events (cut n r) = events r := by
  unfold events
  rw [outTxt_cut, cut_made]
theorem andThen_nil (r : Res) : andThen r (fun f m => (.next f, m)) = r := by
  obtain ⟨o, m⟩ := r
  cases o <;> rfl
/-- the due events: an end is replaced by the events of the second program for the answers behind -/
def isEnd : Out → Bool
  | .next _ => true
  | _ => false
theorem exB_nil {as : List Bool} {p : Stms} {f : Flg} {m : Made} (h : exB as p [] [] = (.next f, m)) : f = [] := by
  have hf := (exB_fine as p [] []).nm f (by rw [h]; rfl)
  cases f with
  | nil => rfl
  | cons a r => simp [nms] at hf
theorem whole_B {as : List Bool} {p q : Stms} (hq : wfR [] [] 0 false q) {o : Out} {m1 : Made} (h : exB as p [] [] = (o, m1)) :
    run as (twoB p q) = if isEnd o then m1.map evName ++ run (as.drop m1.length) q else events (o, m1) := by
  unfold run exB
  rw [events_cut]
  show events (exR as (twoB p q) [] []) = _
  unfold twoB
  simp only [exR, exS]
  have h' : cut 0 (exR as p [] []) = (o, m1) := h
  simp only [List.length_nil]
  rw [h']
  cases o with
  | next f =>
    have e := exB_nil h
    subst e
    show events (andThen (cut 0 (exR as q [] m1)) (fun f m => (.next f, m))) = _
    rw [andThen_nil]
    simp only [isEnd, if_true]
    have := exR_mv (as := as) (pre := []) (m1 := m1) q [] [] 0 false [] [] rfl hq
    simp only [List.nil_append, List.append_nil] at this
    rw [this]
    rw [events_cut, events_mv, events_cut]
  | jump d f => rfl
  | wait => rfl
  | hang => rfl
theorem whole_T {as : List Bool} {p q : Stms} (hq : wfR [] [] 0 false q) {o : Out} {m1 : Made} (h : exB as p [] [] = (o, m1)) :
    run as (twoT p q) = if isEnd o then m1.map evName ++ run (as.drop m1.length) q else events (o, m1) := by
  rw [← whole_B hq h]
  unfold run exB
  rw [events_cut, events_cut]
  congr 1
  unfold twoB twoT
  simp only [exR, exS, List.length_nil]
  have h' : cut 0 (exR as p [] []) = (o, m1) := h
  rw [h']
  cases o with
  | next f =>
    have e := exB_nil h
    subst e
    rfl
  | jump d f =>
    have hf := (exB_fine as p [] []).nm f (by rw [h]; rfl)
    have e : f = [] := by
      cases f with
      | nil => rfl
      | cons a r => simp [nms] at hf
    subst e
    rfl
  | wait => rfl
  | hang => rfl
theorem whole_I {as : List Bool} {on x : Nm} {p q : Stms} (hq : wfR [] [] 0 false q) {o : Out} {m1 : Made} (h : exB as p [] [] = (o, m1)) :
    run as (twoI on x p q) = if isEnd o then m1.map evName ++ run (as.drop m1.length) q else events (o, m1) := by
  unfold run exB
  rw [events_cut]
  unfold twoI
  simp only [exR, exS]
  have h' : cut 0 (exR as p [] []) = (o, m1) := h
  simp only [List.length_nil]
  rw [h']
  cases o with
  | next f =>
    have e := exB_nil h
    subst e
    have e1 : lookF ([] ++ [(on, true)]) on = some true := by
      show (if on = on then some true else none) = some true
      rw [if_pos rfl]
    simp only [isEnd, if_true]
    show events (andThen (match evC as ([] ++ [(on, true)]) (.flag on) m1 with
      | (none, m) => (.wait, m)
      | (some true, m) => cut 1 (exR as q [(on, true)] m)
      | (some false, m) => cut 1 (exR as (.cons (.call x) .nil) [(on, true)] m)) (fun f m => (.next f, m))) = _
    rw [andThen_nil]
    simp only [evC, e1, Option.getD]
    have := exR_mv (as := as) (pre := [(on, true)]) (m1 := m1) q [] [] 0 false [] [] rfl hq
    simp only [List.append_nil] at this
    rw [this, events_cut, events_mv, events_cut]
  | jump d f => rfl
  | wait => rfl
  | hang => rfl
end Fl
namespace Fl
open PySem
def jOk (j : Jmp) : Prop := (∀ n, j = .ret (some n) → 0 ≤ n ∧ n < 100) ∧ ∀ l, (j = .brk (some l) ∨ j = .cont (some l)) → nmOk l
def oOk (o : Out) : Prop := ∀ j f, o = .jump j f → jOk j
theorem oOk_cut {n : Nat} : ∀ {r : Res}, oOk r.1 → oOk (cut n r).1
  | (.next f, m), _ => fun j f e => by cases e
  | (.jump d f, m), h => fun j f' e => by cases e; exact h d f rfl
  | (.wait, m), _ => fun j f e => by cases e
  | (.hang, m), _ => fun j f e => by cases e
theorem oOk_loop {g : Flg → Made → RO × Made} (hg : ∀ f m o, (g f m).1 = .exit o → oOk o) : ∀ (n : Nat) (st : List Flg) (f : Flg) (m : Made), oOk (loopL g n st f m).1
  | 0, _, _, _ => fun j f e => by cases e
  | n + 1, st, f, m => by
    unfold loopL
    by_cases c : f ∈ st
    · simp only [c, if_true]
      exact fun j f e => by cases e
    · simp only [c, if_false]
      have h := hg f m
      rcases e : g f m with ⟨f1 | o, m1⟩
      · exact oOk_loop hg n _ f1 m1
      · exact h o (by rw [e])
theorem oOk_rnd {lab : Option Nm} {tst : Flg → Made → Option Bool × Made} {body : Flg → Made → Res} (hb : ∀ f m, oOk (body f m).1) : ∀ f m o, (rndW lab tst body f m).1 = .exit o → oOk o := fun f m o => by
  unfold rndW
  rcases tst f m with ⟨_ | b, m1⟩
  · intro e; cases e; exact fun j f e => by cases e
  · cases b with
    | false => intro e; cases e; exact fun j f e => by cases e
    | true =>
      show (bodyRO lab (body f m1)).1 = _ → _
      have h := hb f m1
      rcases hr : body f m1 with ⟨o1, m2⟩
      rw [hr] at h
      cases o1 with
      | next f2 => intro e; cases e
      | wait => intro e; cases e; exact fun j f e => by cases e
      | hang => intro e; cases e; exact fun j f e => by cases e
      | jump d f2 =>
        have hd := h d f2 rfl
        show jumpRO lab d f2 = _ → _
        cases d with
        | ret n => intro e; cases e; exact fun j f e => by cases e; exact hd
        | brk l =>
          unfold jumpRO
          by_cases c : l = none ∨ l = lab
          · simp only [c, if_true]; intro e; cases e; exact fun j f e => by cases e
          · simp only [c, if_false]; intro e; cases e; exact fun j f e => by cases e; exact hd
        | cont l =>
          unfold jumpRO
          by_cases c : l = none ∨ l = lab
          · simp only [c, if_true]; intro e; cases e
          · simp only [c, if_false]; intro e; cases e; exact fun j f e => by cases e; exact hd
theorem oOk_then {r : Res} {k : Flg → Made → Res} (h : oOk r.1) (hk : ∀ f m, oOk (k f m).1) : oOk (andThen r k).1 := by
  rcases r with ⟨o, m⟩
  cases o with
  | next f => exact hk f m
  | jump d f => exact h
  | wait => exact h
  | hang => exact h
theorem oOk_after {o : Out} {r : Res} (h : oOk o) (hr : oOk r.1) : oOk (after o r).1 := by
  rcases r with ⟨q, m⟩
  cases q with
  | next f =>
    cases o with
    | jump d f' => exact fun j f2 e => by cases e; exact h d f' rfl
    | next f' => exact fun j f e => by cases e
    | wait => exact fun j f e => by cases e
    | hang => exact fun j f e => by cases e
  | jump d f => exact hr
  | wait => exact hr
  | hang => exact hr
theorem oOk_try {r : Res} {k : Flg → Made → Res} (h : oOk r.1) (hk : ∀ f m, oOk (k f m).1) : oOk (tryThen r k).1 := by
  rcases r with ⟨o, m⟩
  cases o with
  | next f => exact oOk_after h (hk f m)
  | jump d f => exact oOk_after h (hk f m)
  | wait => exact h
  | hang => exact h
theorem no_jump {o : Out} (h : ∀ j f, o ≠ .jump j f) : oOk o := fun j f e => absurd e (h j f)
mutual
theorem oOk_S (as : List Bool) : ∀ (s : Stm) (vis own : List Nm) (lp : Nat) (la : Bool), wfS vis own lp la s → ∀ f m, oOk (exS as s f m).1
  | .call n, _, _, _, _, _, f, m => by
    simp only [exS]
    cases as[m.length]? <;> exact fun j f e => by cases e
  | .letf x b, _, _, _, _, _, f, m => by simp only [exS]; exact fun j f e => by cases e
  | .setf x b, _, _, _, _, _, f, m => by simp only [exS]; exact fun j f e => by cases e
  | .ite c a b, vis, own, lp, la, ⟨_, _, h1, h2⟩, f, m => by
    simp only [exS]
    rcases evC as f c m with ⟨_ | k, m1⟩
    · exact fun j f e => by cases e
    · cases k with
      | true => exact oOk_cut (oOk_R as a _ _ _ _ h1 f m1)
      | false => exact oOk_cut (oOk_R as b _ _ _ _ h2 f m1)
  | .whl l c a, vis, own, lp, la, ⟨_, _, _, h⟩, f, m => by
    simp only [exS]
    exact oOk_loop (oOk_rnd fun f m => oOk_cut (oOk_R as a _ _ _ _ h f m)) _ _ _ _
  | .forl l a, vis, own, lp, la, ⟨_, h⟩, f, m => by
    simp only [exS]
    exact oOk_loop (oOk_rnd fun f m => oOk_cut (oOk_R as a _ _ _ _ h f m)) _ _ _ _
  | .brk l, _, _, _, _, ⟨h, _⟩, f, m => by
    simp only [exS]
    exact fun j f e => by
      cases e
      exact ⟨fun n e => (by cases e), fun l' e => by
        rcases e with e | e
        · cases e; exact h _ rfl
        · cases e⟩
  | .cont l, _, _, _, _, ⟨h, _⟩, f, m => by
    simp only [exS]
    exact fun j f e => by
      cases e
      exact ⟨fun n e => (by cases e), fun l' e => by
        rcases e with e | e
        · cases e
        · cases e; exact h _ rfl⟩
  | .ret n, _, _, _, _, h, f, m => by
    simp only [exS]
    exact fun j f e => by
      cases e
      exact ⟨fun k e => by cases e; exact h _ rfl, fun l' e => by rcases e with e | e <;> cases e⟩
  | .tryf a b, _, _, _, _, ⟨_, h1, h2⟩, f, m => by
    simp only [exS]
    exact oOk_try (oOk_cut (oOk_R as a _ _ _ _ h1 f m)) fun f m => oOk_cut (oOk_R as b _ _ _ _ h2 f m)
  | .block a, _, _, _, _, h, f, m => by
    simp only [exS]
    exact oOk_cut (oOk_R as a _ _ _ _ h f m)
theorem oOk_R (as : List Bool) : ∀ (ss : Stms) (vis own : List Nm) (lp : Nat) (la : Bool), wfR vis own lp la ss → ∀ f m, oOk (exR as ss f m).1
  | .nil, _, _, _, _, _, f, m => by simp only [exR]; exact fun j f e => by cases e
  | .cons s r, vis, own, lp, la, h, f, m => by
    obtain ⟨h1, h2⟩ := wfR_cons.mp h
    simp only [exR]
    exact oOk_then (oOk_S as s _ _ _ _ h1 f m) fun f m => oOk_R as r _ _ _ _ h2 f m
end
theorem oOk_B {as : List Bool} {p : Stms} {vis own : List Nm} {lp : Nat} {la : Bool} (h : wfR vis own lp la p) (f : Flg) (m : Made) : oOk (exB as p f m).1 := oOk_cut (oOk_R as p _ _ _ _ h f m)
end Fl
namespace Fl
open PySem
def MO (m : Made) : Prop := ∀ n ∈ m, nmOk n
theorem MO.snoc {m : Made} {n : Nm} (h : MO m) (hn : nmOk n) : MO (m ++ [n]) := fun x hx => by
  rcases List.mem_append.mp hx with z | z
  · exact h x z
  · rw [List.mem_singleton.mp z]; exact hn
mutual
theorem mo_C (as : List Bool) (fl : Flg) : ∀ (c : Cond) (vis : List Nm) (m : Made), wfC vis c → MO m → MO (evC as fl c m).2
  | .call n, vis, m, h, hm => by simp only [evC]; exact hm.snoc h
  | .flag n, vis, m, h, hm => by simp only [evC]; exact hm
  | .not c, vis, m, h, hm => by
    have ih := mo_C as fl c vis m h hm
    simp only [evC]
    rcases e : evC as fl c m with ⟨_ | b, m1⟩ <;> (rw [e] at ih; exact ih)
  | .and cs, vis, m, h, hm => by simp only [evC]; exact mo_Cs as fl false cs vis m h hm
  | .or cs, vis, m, h, hm => by simp only [evC]; exact mo_Cs as fl true cs vis m h hm
theorem mo_Cs (as : List Bool) (fl : Flg) (o : Bool) : ∀ (cs : Conds) (vis : List Nm) (m : Made), wfCs vis cs → MO m → MO (evCs as fl o cs m).2
  | .nil, vis, m, h, hm => by simp only [evCs]; exact hm
  | .cons c r, vis, m, h, hm => by
    have ih := mo_C as fl c vis m h.1 hm
    simp only [evCs]
    rcases e : evC as fl c m with ⟨_ | b, m1⟩
    · rw [e] at ih; exact ih
    · rw [e] at ih
      by_cases hb : b = o
      · simp only [hb, if_true]; exact ih
      · simp only [hb, if_false]; exact mo_Cs as fl o r vis m1 h.2 ih
end
theorem mo_loop {g : Flg → Made → RO × Made} (hg : ∀ f m, MO m → MO (g f m).2) : ∀ (n : Nat) (st : List Flg) (f : Flg) (m : Made), MO m → MO (loopL g n st f m).2
  | 0, _, _, m, hm => hm
  | n + 1, st, f, m, hm => by
    unfold loopL
    by_cases c : f ∈ st
    · simp only [c, if_true]; exact hm
    · simp only [c, if_false]
      have h := hg f m hm
      rcases e : g f m with ⟨f1 | o, m1⟩
      · rw [e] at h; exact mo_loop hg n _ f1 m1 h
      · rw [e] at h; exact h
theorem mo_bodyRO {lab : Option Nm} {r : Res} (h : MO r.2) : MO (bodyRO lab r).2 := by
  rcases r with ⟨o, m⟩
  cases o <;> exact h
theorem mo_rnd {lab : Option Nm} {tst : Flg → Made → Option Bool × Made} {body : Flg → Made → Res} (ht : ∀ f m, MO m → MO (tst f m).2) (hb : ∀ f m, MO m → MO (body f m).2) : ∀ f m, MO m → MO (rndW lab tst body f m).2 := fun f m hm => by
  have h := ht f m hm
  unfold rndW
  rcases e : tst f m with ⟨_ | b, m1⟩
  · rw [e] at h; exact h
  · rw [e] at h
    cases b with
    | false => exact h
    | true => exact mo_bodyRO (hb f m1 h)
theorem mo_cut {n : Nat} {r : Res} (h : MO r.2) : MO (cut n r).2 := by
  rcases r with ⟨o, m⟩
  cases o <;> exact h
theorem mo_then {r : Res} {k : Flg → Made → Res} (h : MO r.2) (hk : ∀ f m, MO m → MO (k f m).2) : MO (andThen r k).2 := by
  rcases r with ⟨o, m⟩
  cases o with
  | next f => exact hk f m h
  | jump d f => exact h
  | wait => exact h
  | hang => exact h
theorem mo_after {o : Out} {r : Res} (h : MO r.2) : MO (after o r).2 := by
  rcases r with ⟨q, m⟩
  cases q with
  | next f => cases o <;> exact h
  | jump d f => exact h
  | wait => exact h
  | hang => exact h
theorem mo_try {r : Res} {k : Flg → Made → Res} (h : MO r.2) (hk : ∀ f m, MO m → MO (k f m).2) : MO (tryThen r k).2 := by
  rcases r with ⟨o, m⟩
  cases o with
  | next f => exact mo_after (hk f m h)
  | jump d f => exact mo_after (hk f m h)
  | wait => exact h
  | hang => exact h
mutual
theorem mo_S (as : List Bool) : ∀ (s : Stm) (vis own : List Nm) (lp : Nat) (la : Bool), wfS vis own lp la s → ∀ f m, MO m → MO (exS as s f m).2
  | .call n, _, _, _, _, h, f, m, hm => by
    simp only [exS]
    cases as[m.length]? <;> exact hm.snoc h
  | .letf x b, _, _, _, _, _, f, m, hm => by simp only [exS]; exact hm
  | .setf x b, _, _, _, _, _, f, m, hm => by simp only [exS]; exact hm
  | .ite c a b, vis, own, lp, la, ⟨hc, _, h1, h2⟩, f, m, hm => by
    have h := mo_C as f c vis m hc hm
    simp only [exS]
    rcases e : evC as f c m with ⟨_ | k, m1⟩
    · rw [e] at h; exact h
    · rw [e] at h
      cases k with
      | true => exact mo_cut (mo_R as a _ _ _ _ h1 f m1 h)
      | false => exact mo_cut (mo_R as b _ _ _ _ h2 f m1 h)
  | .whl l c a, vis, own, lp, la, ⟨_, hc, _, h⟩, f, m, hm => by
    simp only [exS]
    exact mo_loop (mo_rnd (fun f m hm => mo_C as f c vis m hc hm) fun f m hm => mo_cut (mo_R as a _ _ _ _ h f m hm)) _ _ _ _ hm
  | .forl l a, vis, own, lp, la, ⟨_, h⟩, f, m, hm => by
    simp only [exS]
    exact mo_loop (mo_rnd (fun f m hm => hm) fun f m hm => mo_cut (mo_R as a _ _ _ _ h f m hm)) _ _ _ _ hm
  | .brk l, _, _, _, _, _, f, m, hm => by simp only [exS]; exact hm
  | .cont l, _, _, _, _, _, f, m, hm => by simp only [exS]; exact hm
  | .ret n, _, _, _, _, _, f, m, hm => by simp only [exS]; exact hm
  | .tryf a b, _, _, _, _, ⟨_, h1, h2⟩, f, m, hm => by
    simp only [exS]
    exact mo_try (mo_cut (mo_R as a _ _ _ _ h1 f m hm)) fun f m hm => mo_cut (mo_R as b _ _ _ _ h2 f m hm)
  | .block a, _, _, _, _, h, f, m, hm => by
    simp only [exS]
    exact mo_cut (mo_R as a _ _ _ _ h f m hm)
theorem mo_R (as : List Bool) : ∀ (ss : Stms) (vis own : List Nm) (lp : Nat) (la : Bool), wfR vis own lp la ss → ∀ f m, MO m → MO (exR as ss f m).2
  | .nil, _, _, _, _, _, f, m, hm => by simp only [exR]; exact hm
  | .cons s r, vis, own, lp, la, h, f, m, hm => by
    obtain ⟨h1, h2⟩ := wfR_cons.mp h
    simp only [exR]
    exact mo_then (mo_S as s _ _ _ _ h1 f m hm) fun f m hm => mo_R as r _ _ _ _ h2 f m hm
end
theorem mo_B {as : List Bool} {p : Stms} {vis own : List Nm} {lp : Nat} {la : Bool} (h : wfR vis own lp la p) (f : Flg) (m : Made) (hm : MO m) : MO (exB as p f m).2 := mo_cut (mo_R as p _ _ _ _ h f m hm)
theorem mo_nil : MO [] := fun n h => absurd h List.not_mem_nil
end Fl
namespace K23
open PySem PySem.Spec PyProof.Rows L2
/-- repr(x) of data at an address, where no repr is under way -/
def rRepr (K : PySem.W.Frag) : List V → Hp → VK → Prop := fun xs H Q => ∃ a d, xs = [.ref a] ∧ Dp K H (.ref a) d ∧ d.showable = true ∧ d.hasDict = false ∧ d.depth ≤ 60 ∧ d.shown.length ≤ sizeLine ∧ Q (.str d.shown) H
theorem call_repr {X : Cx} (hg : X.A.guards = some []) (hu : X.A.units + 64 < cLine) : CallR X (.builtin "repr") (rRepr X.K) := by
  intro pins s σ H xs us Q I r h
  obtain ⟨a, d, rfl, hd, hs, hn, hl, hz, q⟩ := h
  obtain ⟨u, rfl, ru⟩ := vals1 r
  cases ru
  obtain ⟨as, rd⟩ := Dp.reads I d (.ref a) (.ref a) hd rfl
  refine repr_of_reads' rd hs (PyData.noDict_hsm hn) hg (by omega) (fun _ _ e => e) (fun h' u tk hk => ?_) hz
  exact ⟨.str d.shown, H, I.kept (t' := tk) hk, ⟨u, rfl⟩, q⟩
/-- a def's promise, of calls around which no repr is under way -/
structure FnG (P : Program) (w : World) (K : PySem.W.Frag) (mg : Str → Option Value) (base : Heap) (k : Nat) (f : Addr) (fd : FuncData) (ps : List Str) (sp : Sp) : Prop where
  ln : ∀ vs H Q E, sp vs H Q E → vs.length = ps.length
  go : ∀ (A : Around) (outer : List Env) (s : Shared) (H : Hp) (args : Args) (us : List Value) (vs : List V) (Q : VK) (E : XK), A.guards = some [] → Room k A → Env0 P w K mg base A outer s H → BindsTo s fd args (ps.zip us) → Vals vs us → sp vs H Q E →
    codeAny (model P w) A (.call (.ref f) args) (CR CX0 outer P w H s Q E) s
theorem FnG.mono {P : Program} {w : World} {K : PySem.W.Frag} {mg : Str → Option Value} {base : Heap} {j k : Nat} {f : Addr} {fd : FuncData} {ps : List Str} {sp : Sp} (F : FnG P w K mg base j f fd ps sp) (h : j ≤ k) : FnG P w K mg base k f fd ps sp :=
  ⟨F.ln, fun A outer s H args us vs Q E g r => F.go A outer s H args us vs Q E g (r.mono h)⟩
section
variable {P : Program} {w : World} {K : PySem.W.Frag} {mg : Str → Option Value} {base : Heap}
/-- a def by its body: within it no repr is under way either -/
theorem okG {x qual : Str} {st : Stmt} {f : Addr} {fd : FuncData} {N ps : List Str} {k : Nat} {sp : Sp} (F : Fun K x qual st f fd) (S : FnScope N ps (defScope st)) (len : ∀ vs H Q E, sp vs H Q E → vs.length = ps.length)
    (body : ∀ (cdv : Value) (A : Around) (outer : List Env) (s : Shared) (H : Hp) (vs : List V) (Q : VK) (E : XK), (A.deeper (envOfC qual (defScope st) s.heap.objs.size f cdv)).guards = some [] → Room k (A.deeper (envOfC qual (defScope st) s.heap.objs.size f cdv)) → sp vs H Q E →
      ∃ t, PSs (cxOf CX0 P w K mg base N qual (defScope st) f cdv A outer s H E).nox (defBody st) t ∧ t { nx := fun _ H' => Q .non H', rt := Q } (start N vs) H) : FnG P w K mg base (k + 1) f fd ps sp := by
  obtain ⟨oc, od, kV, doc, pm, an, cdv, ct, osl, rfl, lk, hcd⟩ := F.ex
  refine ⟨len, fun A outer s H args us vs Q E hg hr e0 hb rv hsp => ?_⟩
  have inHeap : K.In s.heap := e0.mod.kin.keeps fun b o e => (e0.bs b o e).1
  have noLim : s.heap.NoLimit := e0.mod.nolimit.keeps fun b o e => (e0.bs b o e).1
  have kinds : ((ps.zip us).all fun y => (defScope st).names.lookup y.1 == some .local || (defScope st).names.lookup y.1 == some .cell) = true := by
    rw [List.all_eq_true]
    rintro ⟨n, v⟩ hy
    rcases S.par n (List.of_mem_zip hy).1 with q | q <;> simp [q]
  refine Att.call_fn inHeap noLim lk hcd hr.depth hb kinds (fun s1 x1 => ?_) S.co S.gen S.kind
  obtain ⟨t, ht, hq⟩ := body cdv A outer s H vs Q E hg (hr.deeper _) hsp
  have I := inv_start (CX := CX0) (E := E) S hr.hd e0 (len _ _ _ _ hsp) rv x1
  refine wpAny_mono (ht.nox.run [] s1 (start N vs) H _ I hq) (fun fl s2 z => ?_) fun e s2 z => z
  cases fl with
  | ret u =>
    obtain ⟨v, σ2, H2, J, ru, q⟩ := z
    exact ⟨v, H2, J.os, J.bare, J.base, J.hok, ru, q⟩
  | next =>
    obtain ⟨σ2, H2, J, q⟩ := z
    exact ⟨.non, H2, J.os, J.bare, J.base, J.hok, rfl, q⟩
  | brk =>
    obtain ⟨_, _, _, q⟩ := z
    exact q.elim
  | cont =>
    obtain ⟨_, _, _, q⟩ := z
    exact q.elim
end
section
variable {X : Cx} {k : Nat} {f : Addr} {fd : FuncData} {ps : List Str} {sp : Sp} {x : Str} {p pos : Pos} {e : Expr} {es : List Expr} {t : TA}
/-- f(e, ..) of such a def -/
theorem pe_callG (F : FnG X.prog X.w X.K X.mg X.base k f fd ps sp) (hgd : X.A.guards = some []) (hr : Room k X.A) (hg : Gl X x) (hm : X.mg x = some (.ref f)) (hk : PySem.W.keepIn X.K (.ref f) = true) (hb : Binds X.K fd ps [])
    (ha : PA X (e :: es) t) (hdb : (x == ("__debug__" : Str)) = false := by decide) (he : starEach (e :: es) X.env = (false, eval e X.env) :: starEach es X.env := by rfl) (hpl : (backTo pos (starEach es X.env)).any (·.1) = false := by rfl) :
    PE X (.Call (.Name x p) (e :: es) [] pos) (tCall sp [] E0 t) := by
  refine ⟨fun pins s σ H Q I h => ?_⟩
  refine wpAny_Call_Name_kw (ld_glob I hg hm ?_ hdb)
  refine PySem.W.callWith_K (h₀ := X.base) I.ok.mod.kin hk (thn (ha.run pos pins s σ H _ I h) fun us s1 ⟨vs, H1, I1, rv, q⟩ => ⟨I1.kIn, ?_⟩) he hpl
  have q1 : sp (vs ++ []) H1 Q E0 := q
  rw [List.append_nil] at q1
  have hl : (us ++ []).length = ps.length := by
    rw [List.append_nil, ← rv.length]
    exact F.ln _ _ _ _ q1
  have bnd := hb s1 us I1.kIn hl
  rw [List.append_nil] at bnd
  refine wpAny_call (codeAny_mono (F.go X.A X.stack s1 H1 ⟨us, []⟩ us vs Q E0 hgd hr I1.env0 bnd rv q1) fun r s2 z => ?_)
  cases r with
  | error e => exact z.elim
  | ok fl =>
    cases fl with
    | ret u => exact I1.after z
    | next => exact z.elim
    | brk => exact z.elim
    | cont => exact z.elim
end
/-- a def that any call may use -/
theorem FnG.of {P : Program} {w : World} {K : PySem.W.Frag} {mg : Str → Option Value} {base : Heap} {k : Nat} {f : Addr} {fd : FuncData} {ps : List Str} {sp : Sp} (F : FnOk P w K mg base CX0 k f fd ps sp) : FnG P w K mg base k f fd ps sp :=
  ⟨F.len, fun A outer s H args us vs Q E _ => F.run A outer s H args us vs Q E⟩
end K23
namespace K23
open PySem PySem.Spec PyProof.Rows L2 Fl
/-- all tuples stay -/
def TK (K : PySem.W.Frag) (H H' : Hp) : Prop := ∀ b xs, SqT K H b xs → SqT K H' b xs
theorem TK.refl {K : PySem.W.Frag} {H : Hp} : TK K H H := fun _ _ q => q
theorem TK.trans {K : PySem.W.Frag} {H H1 H2 : Hp} (a : TK K H H1) (b : TK K H1 H2) : TK K H H2 := fun c xs q => b c xs (a c xs q)
theorem TK.of_same {K : PySem.W.Frag} {H H' : Hp} (h : Same H H') : TK K H H' := fun b xs q => by
  rcases q with (q | ⟨o, q⟩) | q
  · exact .inl (.inl (h _ _ q))
  · exact .inl (.inr ⟨o, h _ _ q⟩)
  · exact .inr q
/-- all but what M names stays -/
def Fr (M : Addr → Prop) (H H' : Hp) : Prop := ∀ b u, H b = some u → ¬ M b → H' b = some u
theorem Fr.refl {M : Addr → Prop} {H : Hp} : Fr M H H := fun _ _ q _ => q
theorem Fr.trans {M : Addr → Prop} {H H1 H2 : Hp} (a : Fr M H H1) (b : Fr M H1 H2) : Fr M H H2 := fun c u q n => b c u (a c u q n) n
theorem Fr.weak {M M' : Addr → Prop} {H H1 : Hp} (a : Fr M H H1) (h : ∀ b u, H b = some u → M b → M' b) : Fr M' H H1 := fun c u q n => a c u q fun z => n (h c u q z)
theorem Fr.of_same {M : Addr → Prop} {H H' : Hp} (h : Same H H') : Fr M H H' := fun b u q _ => h b u q
theorem Fr.same {H H' : Hp} (h : Fr (fun _ => False) H H') : Same H H' := fun b u q => h b u q fun z => z
theorem Fr.upd {M : Addr → Prop} {H H' : Hp} {a : Addr} {o : HO} (h : Fr M H H') (ha : M a ∨ H a = none) : Fr M H (upd H' a o) := fun b u q n => by
  have hb : b ≠ a := fun z => by
    subst z
    rcases ha with ha | ha
    · exact n ha
    · rw [ha] at q; cases q
  rw [upd_ne hb]
  exact h b u q n
theorem Fr.tk {K : PySem.W.Frag} {M : Addr → Prop} {H H' : Hp} (h : Fr M H H') (hm : ∀ b, M b → (∀ xs, H b ≠ some (.tup xs)) ∧ ∀ o u, H b ≠ some (.frz o u)) : TK K H H' := fun b xs q => by
  rcases q with (q | ⟨o, q⟩) | q
  · exact .inl (.inl (h _ _ q fun z => (hm b z).1 xs q))
  · exact .inl (.inr ⟨o, h _ _ q fun z => (hm b z).2 o _ q⟩)
  · exact .inr q
theorem same_new {H : Hp} {p : Addr} (h : H p = none) (o : HO) : Same H (upd H p o) := fun b u q => by rw [upd_ne (ne_of_none q h)]; exact q
theorem TK.new {K : PySem.W.Frag} {H : Hp} {p : Addr} (h : H p = none) (o : HO) : TK K H (upd H p o) := .of_same (same_new h o)
theorem TK.put {K : PySem.W.Frag} {H : Hp} {p : Addr} {u : HO} (o : HO) (h : H p = some u) (h1 : ∀ xs, u ≠ .tup xs) (h2 : ∀ x y, u ≠ .frz x y) : TK K H (upd H p o) :=
  Fr.tk (M := fun b => b = p) (Fr.refl.upd (.inl rfl)) fun b z => by
    subst z
    rw [h]
    exact ⟨fun xs e => h1 xs (Option.some.inj e), fun x y e => h2 x y (Option.some.inj e)⟩
def labV : Option Nm → V
  | none => .non
  | some n => .str n
def numV : Option Int → V
  | none => .non
  | some n => .int n
/-- v is a tuple of xs -/
def Tp (K : PySem.W.Frag) (H : Hp) (v : V) (xs : List V) : Prop := ∃ a, v = .ref a ∧ SqT K H a xs
theorem Tp.mono {K : PySem.W.Frag} {H H' : Hp} {v : V} {xs : List V} (k : TK K H H') (h : Tp K H v xs) : Tp K H' v xs := let ⟨a, e, q⟩ := h; ⟨a, e, k a xs q⟩
theorem Tp.of {K : PySem.W.Frag} {H : Hp} {a : Addr} {xs : List V} (h : H a = some (.tup xs)) : Tp K H (.ref a) xs := ⟨a, rfl, .inl (.inl h)⟩
section
variable (K : PySem.W.Frag) (H : Hp)
mutual
def EncC : Cond → V → Prop
  | .call n, v => Tp K H v [.str "call", .str n]
  | .flag n, v => Tp K H v [.str "flag", .str n]
  | .not c, v => ∃ u, Tp K H v [.str "not", u] ∧ EncC c u
  | .and cs, v => ∃ b us, Tp K H v [.str "and", .ref b] ∧ SqT K H b us ∧ EncCs cs us
  | .or cs, v => ∃ b us, Tp K H v [.str "or", .ref b] ∧ SqT K H b us ∧ EncCs cs us
def EncCs : Conds → List V → Prop
  | .nil, us => us = []
  | .cons c r, us => ∃ u t, us = u :: t ∧ EncC c u ∧ EncCs r t
end
mutual
def EncS : Stm → V → Prop
  | .call n, v => Tp K H v [.str "call", .str n]
  | .letf x b, v => Tp K H v [.str "let", .str x, .bl b]
  | .setf x b, v => Tp K H v [.str "set", .str x, .bl b]
  | .ite c a b, v => ∃ u p q ps qs, Tp K H v [.str "if", u, .ref p, .ref q] ∧ EncC K H c u ∧ SqT K H p ps ∧ EncX a ps ∧ SqT K H q qs ∧ EncX b qs
  | .whl l c a, v => ∃ u p ps, Tp K H v [.str "while", labV l, u, .ref p] ∧ EncC K H c u ∧ SqT K H p ps ∧ EncX a ps
  | .forl l a, v => ∃ p ps, Tp K H v [.str "for", labV l, .ref p] ∧ SqT K H p ps ∧ EncX a ps
  | .brk l, v => Tp K H v [.str "break", labV l]
  | .cont l, v => Tp K H v [.str "continue", labV l]
  | .ret n, v => Tp K H v [.str "return", numV n]
  | .tryf a b, v => ∃ p q ps qs, Tp K H v [.str "try", .ref p, .ref q] ∧ SqT K H p ps ∧ EncX a ps ∧ SqT K H q qs ∧ EncX b qs
  | .block a, v => ∃ p ps, Tp K H v [.str "block", .ref p] ∧ SqT K H p ps ∧ EncX a ps
def EncX : Stms → List V → Prop
  | .nil, us => us = []
  | .cons s r, us => ∃ u t, us = u :: t ∧ EncS s u ∧ EncX r t
end
end
/-- a body: a tuple of its statements -/
def EncR (K : PySem.W.Frag) (H : Hp) (ss : Stms) (v : V) : Prop := ∃ p ps, v = .ref p ∧ SqT K H p ps ∧ EncX K H ss ps
section
variable {K : PySem.W.Frag} {H H' : Hp} (k : TK K H H')
include k
mutual
theorem EncC.mono : ∀ (c : Cond) {v : V}, EncC K H c v → EncC K H' c v
  | .call _, _, h => Tp.mono k h
  | .flag _, _, h => Tp.mono k h
  | .not c, _, ⟨u, h, q⟩ => ⟨u, h.mono k, EncC.mono c q⟩
  | .and cs, _, ⟨b, us, h, h1, h2⟩ => ⟨b, us, h.mono k, k _ _ h1, EncCs.mono cs h2⟩
  | .or cs, _, ⟨b, us, h, h1, h2⟩ => ⟨b, us, h.mono k, k _ _ h1, EncCs.mono cs h2⟩
theorem EncCs.mono : ∀ (cs : Conds) {us : List V}, EncCs K H cs us → EncCs K H' cs us
  | .nil, _, h => h
  | .cons c r, _, ⟨u, t, e, h1, h2⟩ => ⟨u, t, e, EncC.mono c h1, EncCs.mono r h2⟩
end
mutual
theorem EncS.mono : ∀ (s : Stm) {v : V}, EncS K H s v → EncS K H' s v
  | .call _, _, h => Tp.mono k h
  | .letf _ _, _, h => Tp.mono k h
  | .setf _ _, _, h => Tp.mono k h
  | .ite c a b, _, ⟨u, p, q, ps, qs, h, h1, h2, h3, h4, h5⟩ => ⟨u, p, q, ps, qs, h.mono k, EncC.mono k c h1, k _ _ h2, EncX.mono a h3, k _ _ h4, EncX.mono b h5⟩
  | .whl l c a, _, ⟨u, p, ps, h, h1, h2, h3⟩ => ⟨u, p, ps, h.mono k, EncC.mono k c h1, k _ _ h2, EncX.mono a h3⟩
  | .forl l a, _, ⟨p, ps, h, h2, h3⟩ => ⟨p, ps, h.mono k, k _ _ h2, EncX.mono a h3⟩
  | .brk _, _, h => Tp.mono k h
  | .cont _, _, h => Tp.mono k h
  | .ret _, _, h => Tp.mono k h
  | .tryf a b, _, ⟨p, q, ps, qs, h, h2, h3, h4, h5⟩ => ⟨p, q, ps, qs, h.mono k, k _ _ h2, EncX.mono a h3, k _ _ h4, EncX.mono b h5⟩
  | .block a, _, ⟨p, ps, h, h2, h3⟩ => ⟨p, ps, h.mono k, k _ _ h2, EncX.mono a h3⟩
theorem EncX.mono : ∀ (ss : Stms) {us : List V}, EncX K H ss us → EncX K H' ss us
  | .nil, _, h => h
  | .cons s r, _, ⟨u, t, e, h1, h2⟩ => ⟨u, t, e, EncS.mono s h1, EncX.mono r h2⟩
end
theorem EncR.mono (ss : Stms) {v : V} (h : EncR K H ss v) : EncR K H' ss v := let ⟨p, ps, e, h1, h2⟩ := h; ⟨p, ps, e, k _ _ h1, EncX.mono k ss h2⟩
end
def lenR : Stms → Nat
  | .nil => 0
  | .cons _ r => lenR r + 1
def getR : Stms → Nat → Option Stm
  | .nil, _ => none
  | .cons s _, 0 => some s
  | .cons _ r, i + 1 => getR r i
def dropR : Stms → Nat → Stms
  | ss, 0 => ss
  | .nil, _ + 1 => .nil
  | .cons _ r, i + 1 => dropR r i
theorem EncX.len {K : PySem.W.Frag} {H : Hp} : ∀ {ss : Stms} {us : List V}, EncX K H ss us → us.length = lenR ss
  | .nil, _, h => by rw [show _ = [] from h]; rfl
  | .cons s r, _, ⟨u, t, e, _, h⟩ => by rw [e, List.length_cons, EncX.len h]; rfl
theorem EncX.get {K : PySem.W.Frag} {H : Hp} : ∀ {ss : Stms} {us : List V} {i : Nat} {s : Stm}, EncX K H ss us → getR ss i = some s → ∃ u, us[i]? = some u ∧ EncS K H s u
  | .nil, _, _, _, _, h => by cases h
  | .cons s r, _, 0, s', ⟨u, t, e, h1, _⟩, h => by cases h; exact ⟨u, by rw [e]; rfl, h1⟩
  | .cons s r, _, i + 1, s', ⟨u, t, e, _, h2⟩, h => by
    obtain ⟨v, e1, q⟩ := EncX.get (i := i) h2 h
    exact ⟨v, by rw [e]; exact e1, q⟩
theorem EncX.at {K : PySem.W.Frag} {H : Hp} : ∀ {ss : Stms} {us : List V} {i : Nat} {u : V}, EncX K H ss us → us[i]? = some u → ∃ s, getR ss i = some s ∧ EncS K H s u
  | .nil, us, i, u, h, e => by
    have z : us = [] := h
    subst z
    simp at e
  | .cons s r, _, 0, u, ⟨v, t, e, h1, _⟩, q => by
    subst e
    have z : v = u := Option.some.inj q
    subst z
    exact ⟨s, rfl, h1⟩
  | .cons s r, _, i + 1, u, ⟨v, t, e, _, h2⟩, q => by
    subst e
    exact EncX.at (i := i) h2 q
theorem getR_lt : ∀ {ss : Stms} {i : Nat}, i < lenR ss → ∃ s, getR ss i = some s
  | .nil, _, h => absurd h (Nat.not_lt_zero _)
  | .cons s r, 0, _ => ⟨s, rfl⟩
  | .cons s r, i + 1, h => getR_lt (ss := r) (Nat.lt_of_succ_lt_succ h)
theorem dropR_get : ∀ {ss : Stms} {i : Nat} {s : Stm}, getR ss i = some s → dropR ss i = .cons s (dropR ss (i + 1))
  | .nil, _, _, h => by cases h
  | .cons s r, 0, s', h => by cases h; cases r <;> rfl
  | .cons s r, i + 1, s', h => by
    have q := dropR_get (ss := r) (i := i) h
    show dropR r i = _
    rw [q]
    rfl
theorem dropR_end : ∀ {ss : Stms} {i : Nat}, lenR ss ≤ i → dropR ss i = .nil
  | .nil, 0, _ => rfl
  | .nil, _ + 1, _ => rfl
  | .cons s r, 0, h => absurd h (Nat.not_succ_le_zero _)
  | .cons s r, i + 1, h => dropR_end (ss := r) (Nat.le_of_succ_le_succ h)
/-- the statement's word -/
def kindS : Stm → Str
  | .call _ => "call"
  | .letf _ _ => "let"
  | .setf _ _ => "set"
  | .ite _ _ _ => "if"
  | .whl _ _ _ => "while"
  | .forl _ _ => "for"
  | .brk _ => "break"
  | .cont _ => "continue"
  | .ret _ => "return"
  | .tryf _ _ => "try"
  | .block _ => "block"
theorem EncS.kind {K : PySem.W.Frag} {H : Hp} : ∀ {s : Stm} {v : V}, EncS K H s v → ∃ a r, v = .ref a ∧ SqT K H a (.str (kindS s) :: r)
  | .call _, _, ⟨a, e, q⟩ => ⟨a, _, e, q⟩
  | .letf _ _, _, ⟨a, e, q⟩ => ⟨a, _, e, q⟩
  | .setf _ _, _, ⟨a, e, q⟩ => ⟨a, _, e, q⟩
  | .ite _ _ _, _, ⟨_, _, _, _, _, ⟨a, e, q⟩, _⟩ => ⟨a, _, e, q⟩
  | .whl _ _ _, _, ⟨_, _, _, ⟨a, e, q⟩, _⟩ => ⟨a, _, e, q⟩
  | .forl _ _, _, ⟨_, _, ⟨a, e, q⟩, _⟩ => ⟨a, _, e, q⟩
  | .brk _, _, ⟨a, e, q⟩ => ⟨a, _, e, q⟩
  | .cont _, _, ⟨a, e, q⟩ => ⟨a, _, e, q⟩
  | .ret _, _, ⟨a, e, q⟩ => ⟨a, _, e, q⟩
  | .tryf _ _, _, ⟨_, _, _, _, ⟨a, e, q⟩, _⟩ => ⟨a, _, e, q⟩
  | .block _, _, ⟨_, _, ⟨a, e, q⟩, _⟩ => ⟨a, _, e, q⟩
/-- the bodies of a statement -/
def bodsS : Stm → List Stms
  | .ite _ a b => [a, b]
  | .whl _ _ a => [a]
  | .forl _ a => [a]
  | .tryf a b => [a, b]
  | .block a => [a]
  | _ => []
/-- the bodies' values -/
def EncBs (K : PySem.W.Frag) (H : Hp) : List Stms → List V → Prop
  | [], us => us = []
  | b :: r, us => ∃ u t, us = u :: t ∧ EncR K H b u ∧ EncBs K H r t
theorem EncBs.mono {K : PySem.W.Frag} {H H' : Hp} (k : TK K H H') : ∀ {bs : List Stms} {us : List V}, EncBs K H bs us → EncBs K H' bs us
  | [], _, h => h
  | b :: r, _, ⟨u, t, e, h1, h2⟩ => ⟨u, t, e, EncR.mono k b h1, EncBs.mono k h2⟩
theorem EncBs.len {K : PySem.W.Frag} {H : Hp} : ∀ {bs : List Stms} {us : List V}, EncBs K H bs us → us.length = bs.length
  | [], us, h => by
    have e : us = [] := h
    rw [e]; rfl
  | b :: r, _, ⟨u, t, e, _, h⟩ => by rw [e, List.length_cons, EncBs.len h]; rfl
theorem EncBs.get {K : PySem.W.Frag} {H : Hp} : ∀ {bs : List Stms} {us : List V} {i : Nat} {b : Stms}, EncBs K H bs us → bs[i]? = some b → ∃ u, us[i]? = some u ∧ EncR K H b u
  | [], _, _, _, _, h => by simp at h
  | s :: r, _, 0, s', ⟨u, t, e, h1, _⟩, h => by
    have h' : s = s' := Option.some.inj h
    subst h'
    exact ⟨u, by rw [e]; rfl, h1⟩
  | s :: r, _, i + 1, s', ⟨u, t, e, _, h2⟩, h => by
    obtain ⟨v, e1, q⟩ := EncBs.get (i := i) h2 h
    exact ⟨v, by rw [e]; exact e1, q⟩
theorem EncBs.at {K : PySem.W.Frag} {H : Hp} : ∀ {bs : List Stms} {us : List V} {i : Nat} {u : V}, EncBs K H bs us → us[i]? = some u → ∃ b, bs[i]? = some b ∧ EncR K H b u
  | [], us, i, u, h, e => by
    have z : us = [] := h
    subst z
    simp at e
  | s :: r, _, 0, u, ⟨v, t, e, h1, _⟩, q => by
    subst e
    have z : v = u := Option.some.inj q
    subst z
    exact ⟨s, rfl, h1⟩
  | s :: r, _, i + 1, u, ⟨v, t, e, _, h2⟩, q => by
    subst e
    exact EncBs.at (i := i) h2 q
/-- bodies_of's promise: a new tuple of the bodies -/
def spBods (K : PySem.W.Frag) : Sp := fun vs H Q _ => ∃ (v : V) (s : Stm) (Hq : Hp), vs = [v] ∧ TK K Hq H ∧ EncS K Hq s v ∧
  ∀ (t : Addr) (us : List V) (H' : Hp), Same H H' → H t = none → H' t = some (.tup us) → EncBs K Hq (bodsS s) us → Q (.ref t) H'
end K23
namespace K23
open PySem PySem.Spec PyProof.Rows L2 GenW
abbrev NoEx : Value → Shared → Prop := fun _ _ => False
section
variable {prog : Program} {w : World} {A : Around} {R : GenEnd} {Y : Protocol} {n : Nat} {s₀ s : Shared} {c : Code} {fs : List Frame} {env : Env}
  {K : Flow → Sem PySem.Fin} {J : Value → Sem PySem.Fin} {gd : Bool → Bool} {lv : List Value → List Value} {tg iter : Expr} {body : List Stmt} {pos : Pos}
/-- what stands behind a loop's own code -/
def backOf (env : Env) (K : Flow → Sem PySem.Fin) (J : Value → Sem PySem.Fin) (gd : Bool → Bool) (lv : List Value → List Value) : Result → Sem PySem.Fin :=
  fun r => ((match r with | .ok f => (.pure f : Sem Flow) | .error e => .raise e).onRaise (cameBack env)).wrap K J gd lv
theorem segFor_start (hs : ∀ x, foldedSetIterable iter env x = pure x)
    (h : wpAny (model prog w) (A.over c fs) (eval iter env) (fun v s1 => wpAny (model prog w) (A.over c fs) (pyIter v) (fun itv s2 =>
      ∀ p, Seg (model prog w) A R Y n s₀ (.forLoop tg itv body [] env) ((model prog w).den (.forLoop tg itv body [] env)) (.ret (backOf env K J gd lv) none (gd false) (lv []) c p [] :: fs) s2) NoEx s1) NoEx s) :
    Seg (model prog w) A R Y n s₀ c ((exec (.For tg iter body [] pos) env).wrap K J gd lv) fs s := by
  rw [exec_For]
  refine seg_bind_wrap (wpAny_standAt ?_)
  refine seg_bind_wrap (wpAny_mono h (fun v s1 h1 => ?_) fun _ _ z => z.elim)
  rw [hs v]
  refine seg_bind_wrap (wpAny_pure ?_)
  refine seg_bind_wrap (wpAny_standAt ?_)
  refine seg_bind_wrap (wpAny_holding (wpAny_mono h1 (fun itv s2 h2 => ?_) fun _ _ z => z.elim))
  exact seg_call h2
/-- the turn's end -/
def turnK (tg : Expr) (it : Value) (body : List Stmt) (env : Env) : Flow → Sem PySem.Fin := fun f => match f with
  | .next | .cont => .pure (.again (.forLoop tg it body [] env))
  | .brk => .pure (.done .next)
  | .ret v => .pure (.done (.ret v))
def turnJ (env : Env) : Value → Sem PySem.Fin := fun e => (do noteFrame e env; theTreesLotGoes e : Sem Unit).wrap (fun _ => .raise e) .raise id id
theorem segFor_turn {it : Value}
    (h : wpAny (model prog w) (A.over (.forLoop tg it body [] env) fs) (pyNext it) (fun r s1 => match r with
      | none => Seg (model prog w) A R Y n s₀ (.forLoop tg it body [] env) (.pure (.again (.block [] env))) fs s1
      | some v => wpAny (model prog w) (A.over (.forLoop tg it body [] env) fs) (letOwnedTupleGo tg it v) (fun _ s2 =>
          wpAny (model prog w) (A.over (.forLoop tg it body [] env) fs) (assign tg env v) (fun _ s3 =>
            Seg (model prog w) A R Y n s₀ (.forLoop tg it body [] env) ((execs body env).wrap (turnK tg it body env) (turnJ env) id id) fs s3) NoEx s2) NoEx s1) NoEx s) :
    Seg (model prog w) A R Y n s₀ (.forLoop tg it body [] env) ((model prog w).den (.forLoop tg it body [] env)) fs s := by
  show Seg _ A R Y n s₀ _ ((forTurn tg it body [] env).onRaise (fun x => do noteFrame x env; theTreesLotGoes x)) fs s
  unfold forTurn
  rw [Sem.onRaise_eq_wrap]
  refine seg_bind_wrap (wpAny_standAt ?_)
  refine seg_bind_wrap (wpAny_onRaise (wpAny_mono h (fun r s1 h1 => ?_) fun _ _ z => z.elim))
  cases r with
  | none => exact h1
  | some v =>
    refine seg_bind_wrap (wpAny_mono h1 (fun _ s2 h2 => ?_) fun _ _ z => z.elim)
    refine seg_bind_wrap (wpAny_mono h2 (fun _ s3 h3 => ?_) fun _ _ z => z.elim)
    rw [Sem.bind_eq_wrap', Sem.wrap_wrap]
    rw [Sem.wrap_congr (execs body env) _ _ (K' := turnK tg it body env) (H' := turnJ env) (fun f => by cases f <;> rfl)
      (fun e => by
        show (do noteFrame e env; theTreesLotGoes e : Sem Unit).bind (fun _ => .raise e) = _
        rw [Sem.bind_eq_wrap]; rfl)]
    exact h3
theorem seg_blockNil (h : Seg (model prog w) A R Y n s₀ (.block [] env) (.pure (.done .next)) fs s) : Seg (model prog w) A R Y n s₀ c (.pure (.again (.block [] env))) fs s := by
  refine seg_again rfl ?_
  exact h
end
end K23
namespace K23
open PySem PySem.Spec PyProof.Rows L2 GenW Fl
/-- the heap below L -/
def cutH (L : Nat) (h : Heap) : Heap := ⟨(h.objs.toList.take L).toArray, h.life⟩
theorem cutH_size {L : Nat} {h : Heap} (hL : L ≤ h.objs.size) : (cutH L h).objs.size = L := by
  unfold cutH
  simp [hL]
theorem cutH_lt {L : Nat} {h : Heap} {b : Addr} (hb : b < L) : (cutH L h).get? b = h.get? b := by
  have e : (cutH L h).objs[b]? = h.objs[b]? := by
    unfold cutH
    simp [List.getElem?_take, hb]
  unfold Heap.get?
  rw [e]
theorem cutH_some {L : Nat} {h : Heap} {b : Addr} {o : Obj} (e : (cutH L h).get? b = some o) : b < L ∧ h.get? b = some o := by
  have hb : b < L := by
    have q := Heap.lt_size e
    have z : (cutH L h).objs.size ≤ L := by unfold cutH; simp; omega
    exact Nat.lt_of_lt_of_le q z
  exact ⟨hb, (cutH_lt hb) ▸ e⟩
/-- where a generator's frame stands -/
structure GD where
  P : Program
  w : World
  K : PySem.W.Frag
  mg : Str → Option Value
  base : Heap
  N : List Str
  qual : Str
  sc : Scope
  f : Addr
  cd : Value
  Hg : Hp
  L : Addr
  A : Around
  outer : List Env
abbrev GD.env (G : GD) : Env := envOfC G.qual G.sc G.L G.f G.cd
abbrev GD.A1 (G : GD) : Around := G.A.deeper G.env
/-- the context of a piece that runs from s on -/
def GD.X (G : GD) (H : Hp) (s : Shared) (pz : List (Addr × Obj)) : Cx where
  prog := G.P
  w := G.w
  K := G.K
  mg := G.mg
  base := G.base
  A := G.A1
  N := G.N
  s_0 := { s with heap := cutH G.L s.heap }
  H_0 := H
  env := G.env
  outer := G.outer
  stack := G.env :: G.outer
  ex := []
  calm := true
  fn := fun _ => true
  pn := pz
  xe := fun _ _ => False
/-- a generator's names: all local -/
structure WScope (N : List Str) (sc : Scope) : Prop where
  kind : sc.kind = .function
  co : sc.isCoroutine = false
  nd : N.Nodup
  loc : ∀ x ∈ N, sc.names.lookup x = some .local
  only : ∀ y ∈ sc.names, y.2 ≠ .cell ∧ y.2 ≠ .free
theorem cells_none : ∀ (names : List (Str × NameKind)) (n : Nat) (acc : List (Str × Addr)), (∀ y ∈ names, y.2 ≠ .cell) → cellsFrom n names acc = acc
  | [], _, _, _ => rfl
  | (x, k) :: r, n, acc, h => by
    have hk : ¬ (k == NameKind.cell) = true := fun z => h (x, k) List.mem_cons_self (by simpa using z)
    unfold cellsFrom
    rw [if_neg hk]
    exact cells_none r n acc fun y hy => h y (List.mem_cons_of_mem _ hy)
/-- what does not change -/
structure Stat (G : GD) : Prop where
  sc : WScope G.N G.sc
  mod : Mod G.K G.mg G.base
  hd : G.A.handled = none
  fr : G.A.frames = some G.outer
  bsz : G.base.objs.size ≤ G.L
  hgB : ∀ b o, G.base.get? b = some o → G.Hg b = none
  hgO : ∀ b ∈ frs G.outer, G.Hg b = none ∧ b < G.L
  hgL : ∀ b, G.L ≤ b → G.Hg b = none
theorem Stat.cells {G : GD} (S : Stat G) : G.env.cells = [] := cells_none _ _ _ fun y hy => (S.sc.only y hy).1
/-- from s to s' all below L is kept (the frames up to slots), and Zk -/
structure Kp (L : Addr) (fr : List Addr) (Zk : List Addr) (s s' : Shared) : Prop where
  os : s'.os = s.os
  keep : ∀ b o, (b < L ∨ b ∈ Zk) → b ∉ fr → s.heap.get? b = some o → s'.heap.get? b = some o
  slot : ∀ b o, b ∈ fr → s.heap.get? b = some o → ∃ sl, s'.heap.get? b = some { o with slots := sl }
theorem Kp.refl {L : Addr} {fr Zk : List Addr} {s : Shared} : Kp L fr Zk s s := ⟨rfl, fun _ _ _ _ e => e, fun _ o _ e => ⟨o.slots, e⟩⟩
theorem Kp.trans {L : Addr} {fr Zk : List Addr} {s s1 s2 : Shared} (a : Kp L fr Zk s s1) (b : Kp L fr Zk s1 s2) : Kp L fr Zk s s2 :=
  ⟨b.os.trans a.os, fun c o h n e => b.keep c o h n (a.keep c o h n e), fun c o n e => by
    obtain ⟨sl, e1⟩ := a.slot c o n e
    obtain ⟨sl2, e2⟩ := b.slot c _ n e1
    exact ⟨sl2, e2⟩⟩
/-- a kind of object that stays such -/
def SameKind (o o' : Obj) : Prop := ((∀ vs, o.data ≠ .fields vs) → ∀ vs, o'.data ≠ .fields vs) ∧ ((∀ v, o.data ≠ .cell v) → ∀ v, o'.data ≠ .cell v)
theorem SameKind.refl {o : Obj} : SameKind o o := ⟨fun h => h, fun h => h⟩
theorem SameKind.trans {o o1 o2 : Obj} (a : SameKind o o1) (b : SameKind o1 o2) : SameKind o o2 := ⟨fun h => b.1 (a.1 h), fun h => b.2 (a.2 h)⟩
theorem SameKind.of {o o' : Obj} (h : o'.data = o.data) : SameKind o o' := ⟨fun z vs => by rw [h]; exact z vs, fun z v => by rw [h]; exact z v⟩
/-- what a consumer does while the generator g sleeps: all outside Z is kept -/
structure CMv (Z : Addr → Prop) (g : Nat) (s s' : Shared) : Prop where
  os : s'.os = s.os
  bare : AllBare s'.gens
  gens : ∀ i x, g < i → s.gens[i]? = some x → s'.gens[i]? = some x
  size : s.gens.size ≤ s'.gens.size
  keep : ∀ b o, ¬ Z b → s.heap.get? b = some o → s'.heap.get? b = some o
  there : ∀ b o, s.heap.get? b = some o → ∃ o', s'.heap.get? b = some o' ∧ SameKind o o'
theorem CMv.refl {Z : Addr → Prop} {g : Nat} {s : Shared} (h : AllBare s.gens) : CMv Z g s s := ⟨rfl, h, fun _ _ _ e => e, Nat.le_refl _, fun _ _ _ e => e, fun _ o e => ⟨o, e, .refl⟩⟩
theorem CMv.trans {Z : Addr → Prop} {g : Nat} {s s1 s2 : Shared} (a : CMv Z g s s1) (b : CMv Z g s1 s2) : CMv Z g s s2 :=
  ⟨b.os.trans a.os, b.bare, fun i x h e => b.gens i x h (a.gens i x h e), Nat.le_trans a.size b.size, fun c o n e => b.keep c o n (a.keep c o n e), fun c o e => by
    obtain ⟨o1, e1, k1⟩ := a.there c o e
    obtain ⟨o2, e2, k2⟩ := b.there c o1 e1
    exact ⟨o2, e2, k1.trans k2⟩⟩
theorem CMv.mono {Z Z' : Addr → Prop} {g g' : Nat} {s s1 : Shared} (a : CMv Z g s s1) (hz : ∀ b, Z b → Z' b) (hg : g ≤ g') : CMv Z' g' s s1 :=
  ⟨a.os, a.bare, fun i x h e => a.gens i x (Nat.lt_of_le_of_lt hg h) e, a.size, fun c o n e => a.keep c o (fun z => n (hz c z)) e, a.there⟩
theorem funs_there {h h' base : Heap} : ∀ {l : List Env}, (∀ b o, b ∈ frs l → h.get? b = some o → ∃ o', h'.get? b = some o' ∧ SameKind o o') → h.FunFrames base l → h'.FunFrames base l
  | [], _, _ => trivial
  | env :: r, k, ⟨hk, ⟨L, o, hf, hn, ho, hd⟩, hr⟩ => by
    have hm : frs (env :: r) = L :: frs r := by
      unfold frs
      rw [List.filterMap_cons, hf]
    obtain ⟨o', ho', kk⟩ := k L o (by rw [hm]; exact List.mem_cons_self) ho
    exact ⟨hk, ⟨L, o', hf, hn, ho', kk.1 hd⟩, funs_there (fun b u hb e => k b u (by rw [hm]; exact List.mem_cons_of_mem _ hb) e) hr⟩
/-- the state of a generator's frame -/
structure WS (G : GD) (Z : Addr → Prop) (Zk : List Addr) (g : Nat) (pins : List (Addr × Obj)) (σ : L2.St) (H : Hp) (s₀ s : Shared) : Prop where
  bare : AllBare s.gens
  loc : ∃ m, s.heap.Ns G.L m ∧ ∀ (i : Nat) (x : Str) (v : V), G.N[i]? = some x → σ[i]? = some (some v) → ∃ u, RelV v u ∧ m x = some u
  hok : HOk G.P G.w H s.heap
  frz : ∀ b u, H b = some u → ∃ o xs, u = .frz o (.tup xs)
  hb : ∀ b o, G.base.get? b = some o → H b = none
  ho : ∀ b ∈ frs G.outer, H b = none
  zs : ∀ b, Z b → ∃ o, s.heap.get? b = some o
  hL : H G.L = none
  bs : ∀ b o, G.base.get? b = some o → s.heap.get? b = some o
  funs : s.heap.FunFrames G.base G.outer
  pin : ∀ p ∈ pins, s.heap.get? p.1 = some p.2 ∧ H p.1 = none ∧ G.L < p.1 ∧ ¬ Z p.1 ∧ ∀ v, p.2.data ≠ .cell v
  zn : ∀ b, Z b → H b = none ∧ b ≠ G.L ∧ G.base.get? b = none ∧ (b < G.L ∨ b ∈ Zk)
  zk : ∀ b ∈ Zk, Z b ∧ G.L < b ∧ ∃ o, s.heap.get? b = some o ∧ ∀ v, o.data ≠ .cell v
  gl : g < s.gens.size
  len : σ.length = G.N.length
  kp : Kp G.L (frs G.outer) Zk s₀ s
section
variable {G : GD} {Z : Addr → Prop} {Zk : List Addr} {g : Nat} {pins : List (Addr × Obj)} {σ σ' : L2.St} {H H' : Hp} {s₀ s s' : Shared}
theorem WS.lt (W : WS G Z Zk g pins σ H s₀ s) : G.L < s.heap.objs.size := let ⟨_, hn, _⟩ := W.loc; hn.lt
theorem WS.inv (S : Stat G) (W : WS G Z Zk g pins σ H s₀ s) : Inv (G.X H s (pinsAt Zk s.heap)) pins σ H s := by
  have hc : ∀ x c, (G.X H s (pinsAt Zk s.heap)).env.cells.lookup x = some c → False := fun x c e => by
    have e' : G.env.cells.lookup x = some c := e
    rw [S.cells] at e'
    cases e'
  have hsz : (cutH G.L s.heap).objs.size = G.L := cutH_size (Nat.le_of_lt W.lt)
  have hfr : ∀ b ∈ frs G.outer, H b = none := W.ho
  have cutFun : ∀ l : List Env, (∀ b ∈ frs l, b < G.L) → s.heap.FunFrames G.base l → (cutH G.L s.heap).FunFrames G.base l := fun l hl h =>
    funs_there (h := s.heap) (fun b o hb e => ⟨o, by rw [cutH_lt (hl b hb)]; exact e, .refl⟩) h
  refine ⟨⟨S.mod, S.sc.kind, rfl, rfl, Nat.le_of_eq hsz, fun x y c h1 _ => (hc x c h1).elim, fun x hx => ?_, fun x c _ h => (hc x c h).elim, fun _ => S.hd, Around.frames_deeper S.fr, .inr ⟨rfl, rfl⟩, fun b hb => (nomatch hb), fun b o e => ?_, ?_, fun b o _ hb => (nomatch hb),
    fun b hb => (nomatch hb), cutFun _ (fun b hb => (S.hgO b hb).2) W.funs, fun b hb => hfr b hb⟩, rfl, W.bare, ?_, ?_, fun x c h => (hc x c h).elim, W.hL, fun x c h => (hc x c h).elim, fun p hp => ?_, W.hok, W.len⟩
  · have hx' : G.sc.names.lookup x = some .cell ∨ G.sc.names.lookup x = some .free := hx
    rcases hx' with h | h
    · exact absurd rfl (S.sc.only _ (PySem.mem_of_lookup h)).1
    · exact absurd rfl (S.sc.only _ (PySem.mem_of_lookup h)).2
  · have hb : b < G.L := Nat.lt_of_lt_of_le (Heap.lt_size e) S.bsz
    exact ⟨(cutH_lt hb).trans (W.bs b o e), W.hb b o e⟩
  · show G.base.objs.size ≤ (cutH G.L s.heap).objs.size
    rw [hsz]
    exact S.bsz
  · exact ⟨fun b o e _ _ _ => (cutH_some e).2, fun b o e _ _ _ => ⟨o.slots, (cutH_some e).2⟩, fun b o e n _ => n, fun b o e _ => ⟨o, (cutH_some e).2⟩, fun b xs q => q, fun b o u q => q, fun b ps q => ⟨#[], by rw [show H b = some (.tbl ps) from q]; simp⟩⟩
  · obtain ⟨m, hn, hl⟩ := W.loc
    refine ⟨m, hn, fun i x v h1 h2 h3 => ?_⟩
    obtain ⟨u, r, hm⟩ := hl i x v h1 h2
    exact ⟨u, r, .inl ⟨S.sc.loc x (List.mem_of_getElem? h1), hm⟩⟩
  · have notf : ∀ b, G.L < b → b ∉ frs G.outer := fun b hb hm => absurd (S.hgO b hm).2 (Nat.not_lt.mpr (Nat.le_of_lt hb))
    rcases List.mem_append.mp hp with z | z
    · obtain ⟨hb, e⟩ := of_pinsAt z
      obtain ⟨hz, hl, o, ho, hd⟩ := W.zk p.1 hb
      rw [e] at ho; cases ho
      exact ⟨e, (W.zn p.1 hz).1, Nat.ne_of_gt hl, notf _ hl, hd⟩
    · obtain ⟨e, hn, hl, _, hd⟩ := W.pin p z
      exact ⟨e, hn, Nat.ne_of_gt hl, notf _ hl, hd⟩
/-- behind a piece that ran -/
theorem WS.ran (S : Stat G) (W : WS G Z Zk g pins σ H s₀ s) (I : Inv (G.X H s (pinsAt Zk s.heap)) pins σ' H' s') (hg : g < s'.gens.size) : WS G Z Zk g pins σ' H s₀ s' := by
  have hfz : ∀ b o xs, H b = some (.frz o (.tup xs)) → s.heap.get? b = some o ∧ s'.heap.get? b = some o ∧ ObjOk G.P G.w H s'.heap b (.frz o (.tup xs)) := fun b o xs e => by
    have e1 : H' b = some (.frz o (.tup xs)) := I.base.frzs b o _ e
    obtain ⟨q1, q2⟩ : s'.heap.get? b = some o ∧ ObjOk G.P G.w H' s'.heap b (.tup xs) := I.hok b _ e1
    obtain ⟨p1, _⟩ : s.heap.get? b = some o ∧ ObjOk G.P G.w H s.heap b (.tup xs) := W.hok b _ e
    exact ⟨p1, q1, q1, q2⟩
  have keep : ∀ b o, b < G.L → b ∉ frs G.outer → s.heap.get? b = some o → s'.heap.get? b = some o := fun b o hb hf e => by
    cases q : H b with
    | none => exact I.base.keep b o ((cutH_lt hb).trans e) q hf (by simp [GD.X])
    | some u =>
      obtain ⟨o', xs, rfl⟩ := W.frz b u q
      obtain ⟨p1, p2, _⟩ := hfz b o' xs q
      rw [e] at p1; cases p1
      exact p2
  have slot : ∀ b o, b ∈ frs G.outer → s.heap.get? b = some o → ∃ sl, s'.heap.get? b = some { o with slots := sl } := fun b o hb e =>
    I.base.slot b o ((cutH_lt (S.hgO b hb).2).trans e) (W.ho b hb) hb (by simp [GD.X])
  have pz : ∀ b ∈ Zk, ∀ o, s.heap.get? b = some o → s'.heap.get? b = some o := fun b hb o e => (I.pin (b, o) (List.mem_append_left _ (mem_pinsAt hb e))).1
  refine ⟨I.bare, ?_, fun b u q => ?_, W.frz, W.hb, W.ho, fun b hz => ?_, W.hL, fun b o e => ?_, ?_, fun p hp => ?_, W.zn, fun b hb => ?_, hg, I.len, W.kp.trans ⟨I.os, fun b o hb hf e => ?_, slot⟩⟩
  · obtain ⟨m, hn, hl⟩ := I.loc
    refine ⟨m, hn, fun i x v h1 h2 => ?_⟩
    have hx := S.sc.loc x (List.mem_of_getElem? h1)
    obtain ⟨u, r, hk⟩ := hl i x v h1 h2 (.inl hx)
    rcases hk with ⟨_, hm⟩ | ⟨_, c, hc, _⟩
    · exact ⟨u, r, hm⟩
    · have hc' : G.env.cells.lookup x = some c := hc
      rw [S.cells] at hc'
      cases hc'
  · obtain ⟨o', xs, rfl⟩ := W.frz b u q
    exact (hfz b o' xs q).2.2
  · obtain ⟨o, e⟩ := W.zs b hz
    rcases (W.zn b hz).2.2.2 with z | z
    · exact I.base.there b o ((cutH_lt z).trans e) (by simp [GD.X])
    · exact ⟨o, pz b z o e⟩
  · have hb : b < G.L := Nat.lt_of_lt_of_le (Heap.lt_size e) S.bsz
    exact I.bk b o e
  · exact I.funs
  · obtain ⟨_, h2, h3, h4, h5⟩ := W.pin p hp
    exact ⟨(I.pin p (List.mem_append_right _ hp)).1, h2, h3, h4, h5⟩
  · obtain ⟨h1, h2, o, h3, h4⟩ := W.zk b hb
    exact ⟨h1, h2, o, pz b hb o h3, h4⟩
  · rcases hb with hb | hb
    · exact keep b o hb hf e
    · exact pz b hb o e
/-- the heap grew -/
theorem WS.grew (W : WS G Z Zk g pins σ H s₀ s) {h' : Heap} {t : Nat} (k : ∀ b o, s.heap.get? b = some o → h'.get? b = some o) : WS G Z Zk g pins σ H s₀ { s with heap := h', toks := t } where
  bare := W.bare
  loc := let ⟨m, hn, hl⟩ := W.loc; ⟨m, hn.keeps k, hl⟩
  hok := W.hok.kept k
  frz := W.frz
  hb := W.hb
  ho := W.ho
  zs := fun b hz => let ⟨o, e⟩ := W.zs b hz; ⟨o, k b o e⟩
  hL := W.hL
  bs := fun b o e => k b o (W.bs b o e)
  funs := funs_there (fun b o _ e => ⟨o, k b o e, .refl⟩) W.funs
  pin := fun p hp => let ⟨a, b⟩ := W.pin p hp; ⟨k _ _ a, b⟩
  zn := W.zn
  zk := fun b hb => let ⟨h1, h2, o, h3, h4⟩ := W.zk b hb; ⟨h1, h2, o, k _ _ h3, h4⟩
  gl := W.gl
  len := W.len
  kp := W.kp.trans ⟨rfl, fun b o _ _ e => k b o e, fun b o _ e => ⟨o.slots, k b o e⟩⟩
/-- other generators' states -/
theorem WS.gens (W : WS G Z Zk g pins σ H s₀ s) {G' : Array GenState} (hb : AllBare G') (hs : s.gens.size ≤ G'.size) : WS G Z Zk g pins σ H s₀ { s with gens := G' } :=
  ⟨hb, W.loc, W.hok, W.frz, W.hb, W.ho, W.zs, W.hL, W.bs, W.funs, W.pin, W.zn, W.zk, Nat.lt_of_lt_of_le W.gl hs, W.len, W.kp.trans ⟨rfl, fun _ _ _ _ e => e, fun _ o _ e => ⟨o.slots, e⟩⟩⟩
/-- a name is stored -/
theorem WS.store (S : Stat G) (W : WS G Z Zk g pins σ H s₀ s) {i : Nat} {x : Str} {v : V} {u : Value} {M : Model} {A : Around} {E : Value → Shared → Prop} {Q : Unit → Shared → Prop} (hi : G.N[i]? = some x) (r : RelV v u)
    (h : ∀ s', WS G Z Zk g pins (σ.set i (some v)) H s₀ s' → s'.gens = s.gens → s'.os = s.os → (∀ b o, b ≠ G.L → s.heap.get? b = some o → s'.heap.get? b = some o) → (∀ o, s.heap.get? G.L = some o → ∃ o', s'.heap.get? G.L = some o' ∧ SameKind o o') → Q () s') :
    wpAny M A (storeName G.env x u) Q E s := by
  obtain ⟨m, hn, hl⟩ := W.loc
  refine wpAny_storeName_local (env := G.env) (S.sc.loc x (List.mem_of_getElem? hi)) hn (fun h' hn' hs => ?_) (by
    have e : G.env.scope.kind = .function := S.sc.kind
    rw [e]; rfl)
  have k : ∀ b o, b ≠ G.L → s.heap.get? b = some o → h'.get? b = some o := fun b o hb e => (hs.2 b hb).trans e
  have kL : ∀ o, s.heap.get? G.L = some o → ∃ o', h'.get? G.L = some o' ∧ SameKind o o' := fun o e => by
    obtain ⟨o1, es, ep, e1, d1, _⟩ := hn'
    obtain ⟨o2, es2, ep2, e2, d2, _⟩ := hn
    rw [e] at e2; cases e2
    refine ⟨o1, e1, fun _ vs q => ?_, fun _ v q => ?_⟩
    · rw [d1] at q; cases q
    · rw [d1] at q; cases q
  have nL : ∀ b, H b ≠ none → b ≠ G.L := fun b hb z => hb (by rw [z]; exact W.hL)
  refine h { s with heap := h', toks := s.toks + 1 } ⟨W.bare, ⟨_, hn', fun j y v' h1 h2 => ?_⟩, fun b u' q => ?_, W.frz, W.hb, W.ho, fun b hz => let ⟨o, e⟩ := W.zs b hz; ⟨o, k b o (W.zn b hz).2.1 e⟩, W.hL, fun b o e => k b o (Nat.ne_of_lt (Nat.lt_of_lt_of_le (Heap.lt_size e) S.bsz)) (W.bs b o e), ?_, fun p hp => ?_, W.zn, fun b hb => ?_, W.gl, ?_, ?_⟩ rfl rfl k kL
  · by_cases hj : j = i
    · subst hj
      rw [hi] at h1; cases h1
      have hlt : j < σ.length := by rw [W.len]; exact (List.getElem?_eq_some_iff.mp hi).1
      rw [List.getElem?_set_self hlt] at h2
      cases h2
      exact ⟨u, r, if_pos rfl⟩
    · rw [List.getElem?_set_ne (Ne.symm hj)] at h2
      obtain ⟨u', r', hm⟩ := hl j y v' h1 h2
      have hy : y ≠ x := fun z => by
        subst z
        exact hj (nodup_ix S.sc.nd h1 hi)
      exact ⟨u', r', (if_neg hy).trans hm⟩
  · obtain ⟨o', xs, rfl⟩ := W.frz b u' q
    obtain ⟨p1, p2⟩ : s.heap.get? b = some o' ∧ ObjOk G.P G.w H s.heap b (.tup xs) := W.hok b _ q
    have q1 := k b o' (nL b (by rw [q]; simp)) p1
    obtain ⟨z, its, rr, ob, e, c⟩ := p2
    exact ⟨q1, z, its, rr, ob, k b ob (nL b (by rw [q]; simp)) e, c⟩
  · exact funs_there (fun b o hb e => ⟨o, k b o (Nat.ne_of_lt (S.hgO b hb).2) e, .refl⟩) W.funs
  · obtain ⟨h1, h2, h3, h4, h5⟩ := W.pin p hp
    exact ⟨k _ _ (Nat.ne_of_gt h3) h1, h2, h3, h4, h5⟩
  · obtain ⟨h1, h2, o, h3, h4⟩ := W.zk b hb
    exact ⟨h1, h2, o, k b o (Nat.ne_of_gt h2) h3, h4⟩
  · rw [List.length_set]; exact W.len
  · refine W.kp.trans ⟨rfl, fun b o hb _ e => k b o ?_ e, fun b o hb e => ⟨o.slots, k b o (Nat.ne_of_lt (S.hgO b hb).2) e⟩⟩
    rcases hb with hb | hb
    · exact Nat.ne_of_lt hb
    · exact Nat.ne_of_gt (W.zk b hb).2.1
/-- the consumer has moved -/
theorem WS.moved (S : Stat G) (W : WS G Z Zk g pins σ H s₀ s) (c : CMv Z g s s') : WS G Z Zk g pins σ H s' s' := by
  have k := c.keep
  have nz : ∀ b, H b ≠ none → ¬ Z b := fun b hb z => hb (W.zn b z).1
  refine ⟨c.bare, ?_, fun b u q => ?_, W.frz, W.hb, W.ho, fun b hz => let ⟨o, e⟩ := W.zs b hz; let ⟨o', e', _⟩ := c.there b o e; ⟨o', e'⟩, W.hL, fun b o e => ?_, ?_, fun p hp => ?_, W.zn, fun b hb => ?_, Nat.lt_of_lt_of_le W.gl c.size, W.len, .refl⟩
  · obtain ⟨m, ⟨o, es, ep, e, r⟩, hl⟩ := W.loc
    exact ⟨m, ⟨o, es, ep, k _ o (fun z => (W.zn _ z).2.1 rfl) e, r⟩, hl⟩
  · obtain ⟨o', xs, rfl⟩ := W.frz b u q
    obtain ⟨p1, p2⟩ : s.heap.get? b = some o' ∧ ObjOk G.P G.w H s.heap b (.tup xs) := W.hok b _ q
    obtain ⟨z, its, rr, ob, e, d⟩ := p2
    exact ⟨k b o' (nz b (by rw [q]; simp)) p1, z, its, rr, ob, k b ob (nz b (by rw [q]; simp)) e, d⟩
  · refine k b o (fun z => ?_) (W.bs b o e)
    rw [(W.zn b z).2.2.1] at e
    cases e
  · exact funs_there (fun b o _ e => c.there b o e) W.funs
  · obtain ⟨h1, h2, h3, h4, h5⟩ := W.pin p hp
    exact ⟨k _ _ h4 h1, h2, h3, h4, h5⟩
  · obtain ⟨h1, h2, o, h3, h4⟩ := W.zk b hb
    obtain ⟨o', e', kk⟩ := c.there b o h3
    exact ⟨h1, h2, o', e', kk.2 h4⟩
/-- an inner generator has run -/
theorem WS.inner (S : Stat G) (W : WS G Z Zk g pins σ H s₀ s) {Li : Addr} {Zi : List Addr} (k : Kp Li (G.L :: frs G.outer) Zi s s') (hb : AllBare s'.gens) (hs : g < s'.gens.size) (hLi : G.L < Li) (hH : ∀ b, H b ≠ none → b < Li) (hp : ∀ p ∈ pins, p.1 < Li ∨ p.1 ∈ Zi) (hz : ∀ b ∈ Zk, b < Li) : WS G Z Zk g pins σ H s₀ s' := by
  have notf : ∀ b, H b ≠ none → b ∉ (G.L :: frs G.outer) := fun b h z => by
    rcases List.mem_cons.mp z with z | z
    · exact h (by rw [z]; exact W.hL)
    · exact h (W.ho b z)
  have notg : ∀ b, G.L < b → b ∉ (G.L :: frs G.outer) := fun b h z => by
    rcases List.mem_cons.mp z with z | z
    · (rw [z] at h; exact Nat.lt_irrefl _ h)
    · have := (S.hgO b z).2
      exact Nat.lt_irrefl _ (Nat.lt_trans this h)
  refine ⟨hb, ?_, fun b u q => ?_, W.frz, W.hb, W.ho, fun b hzz => ?_, W.hL, fun b o e => ?_, ?_, fun p hpp => ?_, W.zn, fun b hbz => ?_, hs, W.len, W.kp.trans ⟨k.os, fun b o hbz hf e => ?_, fun b o hbz e => k.slot b o (List.mem_cons_of_mem _ hbz) e⟩⟩
  · obtain ⟨m, ⟨o, es, ep, e, r⟩, hl⟩ := W.loc
    obtain ⟨sl, e2⟩ := k.slot _ o List.mem_cons_self e
    exact ⟨m, ⟨_, es, ep, e2, r⟩, hl⟩
  · obtain ⟨o', xs, rfl⟩ := W.frz b u q
    have hn : H b ≠ none := by rw [q]; simp
    obtain ⟨p1, p2⟩ : s.heap.get? b = some o' ∧ ObjOk G.P G.w H s.heap b (.tup xs) := W.hok b _ q
    obtain ⟨z, its, rr, ob, e, d⟩ := p2
    exact ⟨k.keep b o' (.inl (hH b hn)) (notf b hn) p1, z, its, rr, ob, k.keep b ob (.inl (hH b hn)) (notf b hn) e, d⟩
  · obtain ⟨o, e⟩ := W.zs b hzz
    by_cases hf : b ∈ (G.L :: frs G.outer)
    · obtain ⟨sl, e2⟩ := k.slot b o hf e
      exact ⟨_, e2⟩
    · rcases (W.zn b hzz).2.2.2 with z | z
      · exact ⟨o, k.keep b o (.inl (Nat.lt_trans z hLi)) hf e⟩
      · exact ⟨o, k.keep b o (.inl (hz b z)) hf e⟩
  · have hbl : b < G.L := Nat.lt_of_lt_of_le (Heap.lt_size e) S.bsz
    refine k.keep b o (.inl (Nat.lt_trans hbl hLi)) (fun z => ?_) (W.bs b o e)
    rcases List.mem_cons.mp z with z | z
    · (rw [z] at hbl; exact Nat.lt_irrefl _ hbl)
    · have := (W.funs.mem z).1
      rw [e] at this
      cases this
  · exact funs_there (fun b o hbf e => by
      obtain ⟨sl, e2⟩ := k.slot b o (List.mem_cons_of_mem _ hbf) e
      exact ⟨_, e2, .of rfl⟩) W.funs
  · obtain ⟨h1, h2, h3, h4, h5⟩ := W.pin p hpp
    exact ⟨k.keep _ _ (hp p hpp) (notg _ h3) h1, h2, h3, h4, h5⟩
  · obtain ⟨h1, h2, o, h3, h4⟩ := W.zk b hbz
    exact ⟨h1, h2, o, k.keep b o (.inl (hz b hbz)) (notg _ h2) h3, h4⟩
  · rcases hbz with hbz | hbz
    · refine k.keep b o (.inl (Nat.lt_trans hbz hLi)) (fun z => ?_) e
      rcases List.mem_cons.mp z with z | z
      · (rw [z] at hbz; exact Nat.lt_irrefl _ hbz)
      · exact hf z
    · exact k.keep b o (.inl (hz b hbz)) (notg b (W.zk b hbz).2.1) e
/-- pins -/
theorem WS.pinned (W : WS G Z Zk g pins σ H s₀ s) {more : List (Addr × Obj)} (h : ∀ p ∈ more, s.heap.get? p.1 = some p.2 ∧ H p.1 = none ∧ G.L < p.1 ∧ ¬ Z p.1 ∧ ∀ v, p.2.data ≠ .cell v) : WS G Z Zk g (pins ++ more) σ H s₀ s :=
  ⟨W.bare, W.loc, W.hok, W.frz, W.hb, W.ho, W.zs, W.hL, W.bs, W.funs, fun p hp => (List.mem_append.mp hp).elim (W.pin p) (h p), W.zn, W.zk, W.gl, W.len, W.kp⟩
theorem WS.unpin (W : WS G Z Zk g pins σ H s₀ s) {less : List (Addr × Obj)} (h : ∀ p ∈ less, p ∈ pins) : WS G Z Zk g less σ H s₀ s :=
  ⟨W.bare, W.loc, W.hok, W.frz, W.hb, W.ho, W.zs, W.hL, W.bs, W.funs, fun p hp => W.pin p (h p hp), W.zn, W.zk, W.gl, W.len, W.kp⟩
/-- less is tracked -/
theorem WS.less (W : WS G Z Zk g pins σ H s₀ s) {H1 : Hp} (h : ∀ b u, H1 b = some u → H b = some u) : WS G Z Zk g pins σ H1 s₀ s := by
  have hn : ∀ b, H b = none → H1 b = none := fun b e => by
    cases q : H1 b with
    | none => rfl
    | some u => rw [h b u q] at e; cases e
  refine ⟨W.bare, W.loc, fun b u q => ?_, fun b u q => W.frz b u (h b u q), fun b o e => hn _ (W.hb b o e), fun b hb => hn _ (W.ho b hb), W.zs, hn _ W.hL, W.bs, W.funs, fun p hp => let ⟨a, b, c⟩ := W.pin p hp; ⟨a, hn _ b, c⟩, fun b hb => let ⟨a, c⟩ := W.zn b hb; ⟨hn _ a, c⟩, W.zk, W.gl, W.len, W.kp⟩
  obtain ⟨o', xs, rfl⟩ := W.frz b u (h b u q)
  exact W.hok b _ (h b _ q)
/-- a tuple that was made in a piece that ran is tracked -/
theorem WS.track (S : Stat G) (W0 : WS G Z Zk g pins σ H s₀ s) (I : Inv (G.X H s (pinsAt Zk s.heap)) pins σ' H' s') (hg : g < s'.gens.size) {t : Addr} {us : List V} (hn : H t = none) (ht : H' t = some (.tup us)) :
    ∃ o, WS G Z Zk g pins σ' (upd H t (.frz o (.tup us))) s₀ s' := by
  have W := W0.ran S I hg
  obtain ⟨hz, its, r, o, e, hc, n, hd⟩ := I.hok t _ ht
  have ne : ∀ b, H' b = none → b ≠ t := fun b hb z => by rw [z, ht] at hb; cases hb
  have old : ∀ b ob, b < G.L → s.heap.get? b = some ob → H b = none → b ≠ t := fun b ob hb eb hn => ne b (I.base.free b ob ((cutH_lt hb).trans eb) hn (by simp [GD.X]))
  have hZ : ¬ Z t := fun z => by
    obtain ⟨ob, eb⟩ := W0.zs t z
    rcases (W0.zn t z).2.2.2 with h | h
    · exact old t ob h eb hn rfl
    · exact ne t (I.pin (t, ob) (List.mem_append_left _ (mem_pinsAt h eb))).2.1 rfl
  refine ⟨o, W.bare, W.loc, fun b u q => ?_, fun b u q => ?_, fun b ob eb => ?_, fun b hb => ?_, W.zs, ?_, W.bs, W.funs, fun p hpp => ?_, fun b hb => ?_, W.zk, W.gl, W.len, W.kp⟩
  · by_cases hb : b = t
    · subst hb
      rw [upd_same] at q
      cases q
      exact ⟨e, hz, its, r, o, e, hc, n, hd⟩
    · rw [upd_ne hb] at q
      obtain ⟨o', xs, rfl⟩ := W.frz b u q
      exact W.hok b _ q
  · by_cases hb : b = t
    · subst hb
      rw [upd_same] at q
      cases q
      exact ⟨_, _, rfl⟩
    · rw [upd_ne hb] at q
      exact W.frz b u q
  · have hb : b < G.L := Nat.lt_of_lt_of_le (Heap.lt_size eb) S.bsz
    rw [upd_ne (old b ob hb (W0.bs b ob eb) (W0.hb b ob eb))]
    exact W.hb b ob eb
  · obtain ⟨_, ob, eb, _⟩ := W0.funs.mem hb
    rw [upd_ne (old b ob (S.hgO b hb).2 eb (W0.ho b hb))]
    exact W.ho b hb
  · rw [upd_ne (ne G.L I.free)]
    exact W.hL
  · obtain ⟨h1, h2, h3⟩ := W.pin p hpp
    refine ⟨h1, ?_, h3⟩
    rw [upd_ne (ne _ (I.pin p (List.mem_append_right _ hpp)).2.1)]
    exact h2
  · obtain ⟨h1, h2⟩ := W.zn b hb
    refine ⟨?_, h2⟩
    rw [upd_ne fun z => hZ (by rw [← z]; exact hb)]
    exact h1
/-- nothing but the heap's growth and other generators' states -/
theorem WS.ext (W : WS G Z Zk g pins σ H s₀ s) (ho : s'.os = s.os) (hb : AllBare s'.gens) (hs : s.gens.size ≤ s'.gens.size) (k : ∀ b o, s.heap.get? b = some o → s'.heap.get? b = some o) : WS G Z Zk g pins σ H s₀ s' where
  bare := hb
  loc := let ⟨m, hn, hl⟩ := W.loc; ⟨m, hn.keeps k, hl⟩
  hok := W.hok.kept k
  frz := W.frz
  hb := W.hb
  ho := W.ho
  zs := fun b hz => let ⟨o, e⟩ := W.zs b hz; ⟨o, k b o e⟩
  hL := W.hL
  bs := fun b o e => k b o (W.bs b o e)
  funs := funs_there (fun b o _ e => ⟨o, k b o e, .refl⟩) W.funs
  pin := fun p hp => let ⟨a, b⟩ := W.pin p hp; ⟨k _ _ a, b⟩
  zn := W.zn
  zk := fun b hb => let ⟨h1, h2, o, h3, h4⟩ := W.zk b hb; ⟨h1, h2, o, k _ _ h3, h4⟩
  gl := Nat.lt_of_lt_of_le W.gl hs
  len := W.len
  kp := W.kp.trans ⟨ho, fun b o _ _ e => k b o e, fun b o _ e => ⟨o.slots, k b o e⟩⟩
end
end K23
namespace K23
open PySem PySem.Spec PyProof.Rows L2 GenW Fl
mutual
/-- the statements below a statement, all of a body: in the order of a walk -/
def subS : Stm → List Stm
  | .ite _ a b => allR a ++ allR b
  | .whl _ _ a => allR a
  | .forl _ a => allR a
  | .tryf a b => allR a ++ allR b
  | .block a => allR a
  | _ => []
def allR : Stms → List Stm
  | .nil => []
  | .cons s r => s :: (subS s ++ allR r)
end
theorem subS_bods : ∀ s : Stm, subS s = (bodsS s).flatMap allR := by
  intro s
  cases s <;> simp [subS, bodsS]
def WR (L : Addr) (fr Zk : List Addr) (g : Nat) : GenEnd := fun n s₀ r s =>
  ((r = .ok (.ret .none) ∨ r = .ok .next) ∧ (n = 0 ∧ AllBare s.gens ∧ g < s.gens.size ∧ Kp L fr Zk s₀ s)) ∨ ∃ e, r = .error e ∧ False
/-- what is handed out: a pair of a path and a statement -/
def Item (K : PySem.W.Frag) (Hg : Hp) (B : Nat) (x : Stm) (v : Value) (h : Heap) : Prop :=
  ∃ (T pth : Addr) (st : Value) (parr : List Value) (xv : V), v = .ref T ∧ IsTup h T #[.ref pth, st] ∧ IsTup h pth parr.toArray ∧ parr.length ≤ B ∧ RelV xv st ∧ EncS K Hg x xv
def WY (L : Addr) (fr Zk : List Addr) (Z : Addr → Prop) (g : Nat) (K : PySem.W.Frag) (Hg : Hp) (B : Nat) (fl : List Stm) : Protocol := fun n s₀ v s kap =>
  Kp L fr Zk s₀ s ∧ AllBare s.gens ∧ g < s.gens.size ∧ (∃ pre x suf, fl = pre ++ x :: suf ∧ suf.length = n ∧ Item K Hg B x v s.heap) ∧ ∀ s', CMv Z g s s' → kap (.send .none) s'
abbrev SG (G : GD) (Z : Addr → Prop) (Zk : List Addr) (g B : Nat) (fl : List Stm) : Nat → Shared → Code → Sem PySem.Fin → List Frame → Shared → Prop :=
  Seg (model G.P G.w) G.A (WR G.L (frs G.outer) Zk g) (WY G.L (frs G.outer) Zk Z g G.K G.Hg B fl)
structure GCo (G : GD) (c : Code) (fs : List Frame) (gd : Bool → Bool) : Prop where
  over : G.A.over c fs = G.A1
  split : splitAtGen fs = none
  guard : fs.any Frame.guarded = false
  gd : gd false = false
theorem GCo.loop {G : GD} {c c' : Code} {fs : List Frame} {gd : Bool → Bool} {k : Result → Sem PySem.Fin} {l kp : List Value} {p : Pos} (q : GCo G c fs gd) (hw : c'.weight = 0) (hu : c'.cUnits = 0) :
    GCo G c' (.ret k none (gd false) l c p kp :: fs) id where
  over := (over_loop hw hu).trans q.over
  split := by
    show Option.map _ (splitAtGen fs) = none
    rw [q.split]; rfl
  guard := by
    show ((gd false) || fs.any Frame.guarded) = false
    rw [q.gd, q.guard]; rfl
  gd := rfl
section
variable {G : GD} {Z : Addr → Prop} {Zk : List Addr} {g B : Nat} {fl : List Stm} {pins : List (Addr × Obj)} {σ : L2.St} {H : Hp} {s₀ s : Shared} {n : Nat} {c : Code} {fs : List Frame}
  {K : Flow → Sem PySem.Fin} {J : Value → Sem PySem.Fin} {gd : Bool → Bool} {lv : List Value → List Value}
/-- a loop's end -/
theorem seg_loopEnd {c' : Code} {p : Pos} (h : SG G Z Zk g B fl n s₀ c (K .next) fs s) : SG G Z Zk g B fl n s₀ c' (.pure (.again (.block [] G.env))) (.ret (backOf G.env K J gd lv) none (gd false) (lv []) c p [] :: fs) s :=
  seg_blockNil (seg_leaf (.ok .next) h)
theorem seg_rangeW (S : Stat G) {x : Str} {px pos : Pos} {ti : Nat} (hi : G.N[ti]? = some x) {iter : Expr} {body : List Stmt} {wi : TI} {cnt : Nat} (hs : ∀ y, foldedSetIterable iter G.env y = pure y)
    (hit : ∀ (H : Hp) (s : Shared) (pz : List (Addr × Obj)), PI (G.X H s pz) (.Name x px) iter wi) (gc : GCo G c fs gd) (W : WS G Z Zk g pins σ H s₀ s)
    (hw : ∀ R : It → Hp → Prop, R (Itr 0 cnt) H → wi σ H R) (P : Nat → Nat → L2.St → Prop) (p0 : P 0 n σ)
    (hbody : ∀ (i n : Nat) (s₀ s : Shared) (σ : L2.St) (c' : Code) (fs' : List Frame) (K' : Flow → Sem PySem.Fin) (J' : Value → Sem PySem.Fin) (pins' : List (Addr × Obj)), i < cnt → P i n σ →
      WS G Z Zk g (pins ++ pins') (σ.set ti (some (.int (i : Nat)))) H s₀ s → GCo G c' fs' id →
      (∀ (n' : Nat) (s₀' s' : Shared) (σ' : L2.St), P (i + 1) n' σ' → WS G Z Zk g (pins ++ pins') σ' H s₀' s' → SG G Z Zk g B fl n' s₀' c' (K' .next) fs' s') →
      SG G Z Zk g B fl n s₀ c' ((execs body G.env).wrap K' J' id id) fs' s)
    (hdone : ∀ (n : Nat) (s₀ s : Shared) (σ : L2.St), P cnt n σ → WS G Z Zk g pins σ H s₀ s → SG G Z Zk g B fl n s₀ c (K .next) fs s) :
    SG G Z Zk g B fl n s₀ c ((exec (.For (.Name x px) iter body [] pos) G.env).wrap K J gd lv) fs s := by
  refine segFor_start hs ?_
  rw [gc.over]
  have I := W.inv S
  refine wpAny_gsz (n := g + 1) W.gl (wpAny_mono ((hit H s (pinsAt Zk s.heap)).run pins s σ H (fun J H' => J = Itr 0 cnt ∧ H' = H) I (hw _ ⟨rfl, rfl⟩)) (fun v s1 h1 hg1 => ?_) fun _ _ z _ => z.elim)
  refine wpAny_gsz (n := g + 1) hg1 (wpAny_mono h1 (fun itv s2 h2 hg2 => ?_) fun _ _ z _ => z.elim)
  obtain ⟨it, fp, tn, J2, H2, rfl, I2, T, st2, f2, rfl, rfl⟩ := h2
  intro p
  have W2 := W.ran S I2 hg2
  have fp1 : ∀ b ∈ fp, H2 b = none ∧ G.L < b ∧ ¬ Z b ∧ ∀ q ∈ pins, q.1 ≠ b := fun b hb => by
    obtain ⟨e1, e2, e3, e4, e5, e6⟩ := f2 b hb
    have hsz : (cutH G.L s.heap).objs.size = G.L := cutH_size (Nat.le_of_lt W.lt)
    have hle : G.L ≤ b := by
      rcases e4 with z | z
      · exact absurd (show b ∈ ([] : List Addr) from z) (by simp)
      · have z' : (cutH G.L s.heap).objs.size ≤ b := z
        rw [hsz] at z'
        exact z'
    refine ⟨e1, Nat.lt_of_le_of_ne hle (Ne.symm e2), fun hz => ?_, fun q hq => e6 q (List.mem_append_right _ hq)⟩
    rcases (W.zn b hz).2.2.2 with z | z
    · exact Nat.lt_irrefl _ (Nat.lt_of_lt_of_le z hle)
    · obtain ⟨_, _, o, ho, _⟩ := W.zk b z
      exact e6 (b, o) (List.mem_append_left _ (mem_pinsAt z ho)) rfl
  have stat : ∀ {σ : L2.St} {s₀ s : Shared}, WS G Z Zk g pins σ H2 s₀ s → ∀ b ∈ fp, FpOk (G.X H2 s (pinsAt Zk s.heap)) pins H2 b := fun {σ s₀ s} W b hb => by
    obtain ⟨h1, h2, h3, h4⟩ := fp1 b hb
    have hc : (G.X H2 s (pinsAt Zk s.heap)).env.cells = [] := S.cells
    refine ⟨h1, Nat.ne_of_gt h2, fun z => Nat.lt_irrefl _ (Nat.lt_trans (S.hgO b z).2 h2), .inr ?_, fun y d e => ?_, fun q hq => ?_⟩
    · show (cutH G.L s.heap).objs.size ≤ b
      rw [cutH_size (Nat.le_of_lt W.lt)]
      exact Nat.le_of_lt h2
    · rw [hc] at e; cases e
    · rcases List.mem_append.mp hq with z | z
      · intro e
        have := (of_pinsAt z).1
        rw [e] at this
        exact h3 (W.zk b this).1
      · exact h4 q z
  have gl : GCo G (.forLoop (.Name x px) (.ref it) body [] G.env) (.ret (backOf G.env K J gd lv) none (gd false) (lv []) c p [] :: fs) id := gc.loop rfl rfl
  have loop : ∀ (r i n : Nat) (s₀ s : Shared) (σ : L2.St), i + r = cnt → P i n σ → WS G Z Zk g pins σ H2 s₀ s → tn i s.heap →
      SG G Z Zk g B fl n s₀ (.forLoop (.Name x px) (.ref it) body [] G.env) ((model G.P G.w).den (.forLoop (.Name x px) (.ref it) body [] G.env)) (.ret (backOf G.env K J gd lv) none (gd false) (lv []) c p [] :: fs) s := by
    intro r
    induction r with
    | zero =>
      intro i n s₀ s σ hr hP W st
      obtain rfl : i = cnt := by omega
      refine segFor_turn ?_
      rw [gl.over]
      refine wpAny_gsz (n := g + 1) W.gl (wpAny_mono (T.done (G.X H2 s (pinsAt Zk s.heap)) rfl rfl rfl rfl i pins s σ H2 NoEx (W.inv S) (stat W) st (Nat.le_refl _)) (fun r s1 h1 hg1 => ?_) fun _ _ z _ => z.elim)
      obtain ⟨rfl, I1⟩ := h1
      exact seg_loopEnd (hdone n s₀ s1 σ hP (W.ran S I1 hg1))
    | succ r ih =>
      intro i n s₀ s σ hr hP W st
      have hic : i < cnt := by omega
      refine segFor_turn ?_
      rw [gl.over]
      refine wpAny_gsz (n := g + 1) W.gl (wpAny_mono (T.item (G.X H2 s (pinsAt Zk s.heap)) rfl rfl rfl rfl i pins s σ H2 NoEx (W.inv S) (stat W) st hic) (fun r s1 h1 hg1 => ?_) fun _ _ z _ => z.elim)
      obtain ⟨u, rfl, h1⟩ := h1
      refine wpAny_gsz (n := g + 1) hg1 (wpAny_mono h1 (fun _ s2 h2 hg2 => ?_) fun _ _ z _ => z.elim)
      obtain ⟨y, H', I3, ry, ⟨eH, ey⟩, st3, fr3⟩ := h2
      have eH' : H' = H2 := eH
      subst eH'
      have ey' : y = .int (0 + (i : Nat)) := ey
      rw [Int.zero_add] at ey'
      subst ey'
      have W3 := W.ran S I3 hg2
      refine wpAny_assign_Name (W3.store S hi ry fun s4 W4 hg4 ho4 k4 _ => ?_)
      have st4 : tn (i + 1) s4.heap := T.keep _ _ _ st3 fun b hb o e => k4 b o (Nat.ne_of_gt (fp1 b hb).2.1) e
      have W5 := W4.pinned (more := pinsAt fp s4.heap) fun q hq => by
        obtain ⟨hb, e⟩ := of_pinsAt hq
        obtain ⟨h1, h2, h3, _⟩ := fp1 q.1 hb
        obtain ⟨o, e', d⟩ := T.obj _ _ st4 q.1 hb
        rw [e] at e'; cases e'
        exact ⟨e, h1, h2, h3, d⟩
      refine hbody i n s₀ s4 σ _ _ _ _ _ hic hP W5 gl fun n' s₀' s' σ' hP' W' => ?_
      refine seg_again rfl (ih (i + 1) n' s₀' s' σ' (by omega) hP' (W'.unpin fun q hq => List.mem_append_left _ hq) (T.keep _ _ _ st4 fun b hb o e => ?_))
      exact (W'.pin (b, o) (List.mem_append_right _ (mem_pinsAt hb e))).1
  exact loop cnt 0 n s₀ s2 σ (Nat.zero_add _) p0 W2 st2
end
end K23
namespace K23
open PySem PySem.Spec PyProof.Rows L2
theorem ext_tuple (l : Addr) (xs : Array Value) (n : Nat) (b : Addr) (ys : Array Value) (m : Nat) (dd : Option Addr) (sl : Array (Option Value)) (h0 : ¬(!xs.isEmpty && Builtin.List.listTooLong (xs.size + ys.size)) = true) (h1 : xs.size ≤ sizeLine) (h2 : xs.size + ys.size ≤ sizeLine + 1) :
    Meets (Builtin.«list.extend» ⟨[.ref l, .ref b], []⟩) (fun _ R s => s.heap.get? l = some { cls := .type "list", dict := none, data := .seq xs n, slots := #[] } ∧ s.heap.get? b = some { cls := .type "tuple", dict := dd, data := .seq ys m, slots := sl } ∧
      R (.ok (.ret Value.none)) { s with heap := s.heap.update l (Obj.mapSeq fun x => x ++ ys), toks := s.toks }) :=
  .of_wp fun prog w A R s h => by
    obtain ⟨hp, g, d, tk, os⟩ := s
    obtain ⟨hl, hb, h⟩ := h
    have f1 := AutoSeq1.idx_int
    have f2 := AutoSeq1.sub_tuple_tuple
    have f3 := AutoSeq1.sub_list_list
    have f4 := AutoSeq1.sub_tuple_list
    have f5 := AutoSeq1.sub_list_tuple
    have hz : (xs ++ ys).size ≤ sizeLine + 1 := by rw [Array.size_append]; exact h2
    wp_walk using (wpAny_updateSeq hl rfl (hz := h1) (_hz' := hz)), AutoSeq1.wpAny_loadPart' hl, AutoSeq1.wpAny_loadPart' hb
    exact ⟨_, rfl, h⟩
def rExtT (K : PySem.W.Frag) : V → List V → Hp → VK → Prop := fun x vs H Q => ∃ l b xs zs, x = .ref l ∧ vs = [.ref b] ∧ H l = some (.lst xs) ∧ SqT K H b zs ∧ xs.length + zs.length ≤ sizeLine ∧ Q .non (upd H l (.lst (xs ++ zs)))
theorem mt_extT {X : Cx} : MtM X "list.extend" (rExtT X.K) := by
  intro pins s σ H x vs v us Q I rx rv h
  obtain ⟨l, b, xs, zs, rfl, rfl, hH, hB, hz, q⟩ := h
  cases rx
  obtain ⟨u, rfl, ru⟩ := rv.one
  cases ru
  obtain ⟨z, its, n, r, hl, e⟩ := I.lstM hH
  obtain ⟨its2, r2, ⟨⟨c, dd, dt, sl⟩, e2, hc, m, hd⟩, hz2⟩ := I.tuple hB
  have hl2 := r2.length
  simp only at hc hd
  subst hc hd
  have big : its.toArray.size + its2.toArray.size ≤ sizeLine := by rw [List.size_toArray, List.size_toArray]; omega
  have hlong : ¬ (!its.toArray.isEmpty && Builtin.List.listTooLong (its.toArray.size + its2.toArray.size)) = true := by
    rw [notLongL big, Bool.and_false]
    exact Bool.false_ne_true
  refine call_meets F.slot_list_extend ⟨_, e, rfl⟩ F.entry_list_extend (F.args_list_extend_2 _ _)
    (ext_tuple l its.toArray n b its2.toArray m dd sl hlong (by rw [List.size_toArray]; omega) (by omega)) ⟨e, e2, ?_⟩
  refine ⟨.non, _, I.lset (its' := its ++ its2) hH e (by simp) (r.append r2) ?_, rfl, q⟩
  rw [List.length_append]
  omega
/-- "x" * k -/
def rMulS : R2 := fun x y H Q => ∃ (k : Int), x = .str "x" ∧ y = .int k ∧ -100 ≤ k ∧ k ≤ 100 ∧ ∀ z : Str, z.length = k.toNat → Q (.str z) H
theorem foldl_len : ∀ (n : Nat) (a c : Array Nat), ((List.replicate n c).foldl (· ++ ·) a).size = a.size + n * c.size
  | 0, a, c => by simp
  | n + 1, a, c => by
    have ih := foldl_len n (a ++ c) c
    rw [List.replicate_succ, List.foldl_cons, ih, Array.size_append, Nat.add_mul]
    omega
theorem op_mulS {X : Cx} : OpR X (binaryOp .Mult) rMulS := by
  intro pins s σ H x y v u Q I rx ry h
  obtain ⟨k, rfl, rfl, h1, h2, q⟩ := h
  obtain ⟨t, rfl⟩ := rx
  obtain ⟨t', rfl⟩ := ry
  have len1 : ("x" : Str).length = 1 := by decide +kernel
  refine P.mul_str (by rw [decide_eq_false (by omega), decide_eq_false (by omega)]; rfl) (fun h3 _ => ?_) (fun h3 _ => ?_) ?_
  · rw [len1]
    have : 1 ≤ (2 ^ 63 - 1) / k := by
      have hk : 0 < k := by omega
      exact (Int.le_ediv_iff_mul_le hk).mpr (by omega)
    omega
  · have h4 : k.toNat ≤ 100 := by omega
    have z : 100000 ≤ sizeLine := by decide
    refine decide_eq_false ?_
    rw [len1]
    omega
  · by_cases c1 : k < 1
    · rw [if_pos c1]
      exact ⟨by decide, ⟨.str Str.empty, H, I.tok _, ⟨_, rfl⟩, q _ (by show 0 = _; omega)⟩⟩
    · rw [if_neg c1]
      by_cases c2 : k = 1
      · subst c2
        rw [if_pos (by rfl)]
        exact ⟨.str "x", H, I, ⟨_, rfl⟩, q _ len1⟩
      · have e : ((k == 1 || ("x" : Str).length == 0) = true) = False := by
          rw [len1]; simp [c2]
        rw [if_neg (by rw [e]; exact id)]
        refine ⟨?_, ⟨.str _, H, I.tok _, ⟨_, rfl⟩, q _ ?_⟩⟩
        · show Array.size _ ≤ _
          rw [foldl_len]
          have e1 : ("x" : Str).cps.size = 1 := len1
          rw [e1]
          have := sizeLine_eq
          simp only [List.size_toArray, List.length_nil] at *
          omega
        · show Array.size _ = _
          rw [foldl_len]
          have e1 : ("x" : Str).cps.size = 1 := len1
          rw [e1]
          simp
end K23
namespace K23
open PySem PySem.Spec PyProof.Rows L2
section
variable {σ : L2.St} {H : Hp} {Q : VK} {ta tb te : TE} {D : Ends} {t u : TS} {K : PySem.W.Frag}
theorem st_var {i : Nat} {v : V} (h : σ[i]? = some (some v)) (q : Q v H) : tVar i σ H Q := ⟨v, h, q⟩
theorem st_c {v : V} (q : Q v H) : tC v σ H Q := q
theorem st_op {r : R2} (h : ta σ H fun x H1 => tb σ H1 fun y H2 => r x y H2 Q) : tOp r ta tb σ H Q := h
theorem st_eq {x y : V} (s : scal x y = true) (q : Q (.bl (decide (x = y))) H) : rEq x y H Q := ⟨s, q⟩
theorem st_ne {x y : V} (s : scal x y = true) (q : Q (.bl (!decide (x = y))) H) : rNe x y H Q := ⟨s, q⟩
theorem st_i0 {g : Int → Int → V} {i j : Int} (q : Q (g i j) H) : rI0 g (.int i) (.int j) H Q := ⟨i, j, rfl, rfl, q⟩
theorem st_test {Q : Bool → Hp → Prop} (h : ta σ H fun x H' => ∃ k, x = .bl k ∧ Q k H') : tTest ta σ H Q := h
theorem st_b {Q : Bool → Hp → Prop} (h : ta σ H fun x H' => ∃ k, x = .bl k ∧ Q k H') : tB ta σ H Q := h
theorem st_bl {k : Bool} {Q : Bool → Prop} (q : Q k) : ∃ k', V.bl k = .bl k' ∧ Q k' := ⟨k, rfl, q⟩
theorem st_not {Q : Bool → Hp → Prop} {c : TT} (q : c σ H fun c H1 => Q (!c) H1) : tNot c σ H Q := q
theorem st_notV {k : Bool} (h : ta σ H fun x H1 => ∃ c, x = .bl c ∧ Q (.bl (!c)) H1) : tNotV ta σ H Q := h
theorem st_or {Q : Bool → Hp → Prop} {a b : TT} (q : a σ H fun c H1 => if c = true then Q true H1 else b σ H1 Q) : tOr a b σ H Q := q
theorem st_and {Q : Bool → Hp → Prop} {a b : TT} (q : a σ H fun c H1 => if c = true then b σ H1 Q else Q false H1) : tAnd a b σ H Q := q
theorem st_isN (h : ta σ H fun x H1 => Q (.bl (decide (x = .non))) H1) : tIsN ta σ H Q := h
theorem st_notN (h : ta σ H fun x H1 => Q (.bl (!decide (x = .non))) H1) : tNotN ta σ H Q := h
theorem st_if {c : TT} (h : c σ H fun b H1 => if b = true then t D σ H1 else u D σ H1) : tIfS c t u D σ H := h
theorem st_seq (h : t { D with nx := u D } σ H) : tSeq t u D σ H := h
theorem st_asg {g : TG} (h : te σ H fun x H1 => g x σ H1 D.nx) : tAsg te g D σ H := h
theorem st_name {i : Nat} {v : V} {Q : L2.St → Hp → Prop} (h : Q (σ.set i (some v)) H) : gName i v σ H Q := h
theorem st_ret (h : te σ H D.rt) : tRet te D σ H := h
theorem st_retN (h : D.rt .non H) : tRetN D σ H := h
theorem st_next (h : D.nx σ H) : tNext D σ H := h
theorem st_brk (h : D.bk σ H) : tBreak D σ H := h
theorem st_cont (h : D.ct σ H) : tCont D σ H := h
theorem st_drop (h : te σ H fun _ H1 => D.nx σ H1) : tDrop te D σ H := h
theorem st_nil {Q : List V → Hp → Prop} (h : Q [] H) : tNil σ H Q := h
theorem st_cons {Q : List V → Hp → Prop} {tr : TA} (h : ta σ H fun x H1 => tr σ H1 fun xs H2 => Q (x :: xs) H2) : tCons ta tr σ H Q := h
theorem st_cb {r : List V → Hp → VK → Prop} {tr : TA} (h : tr σ H fun vs H1 => r vs H1 Q) : tCB r tr σ H Q := h
theorem st_call {sp : Sp} {E : XK} {tr : TA} (h : tr σ H fun vs H1 => sp (vs ++ []) H1 Q E) : tCall sp [] E tr σ H Q := h
theorem st_ixt {a : Addr} {xs : List V} {i : Int} {v : V} (h : SqT K H a xs) (e : atI xs i = some v) (q : Q v H) : rIxT K (.ref a) (.int i) H Q := ⟨a, xs, i, v, rfl, rfl, h, e, q⟩
theorem st_ixl {a : Addr} {xs : List V} {i : Int} {v : V} (h : SqL K H a xs) (e : atI xs i = some v) (q : Q v H) : rIxL K (.ref a) (.int i) H Q := ⟨a, xs, i, v, rfl, rfl, h, e, q⟩
theorem st_ix0 {a : Addr} {r : List V} {v : V} (h : SqT K H a (v :: r)) (q : Q v H) : rIxT K (.ref a) (.int 0) H Q := ⟨a, _, 0, v, rfl, rfl, h, atI_nat (j := 0) rfl, q⟩
theorem st_tup {tr : TA} (h : tr σ H fun xs H1 => xs.length ≤ sizeLine ∧ ∀ p, H1 p = none → Q (.ref p) (upd H1 p (.tup xs))) : tTup tr σ H Q := h
theorem st_lst {tr : TA} (h : tr σ H fun xs H1 => xs.length ≤ sizeLine ∧ ∀ p, H1 p = none → Q (.ref p) (upd H1 p (.lst xs))) : tLst tr σ H Q := h
theorem st_bm {T : String} {r : V → List V → Hp → VK → Prop} {tr : TA} (h : ta σ H fun x H1 => tyV K T x H1 ∧ tr σ H1 fun xs H2 => r x xs H2 Q) : tBM K T r ta tr σ H Q := h
theorem st_bm0 {T : String} {r : V → List V → Hp → VK → Prop} (h : ta σ H fun x H1 => tyV K T x H1 ∧ r x [] H1 Q) : tBM0 K T r ta σ H Q := h
theorem st_len {a : Addr} {xs : List V} {R : V → Hp → Prop} (h : SqL K H a xs ∨ SqT K H a xs) (q : R (.int ((xs.length : Nat) : Int)) H) :
    ∃ p ys, [V.ref a] = [V.ref p] ∧ (SqL K H p ys ∨ SqT K H p ys) ∧ R (V.int ((ys.length : Nat) : Int)) H := ⟨a, xs, rfl, h, q⟩
theorem st_fld {f : Str} (h : ta σ H fun x H1 => ∃ a C dx fs v, x = .ref a ∧ H1 a = some (.ins C dx fs) ∧ Cls K C ∧ NoAttr K C f ∧ fs.lookup f = some v ∧ Q v H1) : tFld K ta f σ H Q := h
theorem ifs_no {a b : V} {A B : Prop} (h : a ≠ b) (q : B) : if decide (a = b) = true then A else B := by
  rw [decide_eq_false h, if_neg Bool.false_ne_true]
  exact q
theorem ifs_yes {a b : V} {A B : Prop} (h : a = b) (q : A) : if decide (a = b) = true then A else B := by
  rw [decide_eq_true h, if_pos rfl]
  exact q
theorem ifn_no {a b : V} {A B : Prop} (h : a ≠ b) (q : A) : if (!decide (a = b)) = true then A else B := by
  rw [decide_eq_false h]
  exact q
theorem ifn_yes {a b : V} {A B : Prop} (h : a = b) (q : B) : if (!decide (a = b)) = true then A else B := by
  rw [decide_eq_true h]
  exact iteF q
theorem ifb_t {A B : Prop} (q : A) : if true = true then A else B := iteT q
theorem ifb_f {A B : Prop} (q : B) : if false = true then A else B := iteF q
theorem ifb {k : Bool} {A B : Prop} (h1 : k = true → A) (h2 : k = false → B) : if k = true then A else B := by
  cases k
  · exact iteF (h2 rfl)
  · exact iteT (h1 rfl)
theorem ne_non_str {x : Str} : (V.str x) ≠ .non := by intro h; cases h
theorem ne_non_int {x : Int} : (V.int x) ≠ .non := by intro h; cases h
theorem ne_non_ref {x : Addr} : (V.ref x) ≠ .non := by intro h; cases h
theorem ne_non_bl {x : Bool} : (V.bl x) ≠ .non := by intro h; cases h
theorem small3 {n : Nat} (h : n ≤ 100000) : n ≤ sizeLine := Nat.le_trans h (by decide)
end
theorem ifnb_t {A B : Prop} (q : B) : if (!true) = true then A else B := iteF q
theorem ifnb_f {A B : Prop} (q : A) : if (!false) = true then A else B := iteT q
theorem lab_rfl : labV none = V.non := rfl
theorem num_rfl : numV none = V.non := rfl
/-- a def at the top: where it stands, its name's value, how it is called -/
structure DA (K : PySem.W.Frag) (mg : Str → Option Value) (x : Str) (st : Stmt) (ps : List Str) (f : Addr) (fd : FuncData) : Prop where
  F : Fun K x x st f fd
  g : mg x = some (.ref f)
  b : Binds K fd ps []
theorem pe_cl {X : Cx} {x : Str} {st : Stmt} {ps : List Str} {f : Addr} {fd : FuncData} {sp : Sp} {k : Nat} {p pos : Pos} {e : Expr} {es : List Expr} {t : TA} (D : DA X.K X.mg x st ps f fd) (G : FnOk X.prog X.w X.K X.mg X.base CX0 k f fd ps sp) (hr : Room k X.A) (ha : PA X (e :: es) t) (hg : Gl X x := by rfl)
    (hdb : (x == ("__debug__" : Str)) = false := by decide) (he : starEach (e :: es) X.env = (false, eval e X.env) :: starEach es X.env := by rfl) (hpl : (backTo pos (starEach es X.env)).any (·.1) = false := by rfl) : PE X (.Call (.Name x p) (e :: es) [] pos) (tCall sp [] E0 t) :=
  pe_call G hr hg D.g D.F.kp D.b .nil pass0 ha hdb he hpl
theorem pe_clG {X : Cx} {x : Str} {st : Stmt} {ps : List Str} {f : Addr} {fd : FuncData} {sp : Sp} {k : Nat} {p pos : Pos} {e : Expr} {es : List Expr} {t : TA} (D : DA X.K X.mg x st ps f fd) (G : FnG X.prog X.w X.K X.mg X.base k f fd ps sp) (hgd : X.A.guards = some []) (hr : Room k X.A) (ha : PA X (e :: es) t) (hg : Gl X x := by rfl)
    (hdb : (x == ("__debug__" : Str)) = false := by decide) (he : starEach (e :: es) X.env = (false, eval e X.env) :: starEach es X.env := by rfl) (hpl : (backTo pos (starEach es X.env)).any (·.1) = false := by rfl) : PE X (.Call (.Name x p) (e :: es) [] pos) (tCall sp [] E0 t) :=
  pe_callG G hgd hr hg D.g D.F.kp D.b ha hdb he hpl
theorem pe_len {X : Cx} {p pos : Pos} {e : Expr} {t : TE} (m : X.mg "len" = none) (h : PE X e t) (hg : Gl X "len" := by rfl) (he : starEach [e] X.env = (false, eval e X.env) :: starEach [] X.env := by rfl) : PE X (.Call (.Name "len" p) [e] [] pos) (tCB (fun xs H Q => ∃ p ys, xs = [V.ref p] ∧ (SqL X.K H p ys ∨ SqT X.K H p ys) ∧ Q (V.int ((ys.length : Nat) : Int)) H) (tCons t tNil)) :=
  pe_callB (es := []) call_len_seq hg m PySem.boot_len (pa_cons h pa_nil he) (he := he)
/-- the i-th statement of the program -/
def top (i : Nat) : Stmt := PySem.Challenge.pw_flowform_k23_whole_one_after_another.main.body.getD i (.Pass ⟨0, 0, 0, 0⟩)
end K23
namespace K23
open PySem PySem.Spec PyProof.Rows L2 GenW Fl
abbrev sBods : Stmt := top 8
abbrev sWalk : Stmt := top 20
def wN : List Str := ["program", "k", "bodies", "number", "path", "statement"]
theorem scWalk : WScope wN (defScope sWalk) := ⟨rfl, rfl, by decide +kernel, by decide +kernel, by decide +kernel⟩
/-- where the def stands -/
structure WFun (K : PySem.W.Frag) (f : Addr) (fd : FuncData) (cdv : Value) : Prop where
  ex : ∃ (oc : Value) (od : Option Addr) (kV doc pm ct : Value) (an : Option Addr) (osl : Array (Option Value)), fd = PySem.W.fnOf "walk" "walk" (defArgs sWalk) (defBody sWalk) (defScope sWalk) .none kV doc pm an cdv ct ∧
    K.lookup f = some ⟨oc, od, .func fd, osl⟩
  cd : PySem.W.codeIn K cdv "walk" = true
  kp : PySem.W.keepIn K (.ref f) = true
  bnd : Binds K fd ["program"] []
abbrev wEnv (f : Addr) (cdv : Value) (L : Addr) : Env := envOfC "walk" (defScope sWalk) L f cdv
theorem call_walk {P : Program} {w : World} {K : PySem.W.Frag} {f : Addr} {fd : FuncData} {cdv : Value} {A : Around} {s : Shared} {u : Value} (F : WFun K f fd cdv) (hroom : A.depth < recursionLimit) (kin : K.In s.heap) (lim : s.heap.NoLimit) (hb : AllBare s.gens) :
    codeAny (model P w) A (.call (.ref f) ⟨[u], []⟩) (fun r s' => ∃ a : Addr, r = .ok (.ret (.ref a)) ∧ s.heap.objs.size < a ∧ a < s'.heap.objs.size ∧ s'.gens = s.gens.push (.fresh (.func (defBody sWalk) (wEnv f cdv s.heap.objs.size))) ∧ AllBare s'.gens ∧ s'.os = s.os ∧
      (∀ b o, s.heap.get? b = some o → s'.heap.get? b = some o) ∧ s'.heap.IsGen a s.gens.size ∧ ∃ m, s'.heap.Ns s.heap.objs.size m ∧ m "program" = some u) s := by
  obtain ⟨oc, od, kV, doc, pm, ct, an, osl, rfl, lk⟩ := F.ex
  have bn : BindsTo s _ ⟨[u], []⟩ ((["program"] : List Str).zip [u]) := F.bnd s [u] kin rfl
  refine codeAny_call_generator hroom (kin _ _ lk) rfl scWalk.co rfl rfl (PySem.W.codeRec_of kin F.cd) (bn _ _ _ _ ?_)
  refine wpAny_newFunctionEnv_cells scWalk.kind (fun y hy => ?_) fun env he s1 x => ?_
  · have e : y = (("program" : Str), u) := by simpa using hy
    subst e
    exact .inl (scWalk.loc "program" List.mem_cons_self)
  subst he
  have lim1 : s1.heap.NoLimit := lim.keeps x.toInCall.keep
  refine ⟨lim1, ?_⟩
  obtain ⟨h1, tk, es1, hk1⟩ := x.done
  have gen1 : s1.gens = s.gens := by rw [es1]
  have os1 : s1.os = s.os := by rw [es1]
  have lt1 : s.heap.objs.size < s1.heap.objs.size := x.toInCall.ns.lt
  refine ⟨s1.heap.objs.size, rfl, lt1, ?_, ?_, AllBare.push (by rw [gen1]; exact hb) rfl, os1, fun b o e => Heap.get?_push_of_some _ (x.toInCall.keep b o e), ?_, ?_⟩
  · show _ < (s1.heap.push _).objs.size
    rw [Heap.size_push]; exact Nat.lt_succ_self _
  · show s1.gens.push _ = _
    rw [gen1]
    rfl
  · have q := gen1
    rw [← q]
    exact ⟨_, _, _, Heap.get?_push_size _ rfl, rfl, rfl, rfl⟩
  · exact ⟨_, x.toInCall.ns.push _, rfl⟩
end K23
namespace K23
open PySem PySem.Spec PyProof.Rows L2 GenW Fl
abbrev GG (P : Program) (w : World) (K : PySem.W.Frag) (mg : Str → Option Value) (base : Heap) (f : Addr) (cdv : Value) (Hg : Hp) (L : Addr) (A : Around) (outer : List Env) : GD :=
  { P := P, w := w, K := K, mg := mg, base := base, N := wN, qual := "walk", sc := defScope sWalk, f := f, cd := cdv, Hg := Hg, L := L, A := A, outer := outer }
section
variable {G : GD} {Z : Addr → Prop} {Zk : List Addr} {g B : Nat} {fl : List Stm} {pins : List (Addr × Obj)} {σ : L2.St} {H : Hp} {s₀ s : Shared} {n : Nat} {c : Code} {fs : List Frame}
  {K : Flow → Sem PySem.Fin} {J : Value → Sem PySem.Fin} {gd : Bool → Bool} {lv : List Value → List Value}
/-- a name of the frame -/
theorem WS.load {M : Model} {A : Around} {E : Value → Shared → Prop} {Q : Value → Shared → Prop} (S : Stat G) (W : WS G Z Zk g pins σ H s₀ s) {i : Nat} {x : Str} {v : V} {px : Pos} (hi : G.N[i]? = some x) (hv : σ[i]? = some (some v))
    (h : ∀ u, RelV v u → Q u s) (hd : (x == ("__debug__" : Str)) = false := by decide) : wpAny M A (eval (.Name x px) G.env) Q E s := by
  obtain ⟨m, hn, hl⟩ := W.loc
  obtain ⟨u, r, hm⟩ := hl i x v hi hv
  exact wpAny_Name (wpAny_loadName_local (env := G.env) S.sc.kind (S.sc.loc x (List.mem_of_getElem? hi)) hn hm (h u r)) hd
/-- ((k, number) + path, statement) -/
theorem eval_item {E : Value → Shared → Prop} {Q : Value → Shared → Prop} (S : Stat G) (W : WS G Z Zk g pins σ H s₀ s) {vk vn xv : V} {pth : Addr} {parr : List Value} {B0 : Nat} {q1 q2 q3 q4 q5 q6 q7 : Pos} {x0 x1 : Nat}
    (h1 : G.N[1]? = some ("k" : Str)) (h3 : G.N[3]? = some ("number" : Str)) (h4 : G.N[4]? = some ("path" : Str)) (h5 : G.N[5]? = some ("statement" : Str))
    (e1 : σ[1]? = some (some vk)) (e3 : σ[3]? = some (some vn)) (e4 : σ[4]? = some (some (.ref pth))) (e5 : σ[5]? = some (some xv)) (hp : IsTup s.heap pth parr.toArray) (hB : parr.length ≤ B0) (hz : B0 + 2 ≤ sizeLine)
    (hQ : ∀ (s' : Shared) (T p2 : Addr) (st : Value) (parr2 : List Value), WS G Z Zk g pins σ H s₀ s' → s'.gens = s.gens → s'.os = s.os → (∀ b o, s.heap.get? b = some o → s'.heap.get? b = some o) →
      IsTup s'.heap T #[.ref p2, st] → IsTup s'.heap p2 parr2.toArray → parr2.length ≤ B0 + 2 → RelV xv st → Q (.ref T) s') :
    wpAny (model G.P G.w) G.A1 (eval (.Tuple [.BinOp (.Tuple [.Name "k" q1, .Name "number" q2] x0 q3) .Add (.Name "path" q4) q5, .Name "statement" q6] x1 q7) G.env) Q E s := by
  have two : (2 : Nat) ≤ sizeLine := Nat.le_trans (Nat.le_add_left 2 B0) hz
  refine wpAny_Tuple_spliced (Calls.spliced_cons (wpAny_BinOp (wpAny_Tuple_spliced (Calls.spliced_cons (W.load S h1 e1 fun uk rk => Calls.spliced_cons (W.load S h3 e3 fun un rn => Calls.spliced_nil ⟨two, ?_⟩))))))
  have W1 := W.ext (s' := { s with heap := s.heap.push { cls := .type "tuple", data := .seq ([uk, un] : List Value).toArray } }) rfl W.bare (Nat.le_refl _) fun b o e => Heap.get?_push_of_some _ e
  refine W1.load S h4 e4 fun up rp => ?_
  have rp' : up = Value.ref pth := rp
  subst rp'
  have ht : IsTup (s.heap.push { cls := .type "tuple", data := .seq ([uk, un] : List Value).toArray }) s.heap.objs.size ([uk, un] : List Value).toArray := ⟨_, Heap.get?_push_size _ rfl, rfl, _, rfl⟩
  have hp1 := hp.push { cls := .type "tuple", data := .seq ([uk, un] : List Value).toArray }
  have fin : ∀ (s2 : Shared) (p2 : Addr) (parr2 : List Value), s2.gens = s.gens → s2.os = s.os → (∀ b o, s.heap.get? b = some o → s2.heap.get? b = some o) → IsTup s2.heap p2 parr2.toArray → parr2.length ≤ B0 + 2 →
      wpAny (model G.P G.w) G.A1 (spliced [(false, eval (.Name "statement" q6) G.env)]) (fun vs s₁ => (Value.ref p2 :: vs).length ≤ sizeLine ∧ Q (.ref s₁.heap.objs.size) { s₁ with heap := s₁.heap.push { cls := .type "tuple", data := .seq (Value.ref p2 :: vs).toArray } }) E s2 := by
    intro s2 p2 parr2 hg ho k hp2 hl
    have W2 := W.ext (s' := s2) ho (by rw [hg]; exact W.bare) (by rw [hg]; exact Nat.le_refl _) k
    refine Calls.spliced_cons (W2.load S h5 e5 fun us rs => Calls.spliced_nil ⟨two, ?_⟩)
    have k3 : ∀ b o, s2.heap.get? b = some o → (s2.heap.push { cls := .type "tuple", data := .seq ([Value.ref p2, us] : List Value).toArray }).get? b = some o := fun b o e => Heap.get?_push_of_some _ e
    exact hQ _ _ p2 us parr2 (W2.ext (s' := { s2 with heap := s2.heap.push { cls := .type "tuple", data := .seq ([Value.ref p2, us] : List Value).toArray } }) rfl W2.bare (Nat.le_refl _) k3) hg ho (fun b o e => k3 b o (k b o e)) ⟨_, Heap.get?_push_size _ rfl, rfl, _, rfl⟩ (hp2.keeps k3) hl rs
  refine HT.cat_tup ht hp1 (by simp) (fun he => ?_) (fun he => ?_) ?_
  · exact fin _ _ [uk, un] rfl rfl (fun b o e => Heap.get?_push_of_some _ e) ht (by show 2 ≤ B0 + 2; omega)
  · refine fin _ _ ([uk, un] ++ parr) rfl rfl (fun b o e => Heap.get?_push_of_some _ (Heap.get?_push_of_some _ e)) ⟨_, Heap.get?_push_size _ rfl, rfl, _, rfl⟩ ?_
    rw [List.length_append]
    show 2 + parr.length ≤ B0 + 2
    omega
  · show 2 + parr.length ≤ sizeLine
    omega
end
end K23
namespace K23
open PySem PySem.Spec PyProof.Rows L2 GenW Fl
/-- what the generator def leans on -/
structure WT (P : Program) (w : World) (K : PySem.W.Frag) (mg : Str → Option Value) (base : Heap) (f : Addr) (fd : FuncData) (cdv : Value) (fb : Addr) (fdb : FuncData) : Prop where
  W : WFun K f fd cdv
  mW : mg "walk" = some (.ref f)
  mR : mg "range" = none
  mL : mg "len" = none
  mB : mg "bodies_of" = some (.ref fb)
  kB : PySem.W.keepIn K (.ref fb) = true
  bB : Binds K fdb ["statement"] []
  FB : FnOk P w K mg base CX0 1 fb fdb ["statement"] (spBods K)
/-- the generator's whole run -/
def WalkOk (P : Program) (w : World) (K : PySem.W.Frag) (mg : Str → Option Value) (base : Heap) (f : Addr) (cdv : Value) (m : Nat) : Prop :=
  ∀ (L : Addr) (A : Around) (outer : List Env) (Hg : Hp) (p : Stms) (v : V) (Z : Addr → Prop) (Zk : List Addr) (g : Nat) (s : Shared), szR p ≤ m → Stat (GG P w K mg base f cdv Hg L A outer) → Room (2 * m + 4) A → EncR K Hg p v →
    WS (GG P w K mg base f cdv Hg L A outer) Z Zk g [] (start wN [v]) Hg s s →
    SG (GG P w K mg base f cdv Hg L A outer) Z Zk g (2 * m + 1) (allR p) (allR p).length s (.func (defBody sWalk) (wEnv f cdv L)) ((model P w).den (.func (defBody sWalk) (wEnv f cdv L))) [] s
section
variable {P : Program} {w : World} {K : PySem.W.Frag} {mg : Str → Option Value} {base : Heap} {f : Addr} {fd : FuncData} {cdv : Value} {fb : Addr} {fdb : FuncData}
  {Hg : Hp} {L : Addr} {A : Around} {outer : List Env} {Z : Addr → Prop} {Zk : List Addr} {g B : Nat} {fl : List Stm} {pins : List (Addr × Obj)} {σ : L2.St} {H : Hp} {s₀ s : Shared} {n : Nat} {c : Code} {fs : List Frame}
  {KK : Flow → Sem PySem.Fin} {J : Value → Sem PySem.Fin} {gd : Bool → Bool} {lv : List Value → List Value}
theorem seg_genFor {m : Nat} (T : WT P w K mg base f fd cdv fb fdb) (IH : WalkOk P w K mg base f cdv m) (S : Stat (GG P w K mg base f cdv Hg L A outer)) (W : WS (GG P w K mg base f cdv Hg L A outer) Z Zk g pins σ H s₀ s) (hroom : Room (2 * m + 6) A)
    {i j : Nat} {t : Addr} {us : List V} {bv : V} {b : Stms} {pre suf : List Stm} {p1 p2 p3 p4 p5 p6 p7 p8 q1 q2 q3 q4 q5 q6 q7 q8 q9 pos : Pos} {x0 x1 x2 : Nat}
    (e1 : σ[1]? = some (some (.int (i : Nat)))) (e2 : σ[2]? = some (some (.ref t))) (e3 : σ[3]? = some (some (.int (j : Nat)))) (ht : SqT K H t us) (hj : us[j]? = some bv) (henc : EncR K Hg b bv) (hsub : ∀ b u, Hg b = some u → H b = some u) (hsz : szR b ≤ m)
    (gc : GCo (GG P w K mg base f cdv Hg L A outer) c fs gd) (hfl : fl = pre ++ (allR b ++ suf)) (hn : n = (allR b).length + suf.length) (hB : B = 2 * m + 3) (hBz : B ≤ sizeLine)
    (hdone : ∀ (s₀' s' : Shared) (σ' : L2.St), σ'[0]? = σ[0]? → σ'[1]? = σ[1]? → σ'[2]? = σ[2]? → WS (GG P w K mg base f cdv Hg L A outer) Z Zk g pins σ' H s₀' s' → SG (GG P w K mg base f cdv Hg L A outer) Z Zk g B fl suf.length s₀' c (KK .next) fs s') :
    SG (GG P w K mg base f cdv Hg L A outer) Z Zk g B fl n s₀ c ((exec (.For (.Tuple [.Name "path" p1, .Name "statement" p2] x0 p3) (.Call (.Name "walk" p4) [.Subscript (.Name "bodies" p5) (.Name "number" p6) p7] [] p8)
      [.Expr (.Yield (some (.Tuple [.BinOp (.Tuple [.Name "k" q1, .Name "number" q2] x1 q3) .Add (.Name "path" q4) q5, .Name "statement" q6] x2 q7)) q8) q9] [] pos) (GG P w K mg base f cdv Hg L A outer).env).wrap KK J gd lv) fs s := by
  subst hn
  refine segFor_start (by intro _; rfl) ?_
  rw [gc.over]
  have I := W.inv S
  have hp : PA ((GG P w K mg base f cdv Hg L A outer).X H s (pinsAt Zk s.heap)) [.Subscript (.Name "bodies" p5) (.Name "number" p6) p7] _ := pa_cons (pe_ix ix_tup (pv 2) (pv 3) (fun _ _ => rfl)) pa_nil
  refine wpAny_Call_Name_kw (ld_glob I rfl T.mW ?_ (by decide))
  refine PySem.W.callWith_K (h₀ := base) I.ok.mod.kin T.W.kp (wpAny_gsz (n := g + 1) W.gl (wpAny_mono (hp.run p8 pins s σ H (fun vs H' => vs = [bv] ∧ H' = H) I ⟨_, e2, _, e3, t, us, (j : Int), bv, rfl, rfl, ht, atI_nat hj, rfl, rfl⟩) (fun ws s1 ⟨vs, H1, I1, r1, e, eH⟩ hg1 => ⟨I1.kIn, ?_⟩) fun _ _ z _ => z.elim)) rfl rfl
  subst e eH
  obtain ⟨u, rfl, ru⟩ := vals1 r1
  have W1 := W.ran S I1 hg1
  have hA1 : (GG P w K mg base f cdv Hg L A outer).A1.depth < recursionLimit := by
    have := hroom.dp
    show A.depth + 1 < _
    omega
  refine wpAny_call (codeAny_mono (call_walk T.W hA1 I1.kIn I1.nolimit W1.bare) fun r s2 ⟨a, er, ha1, ha2, hgens, hbare, hos, hk, hgen, ma, hns, hma⟩ => ?_)
  subst er
  refine wpAny_pyIter_gen hgen fun pp => ?_
  -- the new frame, the new generator
  have hgi : g < s1.gens.size := hg1
  have W2 : WS (GG P w K mg base f cdv Hg L A outer) Z Zk g pins σ H1 s₀ s2 := W1.ext hos hbare (by rw [hgens, Array.size_push]; exact Nat.le_succ _) hk
  obtain ⟨go, nm, qn, hgo, hgc, hgd, hgs⟩ := hgen
  have hLi : L < s1.heap.objs.size := W1.lt
  have hH : ∀ b, H1 b ≠ none → b < s1.heap.objs.size := fun b hb => by
    cases q : H1 b with
    | none => exact absurd q hb
    | some o => exact W1.hok.lt q
  have hpl : ∀ p ∈ pins, p.1 < s1.heap.objs.size := fun p hp => Heap.lt_size (W1.pin p hp).1
  have hzl : ∀ b ∈ Zk, b < s1.heap.objs.size := fun b hb => let ⟨_, _, o, e, _⟩ := W1.zk b hb; Heap.lt_size e
  have hZl : ∀ b, Z b → b < s1.heap.objs.size := fun b hb => let ⟨o, e⟩ := W1.zs b hb; Heap.lt_size e
  have hbl : ∀ b o, base.get? b = some o → b < s1.heap.objs.size := fun b o e => Heap.lt_size (W1.bs b o e)
  have hnf : ∀ b, s1.heap.objs.size ≤ b → H1 b = none := fun b hb => W1.hok.fresh hb
  have hgn : ∀ b, s1.heap.objs.size ≤ b → Hg b = none := fun b hb => S.hgL b (Nat.le_trans (Nat.le_of_lt hLi) hb)
  have W3 : WS (GG P w K mg base f cdv Hg L A outer) Z Zk g (pins ++ [(a, go)]) σ H1 s₀ s2 := W2.pinned fun p hp => by
    rw [List.mem_singleton.mp hp]
    exact ⟨hgo, hnf a (Nat.le_of_lt ha1), Nat.lt_trans hLi ha1, fun z => Nat.lt_irrefl _ (Nat.lt_trans ha1 (hZl a z)), fun v z => by rw [show go.data = _ from hgd] at z; cases z⟩
  have hpl2 : ∀ p ∈ pins ++ [(a, go)], p.1 < s1.heap.objs.size ∨ p.1 ∈ [a] := fun p hp => (List.mem_append.mp hp).elim (fun z => .inl (hpl p z)) fun z => .inr (by rw [List.mem_singleton.mp z]; exact List.mem_singleton.mpr rfl)
  have hgen : ∀ {s' : Shared} {σ' : L2.St} {s₀' : Shared}, WS (GG P w K mg base f cdv Hg L A outer) Z Zk g (pins ++ [(a, go)]) σ' H1 s₀' s' → s'.heap.get? a = some go ∧ s'.heap.IsGen a s1.gens.size := fun {s' σ' s₀'} W' => by
    have e := (W'.pin (a, go) (List.mem_append_right _ (List.mem_singleton.mpr rfl))).1
    exact ⟨e, go, nm, qn, e, hgc, hgd, hgs⟩
  -- the inner protocol
  let Zi : Addr → Prop := fun b => b = L ∨ b = a ∨ Z b
  let Gi : GD := GG P w K mg base f cdv Hg s1.heap.objs.size (GG P w K mg base f cdv Hg L A outer).A1.in1 ((GG P w K mg base f cdv Hg L A outer).env :: outer)
  have efr : frs ((GG P w K mg base f cdv Hg L A outer).env :: outer) = L :: frs outer := rfl
  have Si : Stat Gi := by
    refine ⟨scWalk, S.mod, S.hd, ?_, Nat.le_trans S.bsz (Nat.le_of_lt hLi), S.hgB, fun b hb => ?_, hgn⟩
    · exact Around.frames_deeper S.fr
    · rw [show Gi.outer = _ from rfl, efr] at hb
      rcases List.mem_cons.mp hb with z | z
      · rw [z]; exact ⟨S.hgL L (Nat.le_refl _), hLi⟩
      · exact ⟨(S.hgO b z).1, Nat.lt_trans (S.hgO b z).2 hLi⟩
  have gl : GCo (GG P w K mg base f cdv Hg L A outer) (.forLoop (.Tuple [.Name "path" p1, .Name "statement" p2] x0 p3) (.ref a) [.Expr (.Yield (some (.Tuple [.BinOp (.Tuple [.Name "k" q1, .Name "number" q2] x1 q3) .Add (.Name "path" q4) q5, .Name "statement" q6] x2 q7)) q8) q9] [] (GG P w K mg base f cdv Hg L A outer).env)
    (.ret (backOf (GG P w K mg base f cdv Hg L A outer).env KK J gd lv) none (gd false) (lv []) c pp [] :: fs) id := gc.loop rfl rfl
  have loop : ∀ (r : Nat) (s₀ s : Shared) (σ' : L2.St) (gs : GenState), σ'[0]? = σ[0]? → σ'[1]? = σ[1]? → σ'[2]? = σ[2]? → σ'[3]? = σ[3]? → s.gens[s1.gens.size]? = some gs →
      gs.Goes (model P w) (GG P w K mg base f cdv Hg L A outer).A1.in1 (WR s1.heap.objs.size (L :: frs outer) [a] s1.gens.size) (WY s1.heap.objs.size (L :: frs outer) [a] Zi s1.gens.size K Hg (2 * m + 1) (allR b)) r (.send .none) (s.setGen s1.gens.size .running) →
      WS (GG P w K mg base f cdv Hg L A outer) Z Zk g (pins ++ [(a, go)]) σ' H1 s₀ s →
      SG (GG P w K mg base f cdv Hg L A outer) Z Zk g B fl (r + suf.length) s₀ (.forLoop (.Tuple [.Name "path" p1, .Name "statement" p2] x0 p3) (.ref a) [.Expr (.Yield (some (.Tuple [.BinOp (.Tuple [.Name "k" q1, .Name "number" q2] x1 q3) .Add (.Name "path" q4) q5, .Name "statement" q6] x2 q7)) q8) q9] [] (GG P w K mg base f cdv Hg L A outer).env)
        ((model P w).den (.forLoop (.Tuple [.Name "path" p1, .Name "statement" p2] x0 p3) (.ref a) [.Expr (.Yield (some (.Tuple [.BinOp (.Tuple [.Name "k" q1, .Name "number" q2] x1 q3) .Add (.Name "path" q4) q5, .Name "statement" q6] x2 q7)) q8) q9] [] (GG P w K mg base f cdv Hg L A outer).env))
        (.ret (backOf (GG P w K mg base f cdv Hg L A outer).env KK J gd lv) none (gd false) (lv []) c pp [] :: fs) s := by
    intro r
    induction r with
    | zero =>
      intro s₀ s σ' gs z0 z1 z2 z3 hgs hgo' W'
      obtain ⟨_, hg⟩ := hgen W'
      refine segFor_turn ?_
      rw [gl.over]
      refine next_genG (F := fun n s₀ s => n = 0 ∧ AllBare s.gens ∧ s1.gens.size < s.gens.size ∧ Kp s1.heap.objs.size (L :: frs outer) [a] s₀ s) (Er := fun _ _ => False) S.hd ((W'.inv S).nolimit) hA1 hg hgs hgo' (fun v sy gs' hb hv => ?_) (fun sy hF h' hk' => ?_) fun e sy z => z.elim
      · obtain ⟨_, b1, _, _, hkap⟩ := hv
        exact (hkap sy (CMv.refl b1)).elim
      · obtain ⟨_, b1, l1, k1⟩ := hF
        have Wr : WS (GG P w K mg base f cdv Hg L A outer) Z Zk g (pins ++ [(a, go)]) σ' H1 s₀ (s.setGen s1.gens.size .running) := W'.ext rfl (allBare_setGen W'.bare rfl) (Nat.le_of_eq (setGen_size _ _ _).symm) fun _ _ e => e
        have Wy := Wr.inner S k1 b1 (Nat.lt_trans hgi l1) hLi hH hpl2 hzl
        have Wz := Wy.ext (s' := { sy.setGen s1.gens.size .finished with heap := h' }) rfl (allBare_setGen b1 rfl) (Nat.le_of_eq (setGen_size _ _ _).symm) hk'
        have Wd := Wz.unpin (less := pins) fun q hq => List.mem_append_left _ hq
        have fin := hdone s₀ _ σ' z0 z1 z2 Wd
        show SG _ Z Zk g B fl (0 + suf.length) s₀ _ _ _ _
        rw [Nat.zero_add]
        exact seg_loopEnd fin
    | succ r ih =>
      intro s₀ s σ' gs z0 z1 z2 z3 hgs hgo' W'
      obtain ⟨_, hg⟩ := hgen W'
      have eidx : r + 1 + suf.length = (r + suf.length) + 1 := by omega
      rw [eidx]
      refine segFor_turn ?_
      rw [gl.over]
      refine next_genG (F := fun n s₀ s => n = 0 ∧ AllBare s.gens ∧ s1.gens.size < s.gens.size ∧ Kp s1.heap.objs.size (L :: frs outer) [a] s₀ s) (Er := fun _ _ => False) S.hd ((W'.inv S).nolimit) hA1 hg hgs hgo' (fun v sy gs' hb hv => ?_) (fun sy hF h' hk' => ?_) fun e sy z => z.elim
      · obtain ⟨k1, b1, l1, ⟨prei, x, sufi, efl, elen, hitem⟩, hkap⟩ := hv
        have elen' : sufi.length = r := elen
        have Wr : WS (GG P w K mg base f cdv Hg L A outer) Z Zk g (pins ++ [(a, go)]) σ' H1 s₀ (s.setGen s1.gens.size .running) := W'.ext rfl (allBare_setGen W'.bare rfl) (Nat.le_of_eq (setGen_size _ _ _).symm) fun _ _ e => e
        have Wy := Wr.inner S k1 b1 (Nat.lt_trans hgi l1) hLi hH hpl2 hzl
        have Wz := Wy.ext (s' := sy.setGen s1.gens.size gs') rfl (allBare_setGen b1 hb) (Nat.le_of_eq (setGen_size _ _ _).symm) fun _ _ e => e
        have hgz : (sy.setGen s1.gens.size gs').gens[s1.gens.size]? = some gs' := setGen_at l1
        obtain ⟨TT, pth, st, parr, xv, rfl, hT, hP, hpB, rxv, hxe⟩ := hitem
        refine go_of (hgen Wz).1 hgc hgd (by decide) ?_
        refine assign_Tuple_tuple S.hd (show IsTup (sy.setGen s1.gens.size gs').heap TT #[.ref pth, st] from hT) rfl rfl fun h' ext => ?_
        show wpAny _ _ (assignInOrder [assign (.Name "path" p1) (GG P w K mg base f cdv Hg L A outer).env, assign (.Name "statement" p2) (GG P w K mg base f cdv Hg L A outer).env] [.ref pth, st]) _ _ _
        have kx : ∀ b o, (sy.setGen s1.gens.size gs').heap.get? b = some o → h'.get? b = some o := fun b o e => ext b o (Nat.ne_of_lt (Heap.lt_size e)) e
        have W4 := Wz.ext (s' := { sy.setGen s1.gens.size gs' with heap := h' }) rfl Wz.bare (Nat.le_refl _) kx
        refine assignInOrder_cons (wpAny_assign_Name (W4.store S (i := 4) (v := .ref pth) rfl rfl fun s5 W5 g5 o5 k5 l5 => ?_))
        refine assignInOrder_cons (wpAny_assign_Name (W5.store S (i := 5) (v := xv) rfl rxv fun s6 W6 g6 o6 k6 l6 => ?_))
        refine assignInOrder_nil ?_
        have hg6 : s6.gens = (sy.setGen s1.gens.size gs').gens := g6.trans g5
        have kk : ∀ b o, b ≠ L → sy.heap.get? b = some o → s6.heap.get? b = some o := fun b o hb e => k6 b o hb (k5 b o hb (kx b o e))
        have hP6 : IsTup s6.heap pth parr.toArray := by
          have hne : pth ≠ L := fun z => by
            subst z
            obtain ⟨m5, ⟨o1, es, ep, q1, q2, _⟩, _⟩ := Wy.loc
            obtain ⟨o2, q3, _, n2, q4⟩ := hP
            have q1' : sy.heap.get? pth = some o1 := q1
            rw [q3] at q1'
            cases q1'
            rw [q2] at q4
            cases q4
          obtain ⟨o2, q3, r3⟩ := hP
          exact ⟨o2, kk _ o2 hne q3, r3⟩
        have lenσ : σ'.length = 6 := W'.len
        refine seg_execs_cons ?_
        refine seg_Expr_Yield gl.split rfl gl.guard ?_ (by rfl) (by rfl)
        rw [gl.over]
        have n1 : ((σ'.set 4 (some (.ref pth))).set 5 (some xv))[1]? = σ[1]? := by rw [List.getElem?_set_ne (by decide), List.getElem?_set_ne (by decide)]; exact z1
        have n3 : ((σ'.set 4 (some (.ref pth))).set 5 (some xv))[3]? = σ[3]? := by rw [List.getElem?_set_ne (by decide), List.getElem?_set_ne (by decide)]; exact z3
        refine eval_item S W6 (parr := parr) (B0 := 2 * m + 1) rfl rfl rfl rfl (n1.trans e1) (n3.trans e3) (by rw [List.getElem?_set_ne (by decide), List.getElem?_set_self (by omega)]) (by rw [List.getElem?_set_self (by rw [List.length_set]; omega)]) hP6 hpB (by omega) fun s7 T2 p2' st2 parr2 W7 g7 o7 k7 hT2 hp2 hl2 rx2 => ?_
        intro kap hkp
        refine ⟨W7.kp, W7.bare, W7.gl, ⟨pre ++ prei, x, sufi ++ suf, ?_, ?_, T2, p2', st2, parr2, xv, rfl, hT2, hp2, ?_, rx2, hxe⟩, fun s8 mv => hkp .none s8 ?_⟩
        · rw [hfl, efl]; simp
        · rw [List.length_append, elen']
        · omega
        · show Seg _ _ _ _ (r + suf.length) s8 _ ((execs [] _).wrap _ _ _ _) _ s8
          refine seg_execs_nil ?_
          have W8 := W7.moved S mv
          have hg8 : s8.gens[s1.gens.size]? = some gs' := mv.gens _ _ hgi (by rw [g7, hg6]; exact hgz)
          refine seg_again rfl (ih s8 s8 _ gs' ?_ ?_ ?_ ?_ hg8 ?_ W8)
          · rw [List.getElem?_set_ne (by decide), List.getElem?_set_ne (by decide)]; exact z0
          · exact n1
          · rw [List.getElem?_set_ne (by decide), List.getElem?_set_ne (by decide)]; exact z2
          · exact n3
          · -- all that was done while the inner one slept
            refine hkap _ ⟨?_, allBare_setGen mv.bare rfl, fun q y hq e => ?_, ?_, fun b' o hb' e => ?_, fun b' o e => ?_⟩
            · exact mv.os.trans (o7.trans (o6.trans o5))
            · have hqn : q ≠ s1.gens.size := Nat.ne_of_gt hq
              have e7 : s7.gens[q]? = some y := by
                rw [g7, hg6]
                show (sy.gens.setIfInBounds s1.gens.size gs')[q]? = some y
                rw [Array.getElem?_setIfInBounds_ne (Ne.symm hqn)]
                exact e
              have e8 := mv.gens q y (Nat.lt_trans hgi hq) e7
              show (s8.gens.setIfInBounds s1.gens.size .running)[q]? = some y
              rw [Array.getElem?_setIfInBounds_ne (Ne.symm hqn)]
              exact e8
            · rw [setGen_size]
              refine Nat.le_trans ?_ mv.size
              rw [g7, hg6, setGen_size]
              exact Nat.le_refl _
            · have h1 : b' ≠ L := fun z => hb' (.inl z)
              have h2 : ¬ Z b' := fun z => hb' (.inr (.inr z))
              exact mv.keep b' o h2 (k7 b' o (kk b' o h1 e))
            · by_cases hbL : b' = L
              · subst hbL
                obtain ⟨o1, q1, m1⟩ := l5 o (kx _ o e)
                obtain ⟨o2, q2, m2⟩ := l6 o1 q1
                obtain ⟨o3, q3, m3⟩ := mv.there _ o2 (k7 _ o2 q2)
                exact ⟨o3, q3, m1.trans (m2.trans m3)⟩
              · exact mv.there b' o (k7 b' o (kk b' o hbL e))
      · obtain ⟨z, _⟩ := hF
        exact absurd z (Nat.succ_ne_zero _)
  refine loop (allR b).length s₀ s2 σ (.fresh (.func (defBody sWalk) (wEnv f cdv s1.heap.objs.size))) rfl rfl rfl rfl (by rw [hgens]; exact Array.getElem?_push_size ..) ⟨rfl, ?_⟩ W3
  -- the inner one's start
  have hroomi : Room (2 * m + 4) (GG P w K mg base f cdv Hg L A outer).A1.in1 := (hroom.deeper _).in1
  refine IH s1.heap.objs.size _ _ Hg b _ Zi [a] s1.gens.size _ hsz Si hroomi henc ?_
  have hkr : ∀ b o, s1.heap.get? b = some o → (s2.setGen s1.gens.size .running).heap.get? b = some o := hk
  have hZi : ∀ b, Zi b → b < s1.heap.objs.size ∨ b = a := fun b hb => by
    rcases hb with z | z | z
    · rw [z]; exact .inl hLi
    · exact .inr z
    · exact .inl (hZl b z)
  have hgsub : ∀ b, H1 b = none → Hg b = none := fun b hb => by
    cases q : Hg b with
    | none => rfl
    | some u => rw [hsub b u q] at hb; cases hb
  refine ⟨allBare_setGen hbare rfl, ⟨ma, hns, fun i' x v h1 h2 => ?_⟩, ?_, fun b u q => W1.frz b u (hsub b u q), fun b o e => S.hgB b o e, fun b hb => (Si.hgO b hb).1, fun b hb => ?_, hgn _ (Nat.le_refl _), fun b o e => hkr b o (W1.bs b o e), ?_, fun p hp => (nomatch hp), fun b hb => ?_, fun b hb => ?_, ?_, rfl, .refl⟩
  · match i', h2 with
    | 0, h2 =>
      have e : v = bv := by
        have q : some (some bv) = some (some v) := h2
        exact (Option.some.inj (Option.some.inj q)).symm
      have ex : x = "program" := (Option.some.inj h1).symm
      subst e ex
      exact ⟨u, ru, hma⟩
    | 1, h2 => exact absurd h2 (by show ¬ (some none = some (some v)); simp)
    | 2, h2 => exact absurd h2 (by show ¬ (some none = some (some v)); simp)
    | 3, h2 => exact absurd h2 (by show ¬ (some none = some (some v)); simp)
    | 4, h2 => exact absurd h2 (by show ¬ (some none = some (some v)); simp)
    | 5, h2 => exact absurd h2 (by show ¬ (some none = some (some v)); simp)
    | k + 6, h2 => exact absurd h2 (by show ¬ (none = some (some v)); simp)
  · exact ((W1.less hsub).hok).kept hkr
  · rcases hb with z | z | z
    · obtain ⟨m5, ⟨o1, es, ep, q1, _⟩, _⟩ := W1.loc
      rw [z]
      exact ⟨o1, hkr _ o1 q1⟩
    · rw [z]; exact ⟨go, hgo⟩
    · obtain ⟨o, e⟩ := W1.zs b z
      exact ⟨o, hkr b o e⟩
  · obtain ⟨m5, hn5, _⟩ := W3.loc
    refine .cons (by show (defScope sWalk).kind ≠ _; rw [scWalk.kind]; decide) rfl hn5 ?_ W3.funs
    exact Heap.get?_none_of_le S.bsz
  · rcases hb with z | z | z
    · rw [z]
      exact ⟨S.hgL L (Nat.le_refl _), Nat.ne_of_lt hLi, Heap.get?_none_of_le S.bsz, .inl hLi⟩
    · rw [z]
      exact ⟨hgn a (Nat.le_of_lt ha1), Nat.ne_of_gt ha1, Heap.get?_none_of_le (Nat.le_trans S.bsz (Nat.le_of_lt (Nat.lt_trans hLi ha1))), .inr (List.mem_singleton.mpr rfl)⟩
    · exact ⟨hgsub b (W1.zn b z).1, Nat.ne_of_lt (hZl b z), (W1.zn b z).2.2.1, .inl (hZl b z)⟩
  · rw [List.mem_singleton.mp hb]
    exact ⟨.inr (.inl rfl), ha1, go, hgo, fun v z => by rw [show go.data = _ from hgd] at z; cases z⟩
  · rw [setGen_size, hgens, Array.size_push]
    exact Nat.lt_succ_self _
end
end K23
namespace K23
open PySem PySem.Spec PyProof.Rows L2 GenW Fl
theorem szS_pos : ∀ s : Stm, 1 ≤ szS s := by
  intro s
  cases s <;> simp [szS]
theorem lenR_le : ∀ p : Stms, lenR p ≤ szR p
  | .nil => Nat.le_refl _
  | .cons s r => by
    have h1 := lenR_le r
    have h2 := szS_pos s
    show lenR r + 1 ≤ szS s + szR r
    omega
theorem szR_get : ∀ {p : Stms} {i : Nat} {s : Stm}, getR p i = some s → szS s ≤ szR p
  | .nil, _, _, h => by cases h
  | .cons s r, 0, s', h => by
    cases h
    show szS s ≤ szS s + szR r
    omega
  | .cons s r, i + 1, s', h => by
    have := szR_get (p := r) (i := i) h
    show szS s' ≤ szS s + szR r
    omega
theorem szS_bods : ∀ {s : Stm} {b : Stms}, b ∈ bodsS s → szR b + 1 ≤ szS s := by
  intro s b h
  cases s <;> simp [bodsS] at h <;> simp [szS]
  case ite c a d => rcases h with h | h <;> subst h <;> omega
  case whl l c a => subst h; omega
  case forl l a => subst h; omega
  case tryf a d => rcases h with h | h <;> subst h <;> omega
  case block a => subst h; omega
def rLen (K : PySem.W.Frag) : List V → Hp → VK → Prop := fun xs H Q => ∃ p ys, xs = [V.ref p] ∧ (SqL K H p ys ∨ SqT K H p ys) ∧ Q (V.int ((ys.length : Nat) : Int)) H
theorem call_len {X : Cx} : CallR X (.builtin "len") (rLen X.K) := call_len_seq
theorem sizeLine_big : 100000 ≤ sizeLine := by decide
section
variable {P : Program} {w : World} {K : PySem.W.Frag} {mg : Str → Option Value} {base : Heap} {f : Addr} {fd : FuncData} {cdv : Value} {fb : Addr} {fdb : FuncData}
theorem SqT.new {H : Hp} {a p : Addr} {xs : List V} {o : HO} (h : SqT K H a xs) (hp : H p = none) : SqT K (upd H p o) a xs := TK.new hp o a xs h
theorem walk_ok (T : WT P w K mg base f fd cdv fb fdb) : ∀ m : Nat, WalkOk P w K mg base f cdv m := by
  intro m
  induction m with
  | zero =>
    intro L A outer Hg p v Z Zk g s hsz S hroom henc W
    have hp : p = .nil := by
      cases p with
      | nil => rfl
      | cons a r =>
        have h1 := szS_pos a
        have h2 : szS a + szR r ≤ 0 := hsz
        omega
    subst hp
    obtain ⟨pa, us, rfl, hT, hx⟩ := henc
    have hx' : us = [] := hx
    subst hx'
    refine seg_func (seg_execs_cons ?_)
    refine seg_rangeW S (x := "k") (ti := 1) rfl (by intro _; rfl) (fun H s pz => pi_range1 rfl T.mR (pa_cons (pe_callB call_len rfl T.mL PySem.boot_len (pa_cons (pv 0) pa_nil)) pa_nil)) (wi := iRng1 (tCons (tCB (rLen K) (tCons (tVar 0) tNil)) tNil)) (cnt := 0) ⟨over_func, rfl, rfl, rfl⟩ W
      (fun R hR => ⟨_, rfl, pa, [], rfl, .inr hT, _, rfl, by decide, by decide, hR⟩) (fun i n σ => n = 0) rfl (fun i n s₀ s σ c' fs' K' J' pins' hi => absurd hi (Nat.not_lt_zero _)) (fun n s₀ s σ hn W' => ?_)
    subst hn
    refine seg_execs_nil ?_
    exact seg_end (.ok (.ret .none)) (.inl ⟨.inl rfl, rfl, W'.bare, W'.gl, W'.kp⟩)
  | succ m IH =>
    intro L A outer Hg p v Z Zk g s hsz S hroom henc W
    obtain ⟨pa, us, rfl, hT, hx⟩ := henc
    have hm : m < 400 := by
      have := hroom.dp
      have e : recursionLimit = 1000 := rfl
      omega
    have hlen : us.length = lenR p := hx.len
    have hle := lenR_le p
    have hSz := sizeLine_big
    have hr1 : Room 1 ((GG P w K mg base f cdv Hg L A outer).A1) := (hroom.mono (by omega : 2 ≤ 2 * (m + 1) + 4)).deeper _
    refine seg_func (seg_execs_cons ?_)
    refine seg_rangeW S (x := "k") (ti := 1) rfl (by intro _; rfl) (fun H s pz => pi_range1 rfl T.mR (pa_cons (pe_callB call_len rfl T.mL PySem.boot_len (pa_cons (pv 0) pa_nil)) pa_nil)) (wi := iRng1 (tCons (tCB (rLen K) (tCons (tVar 0) tNil)) tNil)) (cnt := us.length) ⟨over_func, rfl, rfl, rfl⟩ W
      (fun R hR => ⟨_, rfl, pa, us, rfl, .inr hT, _, rfl, by omega, by omega, hR⟩)
      (fun i n σ => σ[0]? = some (some (.ref pa)) ∧ ∃ pre, allR p = pre ++ allR (dropR p i) ∧ n = (allR (dropR p i)).length) ⟨rfl, [], by cases p <;> rfl, by cases p <;> rfl⟩ (fun i n s₀ s σ c' fs' K' J' pins' hi hP W1 gl cont => ?_) (fun n s₀ s σ hP W' => ?_)
    · obtain ⟨e0, pre, epre, en⟩ := hP
      obtain ⟨st, hst⟩ := getR_lt (ss := p) (i := i) (by omega)
      have hd := dropR_get hst
      have eall : allR (dropR p i) = st :: (subS st ++ allR (dropR p (i + 1))) := by rw [hd]; rfl
      rw [eall] at epre en
      obtain ⟨u, hu, hus⟩ := hx.get hst
      subst en
      have lenσ : (σ.set 1 (some (.int (i : Nat)))).length = 6 := W1.len
      have lenσ' : σ.length = 6 := by rw [List.length_set] at lenσ; exact lenσ
      have d0 : (σ.set 1 (some (.int (i : Nat))))[0]? = some (some (.ref pa)) := by rw [List.getElem?_set_ne (by decide)]; exact e0
      have d1 : (σ.set 1 (some (.int (i : Nat))))[1]? = some (some (.int (i : Nat))) := List.getElem?_set_self (by omega)
      -- yield ((k,), program[k])
      refine seg_execs_cons ?_
      refine seg_Expr_Yield gl.split rfl gl.guard ?_ (by rfl) (by rfl)
      rw [gl.over]
      have hp : ∀ (x0 x1 : Nat) (a1 a2 a3 a4 a5 a6 : Pos), PE ((GG P w K mg base f cdv Hg L A outer).X Hg s (pinsAt Zk s.heap)) (.Tuple [.Tuple [.Name "k" a1] x0 a2, .Subscript (.Name "program" a3) (.Name "k" a4) a5] x1 a6) _ := fun _ _ _ _ _ _ _ _ => pe_tup (pa_cons (pe_tup (pa_cons (pv 1) pa_nil)) (pa_cons (pe_ix ix_tup (pv 0) (pv 1) (fun _ _ => rfl)) pa_nil))
      refine wpAny_gsz (n := g + 1) W1.gl (wpAny_mono ((hp _ _ _ _ _ _ _ _).run _ s _ Hg (fun x H1 => ∃ (TT q : Addr), x = .ref TT ∧ H1 TT = some (.tup [.ref q, u]) ∧ H1 q = some (.tup [.int (i : Nat)])) (W1.inv S)
        ⟨_, d1, (by show 1 ≤ sizeLine; omega), fun q hq => ⟨_, d0, _, d1, pa, us, (i : Int), u, rfl, rfl, SqT.new hT hq, atI_nat hu, (by show 2 ≤ sizeLine; omega), fun TT hTT => ⟨TT, q, rfl, upd_same, by rw [upd_ne (ne_of_none (upd_same) hTT)]; exact upd_same⟩⟩⟩) (fun v s1 hv hg1 => ?_) fun _ _ z _ => z.elim)
      obtain ⟨xv, H1, I1, rv, TT, q, rfl, hT1, hq1⟩ := hv
      obtain rfl : v = Value.ref TT := rv
      have W2 := W1.ran S I1 hg1
      intro kap hkp
      obtain ⟨_, its, rits, hTT⟩ := I1.hok TT _ hT1
      obtain ⟨_, itq, ritq, hqq⟩ := I1.hok q _ hq1
      obtain ⟨uq, ust, rfl, ruq, rust⟩ := vals2 rits
      obtain rfl : uq = Value.ref q := ruq
      obtain ⟨ui, rfl, rui⟩ := vals1 ritq
      refine ⟨W2.kp, W2.bare, W2.gl, ⟨pre, st, subS st ++ allR (dropR p (i + 1)), epre, rfl, TT, q, ust, [ui], u, rfl, hTT, hqq, ?_, rust, hus⟩, fun s8 mv => hkp .none s8 ?_⟩
      · show 1 ≤ 2 * (m + 1) + 1
        omega
      have W8 := W2.moved S mv
      show Seg _ _ _ _ ((subS st ++ allR (dropR p (i + 1))).length) s8 _ ((execs _ _).wrap _ _ _ _) _ s8
      -- bodies = bodies_of(program[k])
      refine seg_execs_cons ?_
      refine seg_wrap ?_
      rw [gl.over]
      have hs : ∀ (a1 a2 a3 a4 a5 a6 a7 : Pos), PS ((GG P w K mg base f cdv Hg L A outer).X Hg s8 (pinsAt Zk s8.heap)) (.Assign [.Name "bodies" a1] (.Call (.Name "bodies_of" a2) [.Subscript (.Name "program" a3) (.Name "k" a4) a5] [] a6) a7) _ := fun _ _ _ _ _ _ _ => ps_set (i := 2) scWalk.nd rfl (Or.inl rfl) (pe_call T.FB hr1 rfl T.mB T.kB T.bB .nil pass0 (pa_cons (pe_ix ix_tup (pv 0) (pv 1) (fun _ _ => rfl)) pa_nil))
      refine wpAny_gsz (n := g + 1) W8.gl (wpAny_mono ((hs _ _ _ _ _ _ _).run _ s8 _ Hg { nx := fun σ' H' => ∃ (t : Addr) (us' : List V), σ' = (σ.set 1 (some (.int (i : Nat)))).set 2 (some (.ref t)) ∧ Hg t = none ∧ H' t = some (.tup us') ∧ EncBs K Hg (bodsS st) us', rt := fun _ _ => False } (W8.inv S)
        ⟨_, d0, _, d1, pa, us, (i : Int), u, rfl, rfl, hT, atI_nat hu, u, st, Hg, rfl, TK.refl, hus, fun t us' H' _ h1 h2 h3 => ⟨t, us', rfl, h1, h2, h3⟩⟩) (fun ff s9 hv hg9 => ?_) fun _ _ z _ => z.elim)
      cases ff with
      | ret _ => obtain ⟨_, _, _, _, _, z⟩ := hv; exact z.elim
      | brk => obtain ⟨_, _, _, z⟩ := hv; exact z.elim
      | cont => obtain ⟨_, _, _, z⟩ := hv; exact z.elim
      | next =>
      obtain ⟨σ9, H9, I9, t, us', rfl, ht0, ht9, hbs⟩ := hv
      obtain ⟨ot, W9⟩ := WS.track S W8 I9 hg9 ht0 ht9
      have hTt : SqT K (upd Hg t (.frz ot (.tup us'))) t us' := .inl (.inr ⟨ot, upd_same⟩)
      have hsub : ∀ b u, Hg b = some u → upd Hg t (.frz ot (.tup us')) b = some u := fun b u e => by rw [upd_ne (ne_of_none e ht0)]; exact e
      have hlb : us'.length = (bodsS st).length := hbs.len
      have hlb2 : (bodsS st).length ≤ 2 := by cases st <;> simp [bodsS]
      have c0 : (((σ.set 1 (some (.int (i : Nat)))).set 2 (some (.ref t))) : L2.St)[0]? = some (some (.ref pa)) := by rw [List.getElem?_set_ne (by decide)]; exact d0
      have c1 : (((σ.set 1 (some (.int (i : Nat)))).set 2 (some (.ref t))) : L2.St)[1]? = some (some (.int (i : Nat))) := by rw [List.getElem?_set_ne (by decide)]; exact d1
      have c2 : (((σ.set 1 (some (.int (i : Nat)))).set 2 (some (.ref t))) : L2.St)[2]? = some (some (.ref t)) := List.getElem?_set_self (by omega)
      have efl : allR p = (pre ++ [st]) ++ ((((bodsS st).drop 0).flatMap allR) ++ allR (dropR p (i + 1))) := by
        rw [epre, List.drop_zero, ← subS_bods]; simp
      have hszst : szS st ≤ m + 1 := Nat.le_trans (szR_get hst) hsz
      -- for number in range(len(bodies))
      refine seg_execs_cons ?_
      refine seg_rangeW S (x := "number") (ti := 3) rfl (by intro _; rfl) (fun H s pz => pi_range1 rfl T.mR (pa_cons (pe_callB call_len rfl T.mL PySem.boot_len (pa_cons (pv 2) pa_nil)) pa_nil)) (wi := iRng1 (tCons (tCB (rLen K) (tCons (tVar 2) tNil)) tNil)) (cnt := us'.length) gl W9
        (fun R hR => ⟨_, c2, t, us', rfl, .inr hTt, _, rfl, by omega, by omega, hR⟩)
        (fun j n σ => σ[0]? = some (some (.ref pa)) ∧ σ[1]? = some (some (.int (i : Nat))) ∧ σ[2]? = some (some (.ref t)) ∧ ∃ pre2, allR p = pre2 ++ ((((bodsS st).drop j).flatMap allR) ++ allR (dropR p (i + 1))) ∧ n = ((((bodsS st).drop j).flatMap allR) ++ allR (dropR p (i + 1))).length)
        ⟨c0, c1, c2, pre ++ [st], efl, by rw [List.drop_zero, ← subS_bods]⟩ (fun j n s₀ s σj c'' fs'' K'' J'' pins'' hj hP2 Wj glj contj => ?_) (fun n s₀ s σj hP2 W' => ?_)
      · obtain ⟨j0, j1, j2, pre2, efl2, en2⟩ := hP2
        have hj' : j < (bodsS st).length := by omega
        obtain ⟨b, hb⟩ : ∃ b, (bodsS st)[j]? = some b := ⟨(bodsS st)[j], List.getElem?_eq_getElem hj'⟩
        have edrop : (bodsS st).drop j = b :: (bodsS st).drop (j + 1) := by
          have q := List.getElem?_eq_getElem hj'
          rw [hb] at q
          have q2 := Option.some.inj q
          rw [q2]
          exact List.drop_eq_getElem_cons hj'
        obtain ⟨bv, hbv, hbe⟩ := hbs.get hb
        have lenj : (σj.set 3 (some (.int (j : Nat)))).length = 6 := Wj.len
        have lenj' : σj.length = 6 := by rw [List.length_set] at lenj; exact lenj
        rw [edrop, List.flatMap_cons, List.append_assoc] at efl2 en2
        have hszb : szR b ≤ m := by
          have := szS_bods (List.mem_of_getElem? hb)
          omega
        refine seg_execs_cons ?_
        refine seg_genFor (m := m) T IH S Wj (hroom.mono (by omega)) (i := i) (j := j) (t := t) (us := us') (bv := bv) (b := b) (pre := pre2) (suf := (((bodsS st).drop (j + 1)).flatMap allR) ++ allR (dropR p (i + 1)))
          (by rw [List.getElem?_set_ne (by decide)]; exact j1) (by rw [List.getElem?_set_ne (by decide)]; exact j2) (List.getElem?_set_self (by omega)) hTt hbv hbe hsub hszb glj efl2 (by rw [en2, List.length_append]) (by omega) (by omega) (fun s₀' s' σ' z0 z1 z2 W' => ?_)
        refine seg_execs_nil (contj _ s₀' s' σ' ⟨?_, ?_, ?_, pre2 ++ allR b, ?_, rfl⟩ W')
        · rw [z0, List.getElem?_set_ne (by decide)]; exact j0
        · rw [z1, List.getElem?_set_ne (by decide)]; exact j1
        · rw [z2, List.getElem?_set_ne (by decide)]; exact j2
        · rw [efl2]; simp
      · obtain ⟨j0, j1, j2, pre2, efl2, en2⟩ := hP2
        have e0 : (bodsS st).drop us'.length = [] := by rw [hlb]; exact List.drop_length
        rw [e0] at efl2 en2
        refine seg_execs_nil (cont n s₀ s σj ⟨j0, pre2, efl2, en2⟩ (W'.less hsub))
    · obtain ⟨e0, pre, epre, en⟩ := hP
      have hnil : dropR p us.length = .nil := dropR_end (by omega)
      rw [hnil] at en
      have en' : n = 0 := en
      subst en'
      refine seg_execs_nil ?_
      exact seg_end (.ok (.ret .none)) (.inl ⟨.inl rfl, rfl, W'.bare, W'.gl, W'.kp⟩)
end
end K23
namespace K23
open PySem PySem.Spec PyProof.Rows L2 GenW Fl
/-- the tuples alone, each by its object -/
def frzH (H : Hp) (h : Heap) : Hp := fun b => match H b with
  | some (.tup xs) => (h.get? b).map fun o => .frz o (.tup xs)
  | some (.frz o (.tup xs)) => some (.frz o (.tup xs))
  | _ => none
theorem frzH_none {H : Hp} {h : Heap} {b : Addr} (e : H b = none) : frzH H h b = none := by
  unfold frzH
  rw [e]
theorem frzH_tup {H : Hp} {h : Heap} {b : Addr} {xs : List V} {o : Obj} (e : H b = some (.tup xs)) (g : h.get? b = some o) : frzH H h b = some (.frz o (.tup xs)) := by
  unfold frzH
  rw [e]
  show Option.map _ (h.get? b) = _
  rw [g]
  rfl
theorem frzH_frz {H : Hp} {h : Heap} {b : Addr} {xs : List V} {o : Obj} (e : H b = some (.frz o (.tup xs))) : frzH H h b = some (.frz o (.tup xs)) := by
  unfold frzH
  rw [e]
theorem frzH_inv {H : Hp} {h : Heap} {b : Addr} {u : HO} (e : frzH H h b = some u) : ∃ o xs, u = .frz o (.tup xs) ∧ ((H b = some (.tup xs) ∧ h.get? b = some o) ∨ H b = some (.frz o (.tup xs))) := by
  unfold frzH at e
  split at e
  · rename_i xs hx
    cases q : h.get? b with
    | none => rw [q] at e; cases e
    | some o =>
      rw [q] at e
      cases e
      exact ⟨o, xs, rfl, .inl ⟨hx, rfl⟩⟩
  · rename_i o xs hx
    cases e
    exact ⟨o, xs, rfl, .inr hx⟩
  · cases e
section
variable {P : Program} {w : World} {K : PySem.W.Frag} {H : Hp} {h : Heap}
theorem frzH_ok (ok : HOk P w H h) : HOk P w (frzH H h) h := fun b u e => by
  obtain ⟨o, xs, rfl, q⟩ := frzH_inv e
  rcases q with ⟨q1, q2⟩ | q
  · exact ⟨q2, ok b _ q1⟩
  · exact ok b _ q
theorem frzH_tk (ok : HOk P w H h) : TK K H (frzH H h) := fun b xs q => by
  rcases q with (q | ⟨o, q⟩) | q
  · obtain ⟨_, _, _, o, e, _⟩ := ok b _ q
    exact .inl (.inr ⟨o, frzH_tup q e⟩)
  · exact .inl (.inr ⟨o, frzH_frz q⟩)
  · exact .inr q
end
def isLet : Stm → Bool
  | .letf _ _ => true
  | _ => false
theorem isLet_kind (s : Stm) : (kindS s == ("let" : Str)) = isLet s := by
  cases s <;> (simp only [kindS, isLet]; decide +kernel)
def cntL (l : List Stm) : Nat := (l.filter isLet).length
theorem cntL_app (a b : List Stm) : cntL (a ++ b) = cntL a + cntL b := by
  unfold cntL
  rw [List.filter_append, List.length_append]
theorem cntL_cons (s : Stm) (b : List Stm) : cntL (s :: b) = (if isLet s = true then 1 else 0) + cntL b := by
  unfold cntL
  rw [List.filter_cons]
  split <;> simp [Nat.add_comm]
mutual
theorem cnt_subS : ∀ s : Stm, (if isLet s = true then 1 else 0) + cntL (subS s) = letsS s
  | .call _ => rfl
  | .letf _ _ => rfl
  | .setf _ _ => rfl
  | .ite _ a b => by
    have h1 := cnt_allR a
    have h2 := cnt_allR b
    show 0 + cntL (allR a ++ allR b) = letsR a + letsR b
    rw [cntL_app]; omega
  | .whl _ _ a => by
    have h1 := cnt_allR a
    show 0 + cntL (allR a) = letsR a
    omega
  | .forl _ a => by
    have h1 := cnt_allR a
    show 0 + cntL (allR a) = letsR a
    omega
  | .brk _ => rfl
  | .cont _ => rfl
  | .ret _ => rfl
  | .tryf a b => by
    have h1 := cnt_allR a
    have h2 := cnt_allR b
    show 0 + cntL (allR a ++ allR b) = letsR a + letsR b
    rw [cntL_app]; omega
  | .block a => by
    have h1 := cnt_allR a
    show 0 + cntL (allR a) = letsR a
    omega
theorem cnt_allR : ∀ p : Stms, cntL (allR p) = letsR p
  | .nil => rfl
  | .cons s r => by
    have h1 := cnt_subS s
    have h2 := cnt_allR r
    show cntL (s :: (subS s ++ allR r)) = letsS s + letsR r
    rw [cntL_cons, cntL_app]; omega
end
mutual
theorem letsS_le_szS : ∀ s : Stm, letsS s ≤ szS s
  | .call _ => Nat.zero_le _
  | .letf _ _ => Nat.le_refl _
  | .setf _ _ => Nat.zero_le _
  | .ite _ a b => by
    have h1 := letsR_le_szR a
    have h2 := letsR_le_szR b
    show letsR a + letsR b ≤ szR a + szR b + 1
    omega
  | .whl _ _ a => Nat.le_succ_of_le (letsR_le_szR a)
  | .forl _ a => Nat.le_succ_of_le (letsR_le_szR a)
  | .brk _ => Nat.zero_le _
  | .cont _ => Nat.zero_le _
  | .ret _ => Nat.zero_le _
  | .tryf a b => by
    have h1 := letsR_le_szR a
    have h2 := letsR_le_szR b
    show letsR a + letsR b ≤ szR a + szR b + 1
    omega
  | .block a => Nat.le_succ_of_le (letsR_le_szR a)
theorem letsR_le_szR : ∀ p : Stms, letsR p ≤ szR p
  | .nil => Nat.le_refl _
  | .cons s r => Nat.add_le_add (letsS_le_szS s) (letsR_le_szR r)
end
theorem pushCells_none : ∀ (names : List (Str × NameKind)) (h : Heap), (∀ y ∈ names, y.2 ≠ .cell) → pushCells h names = h
  | [], _, _ => rfl
  | (x, k) :: r, h, hn => by
    have hk : ¬ (k == NameKind.cell) = true := fun z => hn (x, k) List.mem_cons_self (by simpa using z)
    unfold pushCells
    rw [if_neg hk]
    exact pushCells_none r h fun y hy => hn y (List.mem_cons_of_mem _ hy)
/-- the list of what the names' paths are -/
def tLets (K : PySem.W.Frag) (m i : Nat) : TS := fun D σ H => ∃ (v : V) (p : Stms), σ[0]? = some (some v) ∧ EncR K H p v ∧ szR p ≤ m ∧
  ∀ (d : Addr) (xs : List V), H d = none → xs.length = letsR p → D.nx (σ.set i (some (.ref d))) (upd H d (.lst xs))
section
variable {X : Cx} {f : Addr} {fd : FuncData} {cdv : Value} {fb : Addr} {fdb : FuncData}
theorem ps_lets {m i : Nat} {y : Str} {scope : Scope} {py p1 p2 p3 p4 p5 p6 p7 p8 p9 pa pb pc pos spos : Pos} {x0 c0 c1 : Nat} (T : WT X.prog X.w X.K X.mg X.base f fd cdv fb fdb) (hr : Room (2 * m + 6) X.A) (hm : m ≤ 400) (hc : X.calm = true) (hN : X.N.Nodup) (hy : X.N[i]? = some y) (hyl : X.env.scope.names.lookup y = some .local)
    (hpg : X.N[0]? = some ("program" : Str)) (hpv : Vis X.env.scope "program") (hgl : Gl X "walk") (hk : scope.kind = .function) (hon : ∀ z ∈ scope.names, z.2 = .local ∧ scope.names.lookup z.1 = some .local) (hl1 : scope.names.lookup ("path" : Str) = some .local) (hl2 : scope.names.lookup ("statement" : Str) = some .local)
    (hsw : swapsWith (.ListComp (.Name "path" p1) [⟨.Tuple [.Name "path" p2, .Name "statement" p3] x0 p4, .Call (.Name "walk" p5) [.Name "program" p6] [] p7, [.Compare (.Subscript (.Name "statement" p8) (.Constant (.int 0) c0 p9) pa) [.Eq] [.Constant (.str "let") c1 pb] pc], 0⟩] scope pos) (some (.Name y py)) spos.line X.env = pure true) :
    PS X (.Assign [.Name y py] (.ListComp (.Name "path" p1) [⟨.Tuple [.Name "path" p2, .Name "statement" p3] x0 p4, .Call (.Name "walk" p5) [.Name "program" p6] [] p7, [.Compare (.Subscript (.Name "statement" p8) (.Constant (.int 0) c0 p9) pa) [.Eq] [.Constant (.str "let") c1 pb] pc], 0⟩] scope pos) spos) (tLets X.K m i) := by
  refine ⟨fun pins s σ H D I h => ?_⟩
  obtain ⟨v, p, e0, henc, hsz, hfin⟩ := h
  rw [exec_Assign_Name_used _ _ _ _ hsw]
  refine wpAny_bind (wpAny_standAt (wpAny_bind ?_))
  refine wpAny_bind (wpAny_mono (Q := fun _ s' => SP X pins D .next s') ?_ (fun _ s' hq => wpAny_pure (wpAny_pure hq)) fun _ _ z => z)
  have nofree : ∀ z ∈ scope.names, z.2 = .free → ∃ c, X.env.cells.lookup z.1 = some c := fun z hz e => by rw [(hon z hz).1] at e; cases e
  refine wpAny_comprehension_free (use := some (assign (.Name y py) X.env)) rfl (by intro _; rfl) (closure_ok nofree) hk (fun z hz _ => (hon z hz).2) ?_
  -- the generator is made
  have hp : PA X [.Name "program" p6] _ := pa_cons (pe_var hpg hpv) pa_nil
  refine wpAny_Call_Name_kw (ld_glob I hgl T.mW ?_ (by decide))
  refine PySem.W.callWith_K (h₀ := X.base) I.ok.mod.kin T.W.kp (thn (hp.run p7 pins s σ H (fun vs H' => vs = [v] ∧ H' = H) I ⟨_, e0, rfl, rfl⟩) fun ws s1 ⟨vs, H1, I1, r1, e, eH⟩ => ⟨I1.kIn, ?_⟩) rfl rfl
  subst e eH
  obtain ⟨u, rfl, ru⟩ := vals1 r1
  have hA : X.A.depth < recursionLimit := hr.depth
  refine wpAny_call (codeAny_mono (call_walk T.W hA I1.kIn I1.nolimit I1.bare) fun r s2 ⟨a, er, ha1, ha2, hgens, hbare, hos, hk2, hgen, ma, hns, hma⟩ => ?_)
  subst er
  refine wpAny_pyIter_gen hgen ?_
  -- the new list
  refine wpAny_newObj_type (newEnv_comp ?_) (by show 0 ≤ sizeLine; decide)
  generalize hD : s2.heap.objs.size = d
  have nocell : ∀ z ∈ scope.names, z.2 ≠ .cell := fun z hz e => by rw [(hon z hz).1] at e; cases e
  rw [pushCells_none _ _ nocell]
  generalize hs3 : ({ s2 with heap := s2.heap.push { cls := .type "list", data := .seq ([] : List Value).toArray } } : Shared) = s3
  have g3 : s3.gens = s2.gens := by rw [← hs3]
  have o3 : s3.os = s2.os := by rw [← hs3]
  have h3 : s3.heap = s2.heap.push { cls := .type "list", data := .seq ([] : List Value).toArray } := by rw [← hs3]
  have sz3 : s3.heap.objs.size = d + 1 := by rw [h3, Heap.size_push, hD]
  generalize hC : s3.heap.objs.size = C
  show codeAny _ _ (.compStart _ 0 (.ref a) (.ref d) (compEnvC scope (cellsFrom (C + 1) scope.names (cloFrom X.env.cells scope.names [])) C X.env)) (compPost (model X.prog X.w) X.A X.xe (some (assign (.Name y py) X.env)) _ (.ref d) C) { s3 with heap := s3.heap.push { cls := .type "dict", data := .dict #[] } }
  generalize hs4 : ({ s3 with heap := s3.heap.push { cls := .type "dict", data := .dict #[] } } : Shared) = s4
  have g4 : s4.gens = s2.gens := by rw [← hs4]; exact g3
  have o4 : s4.os = s1.os := by rw [← hs4]; exact o3.trans hos
  have h4 : s4.heap = s3.heap.push { cls := .type "dict", data := .dict #[] } := by rw [← hs4]
  have k24 : ∀ b o, s2.heap.get? b = some o → s4.heap.get? b = some o := fun b o e => by
    rw [h4, h3]
    exact Heap.get?_push_of_some _ (Heap.get?_push_of_some _ e)
  have k14 : ∀ b o, s1.heap.get? b = some o → s4.heap.get? b = some o := fun b o e => k24 b o (hk2 b o e)
  generalize hce : compEnvC scope (cellsFrom (C + 1) scope.names (cloFrom X.env.cells scope.names [])) C X.env = ce
  have ceL : ce.locals = C := by rw [← hce]; rfl
  have ceK : ce.scope.kind = .function := by rw [← hce]; exact hk
  have cel : ∀ x, scope.names.lookup x = some .local → ce.kindOf x = some .local := fun x hx => by
    rw [← hce]
    exact lookup_relabel_local hx
  have hcls : (ce.scope.kind == .class || (ce.scope.kind == .module && ce.locals != ce.globals)) = false := by rw [ceK]; rfl
  -- where all stands
  generalize hLL : s1.heap.objs.size = L at *
  have lad : a < d := by rw [← hD]; exact ha2
  have ldC : d < C := by rw [← hC, sz3]; exact Nat.lt_succ_self _
  have hLd : L < d := Nat.lt_trans ha1 lad
  have hLC : L < C := Nat.lt_trans hLd ldC
  obtain ⟨go, nm, qn, hgo, hgc, hgd, hgs⟩ := hgen
  have d4 : s4.heap.get? d = some { cls := .type "list", data := .seq ([] : List Value).toArray } := by
    rw [h4]
    refine Heap.get?_push_of_some _ ?_
    rw [h3, ← hD]
    exact Heap.get?_push_size _ rfl
  have C4 : s4.heap.Ns C (fun _ => none) := by
    rw [h4, ← hC]
    exact Heap.Ns.new ..
  have hgn : ∀ b, L ≤ b → H1 b = none := fun b hb => I1.hok.fresh (by rw [hLL]; exact hb)
  have hfrl : ∀ b ∈ frs X.stack, b < L := fun b hb => by
    obtain ⟨_, o, ho, _⟩ := I1.stack.mem hb
    rw [← hLL]
    exact Heap.lt_size ho
  have hbse : ∀ b o, X.base.get? b = some o → b < L := fun b o e => by
    rw [← hLL]
    exact Heap.lt_size (I1.bk b o e)
  -- the generator's side
  let Hg : Hp := frzH H1 s1.heap
  let Z : Addr → Prop := fun b => b = a ∨ b = d ∨ b = C
  have eZ : ∀ b, Z b → b ∈ [a, d, C] ∧ L < b := fun b hb => by
    rcases hb with z | z | z
    · subst z; exact ⟨by simp, ha1⟩
    · subst z; exact ⟨by simp, hLd⟩
    · subst z; exact ⟨by simp, hLC⟩
  let G : GD := GG X.prog X.w X.K X.mg X.base f cdv Hg L X.A.in1 X.stack
  have hbszL : X.base.objs.size ≤ L := by
    rw [← hLL]
    exact Nat.le_trans I1.ok.bsz I1.sz
  have SG0 : Stat G := ⟨scWalk, I1.ok.mod, I1.ok.hd hc, I1.ok.frames, hbszL, fun b o e => frzH_none (I1.bs b o e).2, fun b hb => ⟨frzH_none (I1.stkFree b hb), hfrl b hb⟩, fun b hb => frzH_none (hgn b hb)⟩
  have bnone : ∀ b, L ≤ b → X.base.get? b = none := fun b hb => Heap.get?_none_of_le (Nat.le_trans hbszL hb)
  have nolim : ∀ {s : Shared}, Kp L (frs X.stack) [] s1 s → s.heap.NoLimit := fun {s} k => I1.ok.mod.nolimit.keeps fun b o e => k.keep b o (.inl (hbse b o e)) (fun z => by
    have := (I1.stack.mem z).1
    rw [e] at this; cases this) (I1.bk b o e)
  have isg : ∀ {s : Shared}, s.heap.get? a = some go → s.heap.IsGen a s1.gens.size := fun {s} e => ⟨go, nm, qn, e, hgc, hgd, hgs⟩
  refine codeAny_compStart_list ?run (wpAny_pyIter_gen (isg (k24 a go hgo)) ?run)
  refine compLoop_any (fun n' s' => ∃ (gs : GenState) (its : List Value) (xs : List V) (cc : Nat) (m' : Str → Option Value) (pre suf : List Stm), allR p = pre ++ suf ∧ suf.length = n' ∧ xs.length = cntL pre ∧ Vals xs its ∧ (s'.gens[s1.gens.size]? = some gs) ∧
        gs.Goes (model X.prog X.w) X.A.in1 (WR L (frs X.stack) [a, d, C] s1.gens.size) (WY L (frs X.stack) [a, d, C] Z s1.gens.size X.K Hg (2 * m + 1) (allR p)) n' (.send .none) (s'.setGen s1.gens.size .running) ∧ AllBare s'.gens ∧ Kp L (frs X.stack) [] s1 s' ∧
        s'.heap.get? a = some go ∧ s'.heap.get? d = some { cls := .type "list", data := .seq its.toArray cc } ∧ s'.heap.Ns C m') ?turn (allR p).length ?start
  case turn =>
    rintro n s ⟨gs, its, xs, cc, m', pre, suf, q1, q2, q3, q4, q5, q6, q7, q8, q9, qa, qb⟩
    refine thnF (Q := _) (next_genG (E := fun _ _ => False) (F := fun n s₀ s => n = 0 ∧ AllBare s.gens ∧ s1.gens.size < s.gens.size ∧ Kp L (frs X.stack) [a, d, C] s₀ s) (Er := fun _ _ => False) (Q := fun r s' => match r with
        | none => ∃ sy h', n = 0 ∧ AllBare sy.gens ∧ Kp L (frs X.stack) [a, d, C] (s.setGen s1.gens.size .running) sy ∧ (∀ b o, sy.heap.get? b = some o → h'.get? b = some o) ∧ s' = { sy.setGen s1.gens.size .finished with heap := h' }
        | some v => ∃ sy gs', gs'.bare = true ∧ s' = sy.setGen s1.gens.size gs' ∧ WY L (frs X.stack) [a, d, C] Z s1.gens.size X.K Hg (2 * m + 1) (allR p) (n - 1) (s.setGen s1.gens.size .running) v sy (fun r' s'' => match n with
          | 0 => False
          | k + 1 => gs'.Goes (model X.prog X.w) X.A.in1 (WR L (frs X.stack) [a, d, C] s1.gens.size) (WY L (frs X.stack) [a, d, C] Z s1.gens.size X.K Hg (2 * m + 1) (allR p)) k r' s'')) (I1.ok.hd hc) (nolim q8) hA (isg q9) q5 q6
      (fun v sy gs' hb hv => ⟨sy, gs', hb, rfl, hv⟩) (fun sy hF h' hk' => ⟨sy, h', hF.1, hF.2.1, hF.2.2.2, hk', rfl⟩) fun e sy z => z.elim) fun r s6 h6 => ?_
    have kweak : ∀ {sy : Shared}, Kp L (frs X.stack) [a, d, C] (s.setGen s1.gens.size .running) sy → Kp L (frs X.stack) [] s1 sy := fun {sy} k =>
      q8.trans ⟨k.os, fun b o hb hf e => k.keep b o (hb.elim .inl fun z => nomatch z) hf e, fun b o hb e => k.slot b o hb e⟩
    have notf : ∀ b, L < b → b ∉ frs X.stack := fun b hb z => Nat.lt_irrefl _ (Nat.lt_trans hb (hfrl b z))
    have kz : ∀ {sy : Shared}, Kp L (frs X.stack) [a, d, C] (s.setGen s1.gens.size .running) sy → ∀ b o, b ∈ [a, d, C] → L < b → s.heap.get? b = some o → sy.heap.get? b = some o := fun {sy} k b o hb hl e => k.keep b o (.inr hb) (notf b hl) e
    cases r with
    | none =>
      obtain ⟨sy, h', hn, b1, k1, hk', rfl⟩ := h6
      subst hn
      have hsuf : suf = [] := List.length_eq_zero_iff.mp q2
      rw [hsuf, List.append_nil] at q1
      have hlen : xs.length = letsR p := by rw [q3, ← q1, cnt_allR]
      have kq := kweak k1
      have ed : h'.get? d = some { cls := .type "list", data := .seq its.toArray cc } := hk' _ _ (kz k1 d _ (by simp) hLd qa)
      have hlz : xs.length ≤ sizeLine := by
        have h2 := letsR_le_szR p
        have := sizeLine_big
        omega
      -- back in the def
      have I7 : Inv X pins σ (upd H1 d (.lst xs)) { sy.setGen s1.gens.size .finished with heap := h' } := by
        have hdn : H1 d = none := hgn d (Nat.le_of_lt hLd)
        have kk : ∀ b o, b < L → b ∉ frs X.stack → s1.heap.get? b = some o → h'.get? b = some o := fun b o hb hf e => hk' b o (kq.keep b o (.inl hb) hf e)
        refine I1.call' (ch := []) (kq.os) ⟨fun b o e n hf _ => kk b o (by rw [← hLL]; exact Heap.lt_size e) hf e, fun b o e n hf _ => ?_, fun b o e n _ => ?_, fun b o e _ => ?_, fun b ys q => ?_, fun b o u q => ?_, fun b ps q => ⟨#[], ?_⟩⟩ (fun b u q => ?_) (allBare_setGen b1 rfl) fun b z => by simp at z
        · obtain ⟨sl, e2⟩ := kq.slot b o hf e
          exact ⟨sl, hk' _ _ e2⟩
        · rw [upd_ne (Nat.ne_of_lt (Nat.lt_trans (by rw [← hLL]; exact Heap.lt_size e) hLd))]; exact n
        · by_cases hf : b ∈ frs X.stack
          · obtain ⟨sl, e2⟩ := kq.slot b o hf e
            exact ⟨_, hk' _ _ e2⟩
          · exact ⟨o, kk b o (by rw [← hLL]; exact Heap.lt_size e) hf e⟩
        · rw [upd_ne (ne_of_none q hdn)]; exact q
        · rw [upd_ne (ne_of_none q hdn)]; exact q
        · rw [upd_ne (ne_of_none q hdn), q]; simp
        · by_cases hb : b = d
          · subst hb
            rw [upd_same] at q
            cases q
            exact ⟨hlz, its, cc, q4, ed⟩
          · rw [upd_ne hb] at q
            have hlt : ∀ c v, H1 c = some v → c < L ∧ c ∉ frs X.stack := fun c v e => ⟨by rw [← hLL]; exact I1.hok.lt e, fun z => by rw [I1.stkFree c z] at e; cases e⟩
            refine (I1.hok b u q).stay (fun c v hc e => ?_) (fun c e => by rw [upd_ne (ne_of_none e hdn)]; exact e) fun c ys e => by rw [upd_ne (ne_of_none e hdn)]; exact e
            rcases hc with z | z
            · subst z; exact kk _ v (hlt _ _ q).1 (hlt _ _ q).2 e
            · exact kk _ v (hlt _ _ z).1 (hlt _ _ z).2 e
      have nC : upd H1 d (.lst xs) C = none := by rw [upd_ne (Nat.ne_of_gt ldC)]; exact hgn C (Nat.le_of_lt hLC)
      obtain ⟨f0, f1, f2, f3, f4, f5⟩ := I1.fpOk (H' := upd H1 d (.lst xs)) (b := C) (by rw [hLL]; exact Nat.le_of_lt hLC) nC
      have hnC : ({ sy.setGen s1.gens.size .finished with heap := h' } : Shared).heap.Ns C m' := by
        obtain ⟨oC, es, ep, eC, rC⟩ := qb
        exact ⟨oC, es, ep, hk' _ _ (kz k1 C _ (by simp) hLC eC), rC⟩
      show wpAny _ _ (assign (.Name y py) X.env (.ref d)) _ _ _
      refine wpAny_assign_Name (store_ok2 (v := V.ref d) I7 hN hy (.inl hyl) rfl (fun s8 I8 ⟨a8, sb, ha8⟩ => ?_) (.inr hyl))
      have haC : C ≠ a8 := by
        rcases ha8 with z | z
        · rw [z]; exact f1
        · exact fun e => f4 y a8 z e.symm
      refine ⟨m', hnC.sameBut sb haC, fun h9 sb9 => ?_⟩
      exact ⟨_, upd H1 d (.lst xs), I8.turned (t' := s8.toks) (fun b o hb e => (sb9.2 b hb).trans e) f0 f1 f3 f4 f5, hfin d xs (hgn d (Nat.le_of_lt hLd)) hlen⟩
    | some vv =>
      obtain ⟨sy, gs', hb, rfl, hv⟩ := h6
      obtain ⟨k1, b1, l1, ⟨prei, x, sufi, efl, elen, TT, pth, st, parr, xv, rfl, hT, hP, hpB, rxv, hxe⟩, hkap⟩ := hv
      cases n with
      | zero => exact (hkap sy (CMv.refl b1)).elim
      | succ n =>
      have elen' : sufi.length = n := elen
      have hpre : pre = prei ∧ suf = x :: sufi := by
        have e := q1.symm.trans efl
        exact List.append_inj' e (by rw [q2, List.length_cons, elen'])
      obtain ⟨rfl, rfl⟩ := hpre
      have aS : ∀ b o, sy.heap.get? b = some o → (sy.setGen s1.gens.size gs').heap.get? b = some o := fun _ _ e => e
      have ea := kz k1 a go (by simp) ha1 q9
      have ed := kz k1 d _ (by simp) hLd qa
      refine go_of (s := sy.setGen s1.gens.size gs') ea hgc hgd (by decide) ?_
      refine assign_Tuple_tuple (I1.ok.hd hc) (show IsTup (sy.setGen s1.gens.size gs').heap TT #[.ref pth, st] from hT) rfl rfl fun h' ext => ?_
      show wpAny _ _ (assignInOrder [assign (.Name "path" p2) ce, assign (.Name "statement" p3) ce] [.ref pth, st]) _ _ _
      have kx : ∀ b o, sy.heap.get? b = some o → h'.get? b = some o := fun b o e => ext b o (Nat.ne_of_lt (Heap.lt_size e)) e
      have nC5 : ({ sy.setGen s1.gens.size gs' with heap := h' } : Shared).heap.Ns ce.locals m' := by
        rw [ceL]
        obtain ⟨oC, es, ep, eC, rC⟩ := qb
        exact ⟨oC, es, ep, kx _ _ (kz k1 C _ (by simp) hLC eC), rC⟩
      refine assignInOrder_cons (wpAny_assign_Name (wpAny_storeName_local (cel _ hl1) nC5 (fun h6 n6 sb6 => ?_) hcls))
      refine assignInOrder_cons (wpAny_assign_Name (wpAny_storeName_local (cel _ hl2) n6 (fun h7 n7 sb7 => ?_) hcls))
      refine assignInOrder_nil ?_
      rw [ceL] at sb6 sb7
      have k57 : ∀ b o, b ≠ C → sy.heap.get? b = some o → h7.get? b = some o := fun b o hb e => (sb7.2 b hb).trans ((sb6.2 b hb).trans (kx b o e))
      have mst : (fun x => if x = ("statement" : Str) then some st else (fun x => if x = ("path" : Str) then some (Value.ref pth) else m' x) x) ("statement" : Str) = some st := if_pos rfl
      have mpa : (fun x => if x = ("statement" : Str) then some st else (fun x => if x = ("path" : Str) then some (Value.ref pth) else m' x) x) ("path" : Str) = some (Value.ref pth) := by
        show (if ("path" : Str) = ("statement" : Str) then some st else if ("path" : Str) = ("path" : Str) then some (Value.ref pth) else m' _) = _
        rw [if_neg (by decide), if_pos rfl]
      -- the test: statement[0] == "let"
      obtain ⟨ax, rx, rfl, hax⟩ := hxe.kind
      obtain rfl : st = Value.ref ax := rxv
      have htup : ∃ its2 : List Value, Vals (.str (kindS x) :: rx) its2 ∧ IsTup h7 ax its2.toArray := by
        rcases hax with (hax | ⟨oo, hax⟩) | ⟨oo, its2, nn, hk3, hc3, hs3', hz3, r3⟩
        · obtain ⟨_, _, z, _⟩ := frzH_inv hax
          cases z
        · obtain ⟨o2, xs2, z, q⟩ := frzH_inv hax
          cases z
          have hlt : ax < L ∧ ax ∉ frs X.stack := by
            have e9 : ∃ u, H1 ax = some u := by
              rcases q with ⟨q, _⟩ | q
              · exact ⟨_, q⟩
              · exact ⟨_, q⟩
            obtain ⟨u9, e9⟩ := e9
            exact ⟨by rw [← hLL]; exact I1.hok.lt e9, fun z => by rw [I1.stkFree ax z] at e9; cases e9⟩
          obtain ⟨_, hz, its2, r2, o3, e3, c3⟩ := frzH_ok I1.hok ax _ hax
          exact ⟨its2, r2, o3, k57 ax o3 (Nat.ne_of_lt (Nat.lt_trans hlt.1 hLC)) ((kweak k1).keep ax o3 (.inl hlt.1) hlt.2 e3), c3⟩
        · refine ⟨its2.toList, r3, oo, ?_, hc3, nn, by simpa using hs3'⟩
          have kin : X.K.In sy.heap := I1.ok.mod.kin.keeps fun b o e => (kweak k1).keep b o (.inl (hbse b o e)) (fun z => by
            have := (I1.stack.mem z).1
            rw [e] at this; cases this) (I1.bk b o e)
          have e3 := kin ax oo hk3
          refine k57 ax oo (fun z => ?_) e3
          have e1 := I1.kIn ax oo hk3
          have := Heap.lt_size e1
          rw [hLL, z] at this
          exact Nat.lt_irrefl _ (Nat.lt_trans this hLC)
      obtain ⟨its2, r2, hT2⟩ := htup
      obtain ⟨us0, rr2⟩ : ∃ t, its2[0]? = some (Value.str (kindS x) t) := by
        cases r2 with
        | cons hh tt =>
          obtain ⟨t, rfl⟩ := hh
          exact ⟨t, rfl⟩
      have hlen2 := r2.length
      refine wpAny_tests_one (wpAny_isTrue_Compare1 ?_ rfl)
      refine Subscript_ (wpAny_Name (wpAny_loadName_local ceK (cel _ hl2) n7 mst (wpAny_Constant_int ?_)))
      obtain ⟨j, hj1, hj2, _⟩ := atI_get (atI_nat (j := 0) rr2)
      refine subscriptTail_builtinR (x := Value.str (kindS x) us0) hT2.typeIs slot_tuple_getitem.lookup (PyProof.Rows.getItem_tuple (j := j) hT2 (by decide) (by decide) (by rw [List.size_toArray]; exact hj1) (by simpa using hj2) ⟨rfl, ?_⟩) rfl
      refine Calls.Constant_str (PyProof.Rows.eq_str (wpAny_truthy_bool ?_))
      rw [isLet_kind x]
      -- the turn's end
      have fin : ∀ (s9 : Shared) (its' : List Value) (xs' : List V) (cc' : Nat) (m'' : Str → Option Value), s9.gens = (sy.setGen s1.gens.size gs').gens → s9.os = sy.os → (∀ b o, b ≠ C → b ≠ d → sy.heap.get? b = some o → s9.heap.get? b = some o) →
          s9.heap.get? d = some { cls := .type "list", data := .seq its'.toArray cc' } → s9.heap.Ns C m'' → xs'.length = cntL (pre ++ [x]) → Vals xs' its' →
          ∃ k, k < n + 1 ∧ ∃ (gs : GenState) (its : List Value) (xs : List V) (cc : Nat) (m' : Str → Option Value) (pre suf : List Stm), allR p = pre ++ suf ∧ suf.length = k ∧ xs.length = cntL pre ∧ Vals xs its ∧ (s9.gens[s1.gens.size]? = some gs) ∧
            gs.Goes (model X.prog X.w) X.A.in1 (WR L (frs X.stack) [a, d, C] s1.gens.size) (WY L (frs X.stack) [a, d, C] Z s1.gens.size X.K Hg (2 * m + 1) (allR p)) k (.send .none) (s9.setGen s1.gens.size .running) ∧ AllBare s9.gens ∧ Kp L (frs X.stack) [] s1 s9 ∧
            s9.heap.get? a = some go ∧ s9.heap.get? d = some { cls := .type "list", data := .seq its.toArray cc } ∧ s9.heap.Ns C m' := by
        intro s9 its' xs' cc' m'' hg9 ho9 k9 ed9 nC9 hl9 hv9
        have hb9 : AllBare s9.gens := by rw [hg9]; exact allBare_setGen b1 hb
        have nlt : ∀ b, b < L → b ≠ C ∧ b ≠ d := fun b hb => ⟨Nat.ne_of_lt (Nat.lt_trans hb hLC), Nat.ne_of_lt (Nat.lt_trans hb hLd)⟩
        have mv : CMv Z s1.gens.size sy (s9.setGen s1.gens.size .running) := by
          refine ⟨ho9, allBare_setGen hb9 rfl, fun q y hq e => ?_, ?_, fun b o hz e => ?_, fun b o e => ?_⟩
          · have hqn : q ≠ s1.gens.size := Nat.ne_of_gt hq
            show (s9.gens.setIfInBounds s1.gens.size .running)[q]? = some y
            rw [Array.getElem?_setIfInBounds_ne (Ne.symm hqn), hg9]
            show (sy.gens.setIfInBounds s1.gens.size gs')[q]? = some y
            rw [Array.getElem?_setIfInBounds_ne (Ne.symm hqn)]
            exact e
          · rw [setGen_size, hg9, setGen_size]
            exact Nat.le_refl _
          · exact k9 b o (fun z => hz (.inr (.inr z))) (fun z => hz (.inr (.inl z))) e
          · by_cases hbC : b = C
            · subst hbC
              obtain ⟨o1, es, ep, e1, d1, _⟩ := nC9
              exact ⟨o1, e1, ⟨fun _ vs z => (by rw [d1] at z; cases z), fun _ v z => (by rw [d1] at z; cases z)⟩⟩
            · by_cases hbd : b = d
              · subst hbd
                exact ⟨_, ed9, ⟨fun _ vs z => (by cases z), fun _ v z => (by cases z)⟩⟩
              · exact ⟨o, k9 b o hbC hbd e, .refl⟩
        refine ⟨n, Nat.lt_succ_self n, gs', its', xs', cc', m'', pre ++ [x], sufi, by rw [q1]; simp, elen', hl9, hv9, ?_, hkap _ mv, hb9, ?_, ?_, ed9, nC9⟩
        · rw [hg9]; exact setGen_at l1
        · exact (kweak k1).trans ⟨ho9, fun b o hbl _ e => k9 b o (nlt b (hbl.elim id fun z => nomatch z)).1 (nlt b (hbl.elim id fun z => nomatch z)).2 e, fun b o hbf e => ⟨o.slots, k9 b o (nlt b (hfrl b hbf)).1 (nlt b (hfrl b hbf)).2 e⟩⟩
        · exact k9 a go (Nat.ne_of_lt (Nat.lt_trans lad ldC)) (Nat.ne_of_lt lad) ea
      have ed7 : h7.get? d = some { cls := .type "list", data := .seq its.toArray cc } := k57 d _ (Nat.ne_of_lt ldC) ed
      obtain ⟨m7, n7'⟩ : ∃ m7, h7.Ns C m7 := ⟨_, by rw [← ceL]; exact n7⟩
      cases hx : isLet x with
      | false =>
        rw [if_neg Bool.false_ne_true]
        exact fin _ its xs cc _ rfl rfl (fun b o hb _ e => k57 b o hb e) ed7 n7' (by rw [q3, cntL_app, cntL_cons, hx]; simp [cntL]) q4
      | true =>
        rw [if_pos rfl]
        refine wpAny_Name (wpAny_loadName_local ceK (cel _ hl1) n7 mpa ?_)
        have hz : its.toArray.size ≤ sizeLine := by
          have h1 := q4.length
          have h2 : cntL pre ≤ letsR p := by rw [← cnt_allR, q1, cntL_app]; omega
          have h3 := letsR_le_szR p
          have := sizeLine_big
          rw [List.size_toArray]
          omega
        refine append_at (hsz := hz) (show _ = _ from ed7) fun h8 sb8 e8 => ?_
        refine fin _ (its ++ [.ref pth]) (xs ++ [.ref pth]) (cc + 1) _ rfl rfl (fun b o hb hbd e => (sb8.2 b hbd).trans (k57 b o hb e)) (by rw [e8]; simp) (n7'.sameBut sb8 (Nat.ne_of_gt ldC)) (by rw [List.length_append, q3, cntL_app, cntL_cons, hx]; simp [cntL]) (q4.append (.cons (show RelV (V.ref pth) (Value.ref pth) from rfl) .nil))
  case start =>
    refine ⟨.fresh (.func (defBody sWalk) (wEnv f cdv L)), [], [], 0, _, [], allR p, rfl, rfl, rfl, .nil, ?_, ⟨rfl, ?_⟩, ?_, ?_, k24 a go hgo, d4, C4⟩
    · rw [g4, hgens]
      exact Array.getElem?_push_size ..
    · have hbr : AllBare (s4.setGen s1.gens.size .running).gens := allBare_setGen (by rw [g4]; exact hbare) rfl
      refine walk_ok T m L X.A.in1 X.stack Hg p v Z [a, d, C] s1.gens.size _ hsz SG0 ((hr.mono (by omega : 2 * m + 4 + 1 ≤ 2 * m + 6)).in1) (EncR.mono (frzH_tk I1.hok) p henc) ?_
      refine ⟨hbr, ⟨ma, hns.keeps k24, fun i' x v' h1 h2 => ?_⟩, (frzH_ok I1.hok).kept k14, fun b u q => ?_, fun b o e => frzH_none (I1.bs b o e).2, fun b hb => frzH_none (I1.stkFree b hb), fun b hb => ?_, frzH_none (hgn L (Nat.le_refl _)), fun b o e => k14 b o (I1.bk b o e), funs_there (fun b o _ e => ⟨o, k14 b o e, .refl⟩) I1.stack, fun p hp => (nomatch hp),
        fun b hb => ⟨frzH_none (hgn b (Nat.le_of_lt (eZ b hb).2)), Nat.ne_of_gt (eZ b hb).2, bnone b (Nat.le_of_lt (eZ b hb).2), .inr (eZ b hb).1⟩, fun b hb => ?_, ?_, rfl, .refl⟩
      · match i', h2 with
        | 0, h2 =>
          have e : v' = v := by
            have q : some (some v) = some (some v') := h2
            exact (Option.some.inj (Option.some.inj q)).symm
          have ex : x = "program" := (Option.some.inj h1).symm
          subst e ex
          exact ⟨u, ru, hma⟩
        | 1, h2 => exact absurd h2 (by show ¬ (some none = some (some v')); simp)
        | 2, h2 => exact absurd h2 (by show ¬ (some none = some (some v')); simp)
        | 3, h2 => exact absurd h2 (by show ¬ (some none = some (some v')); simp)
        | 4, h2 => exact absurd h2 (by show ¬ (some none = some (some v')); simp)
        | 5, h2 => exact absurd h2 (by show ¬ (some none = some (some v')); simp)
        | k + 6, h2 => exact absurd h2 (by show ¬ (none = some (some v')); simp)
      · obtain ⟨o, xs, e, _⟩ := frzH_inv q
        exact ⟨o, xs, e⟩
      · rcases hb with z | z | z
        · rw [z]; exact ⟨go, k24 a go hgo⟩
        · rw [z]; exact ⟨_, d4⟩
        · obtain ⟨oC, _, _, eC, _⟩ := C4
          rw [z]; exact ⟨oC, eC⟩
      · have hb' : b = a ∨ b = d ∨ b = C := by simpa using hb
        refine ⟨hb', (eZ b hb').2, ?_⟩
        rcases hb' with z | z | z
        · subst z; exact ⟨go, k24 _ go hgo, fun v z => by rw [hgd] at z; cases z⟩
        · subst z; exact ⟨_, d4, fun v z => by cases z⟩
        · subst z
          obtain ⟨oC, _, _, eC, dC, _⟩ := C4
          exact ⟨oC, eC, fun v z => by rw [dC] at z; cases z⟩
      · rw [setGen_size, g4, hgens, Array.size_push]
        exact Nat.lt_succ_self _
    · rw [g4]; exact hbare
    · exact ⟨o4, fun b o _ _ e => k14 b o e, fun b o _ e => ⟨o.slots, k14 b o e⟩⟩
end
end K23
namespace K23
open PySem PySem.Spec PyProof.Rows L2 Fl
class Stp (P : Prop) (R : outParam Prop) : Prop where
  go : R → P
section
variable {σ : L2.St} {H : Hp} {Q : VK} {ta tb te : TE} {D : Ends} {t u : TS} {K : PySem.W.Frag}
instance {v : V} : Stp (tC v σ H Q) (Q v H) := ⟨id⟩
instance {r : R2} : Stp (tOp r ta tb σ H Q) (ta σ H fun x H1 => tb σ H1 fun y H2 => r x y H2 Q) := ⟨id⟩
instance {g : Int → Int → V} {i j : Int} : Stp (rI0 g (.int i) (.int j) H Q) (Q (g i j) H) := ⟨st_i0⟩
instance {Q : Bool → Hp → Prop} : Stp (tTest ta σ H Q) (ta σ H fun x H' => ∃ k, x = .bl k ∧ Q k H') := ⟨id⟩
instance {Q : Bool → Hp → Prop} : Stp (tB ta σ H Q) (ta σ H fun x H' => ∃ k, x = .bl k ∧ Q k H') := ⟨id⟩
instance {Q : Bool → Hp → Prop} {c : TT} : Stp (tNot c σ H Q) (c σ H fun c H1 => Q (!c) H1) := ⟨id⟩
instance {Q : Bool → Hp → Prop} {a b : TT} : Stp (tOr a b σ H Q) (a σ H fun c H1 => if c = true then Q true H1 else b σ H1 Q) := ⟨id⟩
instance {Q : Bool → Hp → Prop} {a b : TT} : Stp (tAnd a b σ H Q) (a σ H fun c H1 => if c = true then b σ H1 Q else Q false H1) := ⟨id⟩
instance : Stp (tIsN ta σ H Q) (ta σ H fun x H1 => Q (.bl (decide (x = .non))) H1) := ⟨id⟩
instance : Stp (tNotN ta σ H Q) (ta σ H fun x H1 => Q (.bl (!decide (x = .non))) H1) := ⟨id⟩
instance {c : TT} : Stp (tIfS c t u D σ H) (c σ H fun b H1 => if b = true then t D σ H1 else u D σ H1) := ⟨id⟩
instance : Stp (tSeq t u D σ H) (t { D with nx := u D } σ H) := ⟨id⟩
instance {g : TG} : Stp (tAsg te g D σ H) (te σ H fun x H1 => g x σ H1 D.nx) := ⟨id⟩
instance {i : Nat} {v : V} {Q : L2.St → Hp → Prop} : Stp (gName i v σ H Q) (Q (σ.set i (some v)) H) := ⟨id⟩
instance : Stp (tRet te D σ H) (te σ H D.rt) := ⟨id⟩
instance : Stp (tRetN D σ H) (D.rt .non H) := ⟨id⟩
instance : Stp (tNext D σ H) (D.nx σ H) := ⟨id⟩
instance : Stp (tBreak D σ H) (D.bk σ H) := ⟨id⟩
instance : Stp (tCont D σ H) (D.ct σ H) := ⟨id⟩
instance : Stp (tDrop te D σ H) (te σ H fun _ H1 => D.nx σ H1) := ⟨id⟩
instance {Q : List V → Hp → Prop} : Stp (tNil σ H Q) (Q [] H) := ⟨id⟩
instance {Q : List V → Hp → Prop} {tr : TA} : Stp (tCons ta tr σ H Q) (ta σ H fun x H1 => tr σ H1 fun xs H2 => Q (x :: xs) H2) := ⟨id⟩
instance {r : List V → Hp → VK → Prop} {tr : TA} : Stp (tCB r tr σ H Q) (tr σ H fun vs H1 => r vs H1 Q) := ⟨id⟩
instance {sp : Sp} {E : XK} {tr : TA} : Stp (tCall sp [] E tr σ H Q) (tr σ H fun vs H1 => sp (vs ++ []) H1 Q E) := ⟨id⟩
instance {tr : TA} : Stp (tTup tr σ H Q) (tr σ H fun xs H1 => xs.length ≤ sizeLine ∧ ∀ p, H1 p = none → Q (.ref p) (upd H1 p (.tup xs))) := ⟨id⟩
instance {tr : TA} : Stp (tLst tr σ H Q) (tr σ H fun xs H1 => xs.length ≤ sizeLine ∧ ∀ p, H1 p = none → Q (.ref p) (upd H1 p (.lst xs))) := ⟨id⟩
instance {T : String} {r : V → List V → Hp → VK → Prop} {tr : TA} : Stp (tBM K T r ta tr σ H Q) (ta σ H fun x H1 => tyV K T x H1 ∧ tr σ H1 fun xs H2 => r x xs H2 Q) := ⟨id⟩
instance {T : String} {r : V → List V → Hp → VK → Prop} : Stp (tBM0 K T r ta σ H Q) (ta σ H fun x H1 => tyV K T x H1 ∧ r x [] H1 Q) := ⟨id⟩
end
local macro_rules | `(tactic| ac_rfl) => `(tactic| (
  first
    | with_reducible refine Stp.go ?_
    | with_reducible refine st_var (by with_unfolding_all exact rfl) ?_
    | with_reducible refine st_ixt (by with_unfolding_all assumption) (by with_unfolding_all exact rfl) ?_
    | with_reducible refine st_ixl (by with_unfolding_all assumption) (by with_unfolding_all exact rfl) ?_
    | with_reducible refine st_eq (by with_unfolding_all exact rfl) ?_
    | with_reducible refine st_bl ?_
    | with_reducible refine ifb_t ?_
    | with_reducible refine ifb_f ?_
    | with_reducible refine ifs_no (by decide +kernel) ?_
    | with_reducible refine ifs_yes rfl ?_
    | with_reducible refine ifs_yes lab_rfl ?_
    | with_reducible refine ifs_yes num_rfl ?_
    | with_reducible refine ifn_no (by decide +kernel) ?_
    | with_reducible refine ifn_yes rfl ?_
    | with_reducible refine ifnb_t ?_
    | with_reducible refine ifnb_f ?_
    | with_reducible refine st_ne (by with_unfolding_all exact rfl) ?_
    | with_reducible refine st_ix0 (by with_unfolding_all assumption) ?_))
/-- the built-in names that are no module's names -/
structure BN (mg : Str → Option Value) : Prop where
  len : mg "len" = none
  range : mg "range" = none
  reversed : mg "reversed" = none
  tuple : mg "tuple" = none
  list : mg "list" = none
  str : mg "str" = none
  int : mg "int" = none
  abs : mg "abs" = none
  max : mg "max" = none
  min : mg "min" = none
  repr : mg "repr" = none
  sum : mg "sum" = none
  any : mg "any" = none
  isinstance : mg "isinstance" = none
theorem scBods : FnScope ["statement", "kind"] ["statement"] (defScope (top 8)) := ⟨rfl, rfl, rfl, by decide +kernel, rfl, by decide +kernel, by decide +kernel⟩
section
variable {P : Program} {w : World} {K : PySem.W.Frag} {mg : Str → Option Value} {base : Heap} {f : Addr} {fd : FuncData}
theorem ok_bods (D : DA K mg "bodies_of" (top 8) ["statement"] f fd) : FnOk P w K mg base CX0 1 f fd ["statement"] (spBods K) := by
  refine D.F.ok scBods (fun vs H Q E h => ?_) (fun cdv A outer s H vs Q E hr h => ?_)
  · obtain ⟨v, s, Hq, rfl, _⟩ := h
    rfl
  obtain ⟨v, st, Hq, rfl, hk, he, q⟩ := h
  refine ⟨_, (pss_cons (ps_set (i := 1) scBods.nd rfl (Or.inl rfl) (pe_ix ix_tup (pv 0) pe_int (fun _ _ => rfl)))
      (pss_cons (ps_if (pt_cmpR op_eq (pv 1) pe_str (nomark _)) (pss_one (ps_ret (pe_tup (pa_cons (pe_ix ix_tup (pv 0) pe_int (fun _ _ => rfl)) (pa_cons (pe_ix ix_tup (pv 0) pe_int (fun _ _ => rfl)) pa_nil))))) pss_nil)
      (pss_cons (ps_if (pt_cmpR op_eq (pv 1) pe_str (nomark _)) (pss_one (ps_ret (pe_tup (pa_cons (pe_ix ix_tup (pv 0) pe_int (fun _ _ => rfl)) pa_nil)))) pss_nil)
      (pss_cons (ps_if (pt_cmpR op_eq (pv 1) pe_str (nomark _)) (pss_one (ps_ret (pe_tup (pa_cons (pe_ix ix_tup (pv 0) pe_int (fun _ _ => rfl)) pa_nil)))) pss_nil)
      (pss_cons (ps_if (pt_cmpR op_eq (pv 1) pe_str (nomark _)) (pss_one (ps_ret (pe_tup (pa_cons (pe_ix ix_tup (pv 0) pe_int (fun _ _ => rfl)) (pa_cons (pe_ix ix_tup (pv 0) pe_int (fun _ _ => rfl)) pa_nil))))) pss_nil)
      (pss_cons (ps_if (pt_cmpR op_eq (pv 1) pe_str (nomark _)) (pss_one (ps_ret (pe_tup (pa_cons (pe_ix ix_tup (pv 0) pe_int (fun _ _ => rfl)) pa_nil)))) pss_nil)
      (pss_one (ps_ret (pe_tup pa_nil))))))))), ?_⟩
  have fin : ∀ (us : List V), us.length ≤ 2 → EncBs K Hq (bodsS st) us → us.length ≤ sizeLine ∧ ∀ p, H p = none → Q (.ref p) (upd H p (.tup us)) := fun us hl hb => ⟨small3 (by omega), fun p hp => q p us _ (same_new hp _) hp upd_same hb⟩
  cases st with
  | ite c a b =>
    obtain ⟨u, p1, p2, ps, qs, ⟨a0, rfl, h0⟩, h1, h2, h3, h4, h5⟩ := he
    have h0' := hk _ _ h0
    repeat ac_rfl
    exact fin [.ref p1, .ref p2] (Nat.le_refl 2) ⟨_, _, rfl, ⟨p1, ps, rfl, h2, h3⟩, _, _, rfl, ⟨p2, qs, rfl, h4, h5⟩, rfl⟩
  | whl l c a =>
    obtain ⟨u, p1, ps, ⟨a0, rfl, h0⟩, h1, h2, h3⟩ := he
    have h0' := hk _ _ h0
    repeat ac_rfl
    exact fin [.ref p1] (Nat.le_succ 1) ⟨_, _, rfl, ⟨p1, ps, rfl, h2, h3⟩, rfl⟩
  | forl l a =>
    obtain ⟨p1, ps, ⟨a0, rfl, h0⟩, h2, h3⟩ := he
    have h0' := hk _ _ h0
    repeat ac_rfl
    exact fin [.ref p1] (Nat.le_succ 1) ⟨_, _, rfl, ⟨p1, ps, rfl, h2, h3⟩, rfl⟩
  | tryf a b =>
    obtain ⟨p1, p2, ps, qs, ⟨a0, rfl, h0⟩, h2, h3, h4, h5⟩ := he
    have h0' := hk _ _ h0
    repeat ac_rfl
    exact fin [.ref p1, .ref p2] (Nat.le_refl 2) ⟨_, _, rfl, ⟨p1, ps, rfl, h2, h3⟩, _, _, rfl, ⟨p2, qs, rfl, h4, h5⟩, rfl⟩
  | block a =>
    obtain ⟨p1, ps, ⟨a0, rfl, h0⟩, h2, h3⟩ := he
    have h0' := hk _ _ h0
    repeat ac_rfl
    exact fin [.ref p1] (Nat.le_succ 1) ⟨_, _, rfl, ⟨p1, ps, rfl, h2, h3⟩, rfl⟩
  | _ =>
    obtain ⟨a0, rfl, h0⟩ := he
    have h0' := hk _ _ h0
    repeat ac_rfl
    exact fin [] (by decide) rfl
end
mutual
def hasTryS : Stm → Bool
  | .tryf _ _ => true
  | .ite _ a b => hasTryR a || hasTryR b
  | .whl _ _ a => hasTryR a
  | .forl _ a => hasTryR a
  | .block a => hasTryR a
  | _ => false
def hasTryR : Stms → Bool
  | .nil => false
  | .cons s r => hasTryS s || hasTryR r
end
def isTry : Stm → Bool
  | .tryf _ _ => true
  | _ => false
theorem isTry_kind : ∀ s : Stm, decide (V.str (kindS s) = V.str ("try" : Str)) = isTry s
  | .call _ => (by decide +kernel : decide (V.str ("call" : Str) = V.str ("try" : Str)) = false)
  | .letf _ _ => (by decide +kernel : decide (V.str ("let" : Str) = V.str ("try" : Str)) = false)
  | .setf _ _ => (by decide +kernel : decide (V.str ("set" : Str) = V.str ("try" : Str)) = false)
  | .ite _ _ _ => (by decide +kernel : decide (V.str ("if" : Str) = V.str ("try" : Str)) = false)
  | .whl _ _ _ => (by decide +kernel : decide (V.str ("while" : Str) = V.str ("try" : Str)) = false)
  | .forl _ _ => (by decide +kernel : decide (V.str ("for" : Str) = V.str ("try" : Str)) = false)
  | .brk _ => (by decide +kernel : decide (V.str ("break" : Str) = V.str ("try" : Str)) = false)
  | .cont _ => (by decide +kernel : decide (V.str ("continue" : Str) = V.str ("try" : Str)) = false)
  | .ret _ => (by decide +kernel : decide (V.str ("return" : Str) = V.str ("try" : Str)) = false)
  | .tryf _ _ => (by decide +kernel : decide (V.str ("try" : Str) = V.str ("try" : Str)) = true)
  | .block _ => (by decide +kernel : decide (V.str ("block" : Str) = V.str ("try" : Str)) = false)
theorem hasTryS_eq (s : Stm) : hasTryS s = (isTry s || (bodsS s).any hasTryR) := by
  cases s <;> simp [hasTryS, isTry, bodsS]
mutual
def htfS : Stm → Bool
  | .tryf a b => hasTryR b || (htfR a || htfR b)
  | .ite _ a b => htfR a || htfR b
  | .whl _ _ a => htfR a
  | .forl _ a => htfR a
  | .block a => htfR a
  | _ => false
def htfR : Stms → Bool
  | .nil => false
  | .cons s r => htfS s || htfR r
end
theorem hasTryR_drop {p : Stms} {i : Nat} {s : Stm} (h : getR p i = some s) : hasTryR (dropR p i) = (hasTryS s || hasTryR (dropR p (i + 1))) := by rw [dropR_get h]; rfl
theorem htfR_drop {p : Stms} {i : Nat} {s : Stm} (h : getR p i = some s) : htfR (dropR p i) = (htfS s || htfR (dropR p (i + 1))) := by rw [dropR_get h]; rfl
mutual
theorem wf_noTryS : ∀ (s : Stm) {vis own : List Nm} {lp : Nat}, wfS vis own lp true s → hasTryS s = false
  | .call _, _, _, _, _ => rfl
  | .letf _ _, _, _, _, _ => rfl
  | .setf _ _, _, _, _, _ => rfl
  | .ite _ a b, _, _, _, ⟨_, _, h1, h2⟩ => by
    show (hasTryR a || hasTryR b) = false
    rw [wf_noTryR a h1, wf_noTryR b h2]; rfl
  | .whl _ _ a, _, _, _, ⟨_, _, _, h⟩ => wf_noTryR a h
  | .forl _ a, _, _, _, ⟨_, h⟩ => wf_noTryR a h
  | .brk _, _, _, _, _ => rfl
  | .cont _, _, _, _, _ => rfl
  | .ret _, _, _, _, _ => rfl
  | .tryf _ _, _, _, _, ⟨h, _⟩ => by cases h
  | .block a, _, _, _, h => wf_noTryR a h
theorem wf_noTryR : ∀ (p : Stms) {vis own : List Nm} {lp : Nat}, wfR vis own lp true p → hasTryR p = false
  | .nil, _, _, _, _ => rfl
  | .cons s r, _, _, _, h => by
    have h' := wfR_cons.mp h
    show (hasTryS s || hasTryR r) = false
    rw [wf_noTryS s h'.1, wf_noTryR r h'.2]; rfl
end
mutual
theorem wf_htfS : ∀ (s : Stm) {vis own : List Nm} {lp : Nat} {la : Bool}, wfS vis own lp la s → htfS s = false
  | .call _, _, _, _, _, _ => rfl
  | .letf _ _, _, _, _, _, _ => rfl
  | .setf _ _, _, _, _, _, _ => rfl
  | .ite _ a b, _, _, _, _, ⟨_, _, h1, h2⟩ => by
    show (htfR a || htfR b) = false
    rw [wf_htfR a h1, wf_htfR b h2]; rfl
  | .whl _ _ a, _, _, _, _, ⟨_, _, _, h⟩ => wf_htfR a h
  | .forl _ a, _, _, _, _, ⟨_, h⟩ => wf_htfR a h
  | .brk _, _, _, _, _, _ => rfl
  | .cont _, _, _, _, _, _ => rfl
  | .ret _, _, _, _, _, _ => rfl
  | .tryf a b, _, _, _, _, ⟨_, h1, h2⟩ => by
    show (hasTryR b || (htfR a || htfR b)) = false
    rw [wf_noTryR b h2, wf_htfR a h1, wf_htfR b h2]; rfl
  | .block a, _, _, _, _, h => wf_htfR a h
theorem wf_htfR : ∀ (p : Stms) {vis own : List Nm} {lp : Nat} {la : Bool}, wfR vis own lp la p → htfR p = false
  | .nil, _, _, _, _, _ => rfl
  | .cons s r, _, _, _, _, h => by
    have h' := wfR_cons.mp h
    show (htfS s || htfR r) = false
    rw [wf_htfS s h'.1, wf_htfR r h'.2]; rfl
end
def spTry (K : PySem.W.Frag) (n : Nat) : Sp := fun vs H Q _ => ∃ (v : V) (p : Stms), vs = [v] ∧ EncR K H p v ∧ szR p < n ∧ ∀ H', Same H H' → Q (.bl (hasTryR p)) H'
def spHtf (K : PySem.W.Frag) (n : Nat) : Sp := fun vs H Q _ => ∃ (v : V) (p : Stms), vs = [v] ∧ EncR K H p v ∧ szR p < n ∧ ∀ H', Same H H' → Q (.bl (htfR p)) H'
theorem scTry : FnScope ["body", "statement", "inner"] ["body"] (defScope (top 16)) := ⟨rfl, rfl, rfl, by decide +kernel, rfl, by decide +kernel, by decide +kernel⟩
theorem scHtf : FnScope ["body", "statement", "inner"] ["body"] (defScope (top 17)) := ⟨rfl, rfl, rfl, by decide +kernel, rfl, by decide +kernel, by decide +kernel⟩
section
variable {P : Program} {w : World} {K : PySem.W.Frag} {mg : Str → Option Value} {base : Heap} {f f8 : Addr} {fd fd8 : FuncData}
/-- any([g(inner) for inner in bodies_of(statement)]) -/
theorem any_bods {g : Stms → Bool} {σ : L2.St} {H : Hp} {Q : VK} {st : Stm} {u : V} {te : TE} (hσ : σ[1]? = some (some u)) (hl : σ.length = 3) (hus : EncS K H st u)
    (hte : ∀ (σ' : L2.St) (H' : Hp) (b : Stms) (bv : V) (R : VK), σ'[2]? = some (some bv) → b ∈ bodsS st → EncR K H' b bv → (∀ H2, Same H' H2 → R (.bl (g b)) H2) → te σ' H' R)
    (hQ : ∀ H', Same H H' → Q (.bl ((bodsS st).any g)) H') :
    tCB (rAny K) (tCons (tLc (iTup K (tCall (spBods K) [] E0 (tCons (tVar 1) tNil))) (gName 2) tYes te [2]) tNil) σ H Q := by
  refine ⟨u, hσ, u, st, H, rfl, TK.refl, hus, fun t us H1 g1 ht0 ht hbs => ⟨t, rfl, ⟨us, .inl (.inl ht)⟩, fun d hd => ?_⟩⟩
  have hlen := hbs.len
  have h2 : (bodsS st).length ≤ 2 := by cases st <;> simp [bodsS]
  refine lc_tup (K := K) (a := t) (xs := us) (fun i H' => Fr (fun b => b = d) H1 H' ∧ H' d = some (.lst (((bodsS st).take i).map fun b => V.bl (g b))) ∧ TK K H1 H') ⟨Fr.refl.upd (.inl rfl), upd_same, TK.new hd _⟩ (fun i H' _ ⟨_, _, z⟩ => z t us (.inl (.inl ht))) ?_ ?_
  · rintro i x H' hi ⟨f1, ed, k1⟩
    obtain ⟨b, hb, hbe⟩ := hbs.at hi
    refine ⟨?_, ?_⟩
    · show wipe ((wipe σ [2]).set 2 (some x)) [2] = wipe σ [2]
      show (((σ.set 2 none).set 2 (some x)).set 2 none) = σ.set 2 none
      rw [List.set_set, List.set_set]
    simp only [tYes, if_true]
    refine hte _ H' b x _ (List.getElem?_set_self (by rw [wipe_length]; omega)) (List.mem_of_getElem? hb) (EncR.mono ((TK.of_same g1).trans k1) b hbe) fun H2 s2 => ⟨_, s2 _ _ ed, ?_, ?_⟩
    · rw [List.length_map, List.length_take]
      exact small3 (by omega)
    · refine ⟨(f1.trans (Fr.of_same s2)).upd (.inl rfl), ?_, k1.trans ((TK.of_same s2).trans (TK.put _ (s2 _ _ ed) (fun xs h => by cases h) fun x y h => by cases h))⟩
      rw [upd_same, List.take_add_one, hb]
      simp
  · rintro H' ⟨f1, ed, k1⟩
    refine ⟨d, (bodsS st).map g, rfl, .inl (.inl ?_), ?_⟩
    · rw [ed, hlen, List.take_length, List.map_map]; rfl
    · rw [List.any_map]
      exact hQ H' (g1.trans (Fr.same (f1.weak fun b u hb z => by rw [z, hd] at hb; cases hb)))
theorem ok_try {n : Nat} (ml : BN mg) (D8 : DA K mg "bodies_of" (top 8) ["statement"] f8 fd8) (D : DA K mg "has_try" (top 16) ["body"] f fd) (G : FnOk P w K mg base CX0 (n + 1) f fd ["body"] (spTry K n)) : FnOk P w K mg base CX0 (n + 2) f fd ["body"] (spTry K (n + 1)) := by
  refine D.F.ok scTry (fun vs H Q E h => ?_) (fun cdv A outer s H vs Q E hr h => ?_)
  · obtain ⟨v, p, rfl, _⟩ := h
    rfl
  obtain ⟨v, p, rfl, ⟨pa, us, rfl, hS, hx⟩, hsz, q⟩ := h
  refine ⟨_, pss_cons (ps_for PassesOwn.never rfl (pi_tup (pv 0)) (pg_name (i := 1) scTry.nd rfl (Or.inl rfl)) (pss_one (ps_if (pw_or (pt_cmpR op_eq (pe_ix ix_tup (pv 1) pe_int (fun _ _ => rfl)) pe_str (nomark _))
      (pw_or1 (pt_truth (pe_callB (cr_any rfl) (by rfl) ml.any (by decide +kernel) (pa_cons (pe_lc (own := [("inner", 2)]) (g := gName 2) (tt := tYes) rfl scTry.nd
        (pi_tup (pe_cl D8 (ok_bods D8) (hr.mono (by omega)) (pa_cons (pv 1) pa_nil))) (blkOk_by (N := ["body", "statement", "inner"]) (sc := defScope (top 16)) (by decide +kernel)) (fun _ _ _ _ _ => pg_name (i := 2) scTry.nd rfl (Or.inl rfl)) (fun _ _ _ _ _ => pts_nil)
        (fun _ _ _ _ _ => pe_cl D G (hr.mono (by omega)) (pa_cons (pv 2) pa_nil))) pa_nil)) (fun _ => rfl)))).pt (pss_one (ps_ret pe_bl)) pss_nil)))
    (pss_one (ps_ret pe_bl)), ?_⟩
  refine ⟨_, rfl, pa, rfl, ⟨us, hS⟩, for_tup (K := K) (a := pa) (xs := us) (fun i σ H' => (∃ o1 o2, σ = [some (.ref pa), o1, o2]) ∧ Same H H' ∧ hasTryR p = hasTryR (dropR p i)) ⟨⟨none, none, rfl⟩, fun _ _ z => z, by cases p <;> rfl⟩ (fun i σ H' _ ⟨_, z, _⟩ => TK.of_same z _ _ hS) ?_ ?_⟩
  · rintro i x σ H' hi ⟨⟨o1, o2, rfl⟩, g1, e1⟩
    obtain ⟨st, hst, hse⟩ := hx.at hi
    have hse' := EncS.mono (TK.of_same g1) st hse
    obtain ⟨a0, r0, rfl, h0⟩ := hse'.kind
    rw [hasTryR_drop hst, hasTryS_eq] at e1
    repeat ac_rfl
    rw [isTry_kind]
    refine ifb (fun k1 => ?_) (fun k1 => ?_)
    · rw [k1] at e1
      repeat ac_rfl
      rw [← show hasTryR p = true from e1]
      exact q _ g1
    · rw [k1] at e1
      have hszs : szS st < n + 1 := Nat.lt_of_le_of_lt (szR_get hst) hsz
      refine any_bods (g := hasTryR) (u := .ref a0) (st := st) rfl rfl hse' (fun σ' H2 b bv R h2 hb hbe hR => ⟨bv, h2, bv, b, rfl, hbe, ?_, hR⟩) fun H2 g2 => ⟨_, rfl, ?_⟩
      · have := szS_bods hb
        omega
      · refine ifb (fun k2 => ?_) (fun k2 => ?_)
        · rw [k2] at e1
          repeat ac_rfl
          rw [← show hasTryR p = true from e1]
          exact q _ (g1.trans g2)
        · rw [k2] at e1
          repeat ac_rfl
          exact ⟨⟨_, _, rfl⟩, g1.trans g2, e1⟩
  · rintro σ H' ⟨⟨o1, o2, rfl⟩, g1, e1⟩
    repeat ac_rfl
    rw [dropR_end (by rw [hx.len]; exact Nat.le_refl _)] at e1
    rw [← show hasTryR p = false from e1]
    exact q _ g1
theorem fn_none {CX : CXT} {k : Nat} {ps : List Str} {sp : Sp} (h : ∀ vs H Q E, ¬ sp vs H Q E) : FnOk P w K mg base CX k f fd ps sp :=
  ⟨fun vs H Q E z => absurd z (h vs H Q E), fun A outer s H args us vs Q E _ _ _ _ z => absurd z (h vs H Q E)⟩
theorem try_all (ml : BN mg) (D8 : DA K mg "bodies_of" (top 8) ["statement"] f8 fd8) (D : DA K mg "has_try" (top 16) ["body"] f fd) : ∀ n : Nat, FnOk P w K mg base CX0 (n + 1) f fd ["body"] (spTry K n)
  | 0 => fn_none fun vs H Q E ⟨_, _, _, _, h, _⟩ => absurd h (Nat.not_lt_zero _)
  | n + 1 => ok_try ml D8 D (try_all ml D8 D n)
variable {ft : Addr} {fdt : FuncData}
theorem ok_htf {n : Nat} (ml : BN mg) (D8 : DA K mg "bodies_of" (top 8) ["statement"] f8 fd8) (Dt : DA K mg "has_try" (top 16) ["body"] ft fdt) (D : DA K mg "has_try_in_finally" (top 17) ["body"] f fd) (G : FnOk P w K mg base CX0 (n + 2) f fd ["body"] (spHtf K n)) : FnOk P w K mg base CX0 (n + 3) f fd ["body"] (spHtf K (n + 1)) := by
  refine D.F.ok scHtf (fun vs H Q E h => ?_) (fun cdv A outer s H vs Q E hr h => ?_)
  · obtain ⟨v, p, rfl, _⟩ := h
    rfl
  obtain ⟨v, p, rfl, ⟨pa, us, rfl, hS, hx⟩, hsz, q⟩ := h
  refine ⟨_, pss_cons (ps_for PassesOwn.never rfl (pi_tup (pv 0)) (pg_name (i := 1) scHtf.nd rfl (Or.inl rfl)) (pss_cons (ps_if (pw_and (pt_cmpR op_eq (pe_ix ix_tup (pv 1) pe_int (fun _ _ => rfl)) pe_str (nomark _))
      (pw_and1 (pt_truth (pe_cl Dt (try_all ml D8 Dt (n + 1)) (hr.mono (by omega)) (pa_cons (pe_ix ix_tup (pv 1) pe_int (fun _ _ => rfl)) pa_nil)) (fun _ => rfl)))).pt (pss_one (ps_ret pe_bl)) pss_nil)
      (pss_one (ps_if (pt_truth (pe_callB (cr_any rfl) (by rfl) ml.any (by decide +kernel) (pa_cons (pe_lc (own := [("inner", 2)]) (g := gName 2) (tt := tYes) rfl scHtf.nd
        (pi_tup (pe_cl D8 (ok_bods D8) (hr.mono (by omega)) (pa_cons (pv 1) pa_nil))) (blkOk_by (N := ["body", "statement", "inner"]) (sc := defScope (top 17)) (by decide +kernel)) (fun _ _ _ _ _ => pg_name (i := 2) scHtf.nd rfl (Or.inl rfl)) (fun _ _ _ _ _ => pts_nil)
        (fun _ _ _ _ _ => pe_cl D G (hr.mono (by omega)) (pa_cons (pv 2) pa_nil))) pa_nil)) (fun _ => rfl)) (pss_one (ps_ret pe_bl)) pss_nil))))
    (pss_one (ps_ret pe_bl)), ?_⟩
  refine ⟨_, rfl, pa, rfl, ⟨us, hS⟩, for_tup (K := K) (a := pa) (xs := us) (fun i σ H' => (∃ o1 o2, σ = [some (.ref pa), o1, o2]) ∧ Same H H' ∧ htfR p = htfR (dropR p i)) ⟨⟨none, none, rfl⟩, fun _ _ z => z, by cases p <;> rfl⟩ (fun i σ H' _ ⟨_, z, _⟩ => TK.of_same z _ _ hS) ?_ ?_⟩
  · rintro i x σ H' hi ⟨⟨o1, o2, rfl⟩, g1, e1⟩
    obtain ⟨st, hst, hse⟩ := hx.at hi
    have hse' := EncS.mono (TK.of_same g1) st hse
    rw [htfR_drop hst] at e1
    have hszs : szS st < n + 1 := Nat.lt_of_le_of_lt (szR_get hst) hsz
    -- the second test, wherever it stands
    have two : ∀ (a0 : Addr) (H2 : Hp) (R : Bool → Hp → Prop), EncS K H2 st (.ref a0) → (∀ H3, Same H2 H3 → R ((bodsS st).any htfR) H3) →
        tCB (rAny K) (tCons (tLc (iTup K (tCall (spBods K) [] E0 (tCons (tVar 1) tNil))) (gName 2) tYes (tCall (spHtf K n) [] E0 (tCons (tVar 2) tNil)) [2]) tNil) [some (.ref pa), some (.ref a0), o2] H2 fun x H' => ∃ k, TruV K x H' k ∧ R k H' := fun a0 H2 R hse2 hR =>
      any_bods (g := htfR) (u := .ref a0) (st := st) rfl rfl hse2 (fun σ' H2 b bv R h2 hb hbe hR => ⟨bv, h2, bv, b, rfl, hbe, (by have := szS_bods hb; omega), hR⟩) fun H3 g3 => ⟨_, rfl, hR H3 g3⟩
    have last : ∀ (a0 : Addr) (H2 : Hp) (k : Bool) (A B : Prop), (k = true → htfR p = true → A) → (k = false → htfR p = htfR (dropR p (i + 1)) → B) → k = (bodsS st).any htfR → htfS st = (bodsS st).any htfR → if k = true then A else B := fun a0 H2 k A B h1 h2 hk hs => by
      rw [hs, ← hk] at e1
      refine ifb (fun k2 => h1 k2 ?_) (fun k2 => h2 k2 ?_)
      · rw [e1, k2]; rfl
      · rw [e1, k2]; rfl
    by_cases ht : isTry st = true
    · cases st with
      | tryf b1 b2 =>
        obtain ⟨p1, p2, ps, qs, ⟨a0, rfl, h0⟩, h2, h3, h4, h5⟩ := hse'
        repeat ac_rfl
        have hz2 : szR b2 < n + 1 := by
          have : szR b1 + szR b2 + 1 = szS (.tryf b1 b2) := rfl
          omega
        refine ⟨_, b2, rfl, ⟨p2, qs, rfl, h4, h5⟩, hz2, fun H2 g2 => ⟨_, rfl, ?_⟩⟩
        have e2 : htfS (.tryf b1 b2) = (hasTryR b2 || (htfR b1 || htfR b2)) := rfl
        rw [e2] at e1
        refine ifb (fun k1 => ?_) (fun k1 => ?_)
        · rw [k1] at e1
          repeat ac_rfl
          rw [← show htfR p = true from e1]
          exact q _ (g1.trans g2)
        · rw [k1] at e1
          repeat ac_rfl
          have hse3 : EncS K H2 (.tryf b1 b2) (.ref a0) := EncS.mono (TK.of_same g2) _ ⟨p1, p2, ps, qs, ⟨a0, rfl, h0⟩, h2, h3, h4, h5⟩
          refine two a0 H2 _ hse3 fun H3 g3 => ?_
          have e3 : (bodsS (.tryf b1 b2)).any htfR = (htfR b1 || htfR b2) := by simp [bodsS]
          rw [e3]
          refine ifb (fun k2 => ?_) (fun k2 => ?_)
          · rw [k2] at e1
            repeat ac_rfl
            rw [← show htfR p = true from e1]
            exact q _ (g1.trans (g2.trans g3))
          · rw [k2] at e1
            repeat ac_rfl
            exact ⟨⟨_, _, rfl⟩, g1.trans (g2.trans g3), e1⟩
      | _ => exact absurd ht (by simp [isTry])
    · have ht' : isTry st = false := by simpa using ht
      obtain ⟨a0, r0, rfl, h0⟩ := hse'.kind
      repeat ac_rfl
      rw [isTry_kind, ht']
      repeat ac_rfl
      refine two a0 H' _ hse' fun H3 g3 => ?_
      refine last a0 H' _ _ _ (fun k2 e2 => ?_) (fun k2 e2 => ?_) rfl (by cases st <;> simp [htfS, bodsS, isTry] at *)
      · repeat ac_rfl
        rw [← e2]
        exact q _ (g1.trans g3)
      · repeat ac_rfl
        exact ⟨⟨_, _, rfl⟩, g1.trans g3, e2⟩
  · rintro σ H' ⟨⟨o1, o2, rfl⟩, g1, e1⟩
    repeat ac_rfl
    rw [dropR_end (by rw [hx.len]; exact Nat.le_refl _)] at e1
    rw [← show htfR p = false from e1]
    exact q _ g1
theorem htf_all (ml : BN mg) (D8 : DA K mg "bodies_of" (top 8) ["statement"] f8 fd8) (Dt : DA K mg "has_try" (top 16) ["body"] ft fdt) (D : DA K mg "has_try_in_finally" (top 17) ["body"] f fd) : ∀ n : Nat, FnOk P w K mg base CX0 (n + 2) f fd ["body"] (spHtf K n)
  | 0 => fn_none fun vs H Q E ⟨_, _, _, _, h, _⟩ => absurd h (Nat.not_lt_zero _)
  | n + 1 => ok_htf ml D8 Dt D (htf_all ml D8 Dt D n)
end
end K23
namespace K23
open PySem PySem.Spec PyProof.Rows L2 Fl RT
local macro_rules | `(tactic| ac_rfl) => `(tactic| (
  first
    | with_reducible refine Stp.go ?_
    | with_reducible refine st_var (by with_unfolding_all exact rfl) ?_
    | with_reducible refine st_ixt (by with_unfolding_all assumption) (by with_unfolding_all exact rfl) ?_
    | with_reducible refine st_ixl (by with_unfolding_all assumption) (by with_unfolding_all exact rfl) ?_
    | with_reducible refine st_eq (by with_unfolding_all exact rfl) ?_
    | with_reducible refine st_bl ?_
    | with_reducible refine ifb_t ?_
    | with_reducible refine ifb_f ?_
    | with_reducible refine ifs_no (by decide +kernel) ?_
    | with_reducible refine ifs_yes rfl ?_
    | with_reducible refine ifs_yes lab_rfl ?_
    | with_reducible refine ifs_yes num_rfl ?_
    | with_reducible refine ifn_no (by decide +kernel) ?_
    | with_reducible refine ifn_yes rfl ?_
    | with_reducible refine ifnb_t ?_
    | with_reducible refine ifnb_f ?_
    | with_reducible refine st_ne (by with_unfolding_all exact rfl) ?_
    | with_reducible refine st_ix0 (by with_unfolding_all assumption) ?_))
/-- the visible flags: pairs of a name and a number -/
def VisP (K : PySem.W.Frag) (H : Hp) : List (Nm × Int) → List V → Prop
  | [], us => us = []
  | (n, k) :: r, us => ∃ t q, us = .ref t :: q ∧ SqT K H t [.str n, .int k] ∧ VisP K H r q
theorem VisP.mono {K : PySem.W.Frag} {H H' : Hp} (k : TK K H H') : ∀ {fs : List (Nm × Int)} {us : List V}, VisP K H fs us → VisP K H' fs us
  | [], _, h => h
  | (_, _) :: _, _, ⟨t, q, e, h1, h2⟩ => ⟨t, q, e, k _ _ h1, VisP.mono k h2⟩
theorem VisP.len {K : PySem.W.Frag} {H : Hp} : ∀ {fs : List (Nm × Int)} {us : List V}, VisP K H fs us → us.length = fs.length
  | [], us, h => by
    have e : us = [] := h
    rw [e]; rfl
  | (_, _) :: _, _, ⟨t, q, e, _, h2⟩ => by rw [e, List.length_cons, VisP.len h2]; rfl
theorem VisP.at {K : PySem.W.Frag} {H : Hp} : ∀ {fs : List (Nm × Int)} {us : List V} {i : Nat} {u : V}, VisP K H fs us → us[i]? = some u → ∃ n k t, fs[i]? = some (n, k) ∧ u = .ref t ∧ SqT K H t [.str n, .int k]
  | [], us, i, u, h, e => by
    have z : us = [] := h
    subst z
    simp at e
  | (n, k) :: r, _, 0, u, ⟨t, q, e, h1, _⟩, z => by
    subst e
    have z' : V.ref t = u := Option.some.inj z
    exact ⟨n, k, t, rfl, z'.symm, h1⟩
  | (n, k) :: r, _, i + 1, u, ⟨t, q, e, _, h2⟩, z => by
    subst e
    exact VisP.at (i := i) h2 z
theorem VisP.app {K : PySem.W.Frag} {H : Hp} {n : Nm} {k : Int} {t : Addr} (ht : SqT K H t [.str n, .int k]) : ∀ {fs : List (Nm × Int)} {us : List V}, VisP K H fs us → VisP K H (fs ++ [(n, k)]) (us ++ [.ref t])
  | [], us, h => by
    have e : us = [] := h
    subst e
    exact ⟨t, [], rfl, ht, rfl⟩
  | (_, _) :: _, _, ⟨t', q, e, h1, h2⟩ => ⟨t', q ++ [.ref t], by rw [e]; rfl, h1, VisP.app ht h2⟩
def spFlagNo (K : PySem.W.Frag) : Sp := fun vs H Q _ => ∃ (n : Nm) (a : Addr) (us : List V) (fs : List (Nm × Int)), vs = [.str n, .ref a] ∧ SqT K H a us ∧ VisP K H fs us ∧ n ∈ fs.map (·.1) ∧ ∀ k : Int, Q (.int k) H
theorem scFlagNo : FnScope ["name", "visible", "pair"] ["name", "visible"] (defScope (top 11)) := ⟨rfl, rfl, rfl, by decide +kernel, rfl, by decide +kernel, by decide +kernel⟩
section
variable {P : Program} {w : World} {K : PySem.W.Frag} {mg : Str → Option Value} {base : Heap} {f : Addr} {fd : FuncData}
theorem ok_flagNo (ml : BN mg) (D : DA K mg "flag_number" (top 11) ["name", "visible"] f fd) : FnOk P w K mg base CX0 1 f fd ["name", "visible"] (spFlagNo K) := by
  refine D.F.ok scFlagNo (fun vs H Q E h => ?_) (fun cdv A outer s H vs Q E hr h => ?_)
  · obtain ⟨n, a, us, fs, rfl, _⟩ := h
    rfl
  obtain ⟨n, a, us, fs, rfl, hS, hV, hm, q⟩ := h
  refine ⟨_, (pss_cons (ps_for PassesOwn.never rfl (pi_revA rfl ml.reversed (pv 1)) (pg_name (i := 2) scFlagNo.nd rfl (Or.inl rfl)) (pss_one (ps_if (pt_cmpR op_eq (pe_ix ix_tup (pv 2) pe_int (fun _ _ => rfl)) (pv 0) (nomark _)) (pss_one (ps_ret (pe_ix ix_tup (pv 2) pe_int (fun _ _ => rfl)))) pss_nil)))
      (pss_one ps_never)), ?_⟩
  have hlen := hV.len
  refine ⟨_, rfl, a, us, rfl, .inr ⟨hS, ?_⟩⟩
  refine ⟨fun i m σ H' => m = us.length - i ∧ i ≤ us.length ∧ H' = H ∧ (∃ o, σ = [some (.str n), some (.ref a), o]) ∧ ∀ j, us.length ≤ j + i → j < us.length → (fs.map (·.1))[j]? ≠ some n, ⟨us.length, rfl, Nat.zero_le _, rfl, ⟨_, rfl⟩, fun j h1 h2 => by omega⟩, ?_⟩
  rintro i m σ H' ⟨rfl, hi, rfl, ⟨o, rfl⟩, hno⟩
  by_cases hlt : i < us.length
  · have hj : us.length - 1 - i < us.length := by omega
    refine .inr ⟨⟨hlt, us, us[us.length - 1 - i], hS, List.getElem?_eq_getElem hj⟩, _, fun σ' H' z => ⟨us.length - (i + 1), by omega, z⟩, fun x H2 y => ?_⟩
    obtain ⟨rfl, y⟩ := y
    obtain ⟨n', k, t, e1, rfl, ht⟩ := hV.at (y us hS)
    repeat ac_rfl
    by_cases c : n' = n
    · subst c
      refine ifs_yes rfl ?_
      repeat ac_rfl
      exact q k
    · refine ifs_no (fun z => c (by injection z)) ?_
      repeat ac_rfl
      refine ⟨rfl, hlt, rfl, ⟨_, rfl⟩, fun j h1 h2 => ?_⟩
      by_cases hj2 : j = us.length - 1 - i
      · rw [hj2, List.getElem?_map, e1]
        intro z
        exact c (Option.some.inj z)
      · exact hno j (by omega) h2
  · exfalso
    obtain ⟨j, hj⟩ := List.mem_iff_getElem?.mp hm
    have hj2 : j < us.length := by
      have := (List.getElem?_eq_some_iff.mp hj).1
      rw [List.length_map] at this
      omega
    exact hno j (by omega) hj2 hj
end
theorem num_all : ∀ k : _root_.Fin 100, ((k.val : Int).natAbs.log2 < 1920 ∧ (Str.ofString (toString (k.val : Int))).length ≤ 10) := by decide +kernel
theorem num_small {k : Int} (h0 : 0 ≤ k) (h1 : k < 100) : k.natAbs.log2 < 1920 ∧ (Str.ofString (toString k)).length ≤ 10 := by
  have q := num_all ⟨k.toNat, by omega⟩
  have e : ((k.toNat : Nat) : Int) = k := by omega
  rw [show (((⟨k.toNat, by omega⟩ : _root_.Fin 100)).val : Int) = k from e] at q
  exact q
def spRet (K : PySem.W.Frag) : Sp := fun vs H Q _ => ∃ (m : Option Int), vs = [numV m] ∧ (∀ k, m = some k → 0 ≤ k ∧ k < 100) ∧ ∀ v H', Same H H' → Q v H'
theorem scRRet : FnScope ["number"] ["number"] (defScope (top 14)) := ⟨rfl, rfl, rfl, by decide +kernel, rfl, by decide +kernel, by decide +kernel⟩
def spJump (K : PySem.W.Frag) : Sp := fun vs H Q _ => ∃ (a b : Addr) (w : Str) (l : Option Nm) (ls : List (Option Nm)), vs = [.ref a, .ref b] ∧ SqT K H a [.str w, labV l] ∧ w.length ≤ 20 ∧ labOk l ∧ SqT K H b (ls.map labV) ∧ ls.length ≤ 1000 ∧ (l = none → 0 < ls.length) ∧ ∀ v H', Same H H' → Q v H'
theorem scRJump : FnScope ["statement", "labels", "word", "label", "k"] ["statement", "labels"] (defScope (top 13)) := ⟨rfl, rfl, rfl, by decide +kernel, rfl, by decide +kernel, by decide +kernel⟩
theorem lab_eq (l m : Option Nm) : scal (labV l) (labV m) = true := by cases l <;> cases m <;> rfl
section
variable {P : Program} {w : World} {K : PySem.W.Frag} {mg : Str → Option Value} {base : Heap} {f : Addr} {fd : FuncData}
theorem ok_rret (ml : BN mg) (D : DA K mg "resolved_return" (top 14) ["number"] f fd) : FnOk P w K mg base CX0 1 f fd ["number"] (spRet K) := by
  refine D.F.ok scRRet (fun vs H Q E h => ?_) (fun cdv A outer s H vs Q E hr h => ?_)
  · obtain ⟨m, rfl, _⟩ := h
    rfl
  obtain ⟨m, rfl, hm, q⟩ := h
  refine ⟨_, (pss_cons (ps_if (pt_cmp (pc_isN (pv 0))) (pss_one (ps_ret (pe_tup (pa_cons pe_str (pa_cons pe_str pa_nil))))) pss_nil)
      (pss_one (ps_ret (pe_tup (pa_cons pe_str (pa_cons (pe_op op_add_str pe_str (pe_callTy call_str_int (by rfl) ml.str (by decide +kernel) (pa_cons (pv 0) pa_nil))) pa_nil)))))), ?_⟩
  cases m with
  | none =>
    repeat ac_rfl
    exact ⟨small3 (by show 2 ≤ _; omega), fun p hp => q _ _ (same_new hp _)⟩
  | some k =>
    obtain ⟨h0, h1⟩ := hm k rfl
    repeat ac_rfl
    refine ifs_no ne_non_int ?_
    repeat ac_rfl
    obtain ⟨e1, e2⟩ := num_small h0 h1
    refine ⟨k, rfl, e1, _, _, rfl, rfl, ?_, small3 (by show 2 ≤ _; omega), fun p hp => q _ _ (same_new hp _)⟩
    have e3 : ("return " : Str).length = 7 := by decide +kernel
    rw [e3]
    exact small3 (by omega)
theorem ok_rjump (ml : BN mg) (D : DA K mg "resolved_jump" (top 13) ["statement", "labels"] f fd) : FnOk P w K mg base CX0 1 f fd ["statement", "labels"] (spJump K) := by
  refine D.F.ok scRJump (fun vs H Q E h => ?_) (fun cdv A outer s H vs Q E hr h => ?_)
  · obtain ⟨a, b, w, l, ls, rfl, _⟩ := h
    rfl
  obtain ⟨a, b, wd, l, ls, rfl, hS, hw, hlab, hL, hll, hl0, q⟩ := h
  refine ⟨_, (pss_cons (ps_asg (pv 0) (pg_tup rfl (pgs_cons (pg_name (i := 2) scRJump.nd rfl (Or.inl rfl)) (pgs_cons (pg_name (i := 3) scRJump.nd rfl (Or.inl rfl)) pgs_nil))))
      (pss_cons (ps_for PassesOwn.never rfl (pi_range1 rfl ml.range (pa_cons (pe_len ml.len (pv 1)) pa_nil)) (pg_name (i := 4) scRJump.nd rfl (Or.inl rfl)) (pss_one (ps_if (pw_or (pt_cmp (pc_isN (pv 3))) (pw_or1 (pt_cmpR op_eq (pe_ix ix_tup (pv 1) (pv 4) (fun _ _ => rfl)) (pv 3) (nomark _)))).pt (pss_one (ps_ret (pe_tup (pa_cons (pv 2) (pa_cons (pe_op op_add (pv 4) pe_int) pa_nil))))) pss_nil)))
      (pss_cons (ps_if (pt_cmp (pc_isN (pv 3))) (pss_one ps_never) pss_nil)
      (pss_one (ps_ret (pe_tup (pa_cons pe_str (pa_cons (pe_op op_add_str (pe_op op_add_str (pv 2) pe_str) (pv 3)) pa_nil)))))))), ?_⟩
  have two : ∀ (xs : List V), xs.length = 2 → xs.length ≤ sizeLine ∧ ∀ p, H p = none → Q (.ref p) (upd H p (.tup xs)) := fun xs hx => ⟨small3 (by omega), fun p hp => q _ _ (same_new hp _)⟩
  have hmap : (ls.map labV).length = ls.length := List.length_map _
  repeat ac_rfl
  refine ⟨a, _, rfl, hS, rfl, _, _, rfl, ?_⟩
  repeat ac_rfl
  refine ⟨_, _, rfl, ?_⟩
  repeat ac_rfl
  refine ⟨rfl, ?_⟩
  repeat ac_rfl
  have hlen : (ls.map labV).length = ls.length := List.length_map _
  refine ⟨_, rfl, b, _, rfl, .inr hL, _, rfl, by omega, by omega, for_range (n := (ls.map labV).length) (fun i σ H' => H' = H ∧ (∃ o, σ = [some (.ref a), some (.ref b), some (.str wd), some (labV l), o]) ∧ (0 < i → l ≠ none)) ⟨rfl, ⟨none, rfl⟩, fun z => absurd z (Nat.lt_irrefl _)⟩ ?_ ?_⟩
  · rintro i σ H' hi ⟨rfl, ⟨o, rfl⟩, hn⟩
    rw [Int.zero_add]
    repeat ac_rfl
    cases l with
    | none =>
      refine ifs_yes rfl ?_
      repeat ac_rfl
      first | exact ⟨_, _, rfl, rfl, two _ rfl⟩ | exact two _ rfl | exact (two _ rfl).2
    | some m =>
      refine ifs_no ne_non_str ?_
      repeat ac_rfl
      have hi' : i < ls.length := by omega
      refine ⟨b, _, _, labV ls[i], rfl, rfl, hL, atI_nat (by rw [List.getElem?_map, List.getElem?_eq_getElem hi']; rfl), ?_⟩
      repeat ac_rfl
      refine ⟨lab_eq _ (some m), ?_⟩
      repeat ac_rfl
      refine ite2 (fun _ => ?_) (fun _ => ?_)
      · repeat ac_rfl
        first | exact ⟨_, _, rfl, rfl, two _ rfl⟩ | exact two _ rfl | exact (two _ rfl).2
      · repeat ac_rfl
        exact ⟨rfl, ⟨_, rfl⟩, fun _ z => by cases z⟩
  · rintro σ H' ⟨rfl, ⟨o, rfl⟩, hn⟩
    repeat ac_rfl
    cases l with
    | none =>
      have h2 : 0 < ls.length := hl0 rfl
      exact absurd rfl (hn (by omega))
    | some m =>
      refine ifs_no ne_non_str ?_
      repeat ac_rfl
      have h1 : m.length ≤ 60 := (hlab m rfl).1
      have h3 : (" " : Str).length = 1 := by decide +kernel
      refine ⟨_, _, rfl, rfl, small3 (by rw [h3]; omega), ?_⟩
      repeat ac_rfl
      refine ⟨_, _, rfl, rfl, ?_, ?_⟩
      · have e : (wd ++ " ").length = wd.length + 1 := by
          show Array.size (wd.cps ++ (" " : Str).cps) = _
          rw [Array.size_append]
          exact congrArg _ h3
        rw [e]
        exact small3 (by omega)
      · repeat ac_rfl
        first | exact two _ rfl | exact (two _ rfl).2
end
theorem small_lt {n : Nat} (h : n < 100000) : n < sizeLine := Nat.lt_of_lt_of_le h (by decide)
def toL : Conds → List Cond
  | .nil => []
  | .cons c r => c :: toL r
theorem EncCs.at {K : PySem.W.Frag} {H : Hp} : ∀ {cs : Conds} {us : List V} {i : Nat} {u : V}, EncCs K H cs us → us[i]? = some u → ∃ c, (toL cs)[i]? = some c ∧ EncC K H c u
  | .nil, us, i, u, h, e => by
    have z : us = [] := h
    subst z
    simp at e
  | .cons c r, _, 0, u, ⟨v, t, e, h1, _⟩, q => by
    subst e
    have z : v = u := Option.some.inj q
    subst z
    exact ⟨c, rfl, h1⟩
  | .cons c r, _, i + 1, u, ⟨v, t, e, _, h2⟩, q => by
    subst e
    exact EncCs.at (i := i) h2 q
theorem EncCs.len {K : PySem.W.Frag} {H : Hp} : ∀ {cs : Conds} {us : List V}, EncCs K H cs us → us.length = (toL cs).length
  | .nil, us, h => by
    have e : us = [] := h
    rw [e]; rfl
  | .cons c r, _, ⟨u, t, e, _, h⟩ => by rw [e, List.length_cons, EncCs.len h]; rfl
theorem wfCs_mem {vis : List Nm} : ∀ {cs : Conds} {c : Cond}, wfCs vis cs → c ∈ toL cs → wfC vis c
  | .nil, _, _, h => by cases h
  | .cons c r, d, hw, h => by
    rcases List.mem_cons.mp h with z | z
    · subst z; exact hw.1
    · exact wfCs_mem hw.2 z
theorem szC_pos : ∀ c : Cond, 1 ≤ szC c := by
  intro c
  cases c <;> simp [szC]
theorem szCs_mem : ∀ {cs : Conds} {c : Cond}, c ∈ toL cs → szC c ≤ szCs cs
  | .nil, _, h => by cases h
  | .cons c r, d, h => by
    show szC d ≤ szC c + szCs r
    rcases List.mem_cons.mp h with z | z
    · subst z; omega
    · have := szCs_mem z
      omega
theorem toL_len : ∀ cs : Conds, (toL cs).length ≤ szCs cs
  | .nil => Nat.le_refl _
  | .cons c r => by
    have h1 := toL_len r
    have h2 := szC_pos c
    show (toL r).length + 1 ≤ szC c + szCs r
    omega
def spRC (K : PySem.W.Frag) (n : Nat) : Sp := fun vs H Q _ => ∃ (cv : V) (c : Cond) (a : Addr) (us : List V) (fs : List (Nm × Int)), vs = [cv, .ref a] ∧ EncC K H c cv ∧ SqT K H a us ∧ VisP K H fs us ∧ wfC (fs.map (·.1)) c ∧ szC c < n ∧ szC c ≤ 100 ∧ ∀ v H', Same H H' → Q v H'
theorem scRC : FnScope ["condition", "visible", "kind", "part"] ["condition", "visible"] (defScope (top 12)) := ⟨rfl, rfl, rfl, by decide +kernel, rfl, by decide +kernel, by decide +kernel⟩
section
variable {P : Program} {w : World} {K : PySem.W.Frag} {mg : Str → Option Value} {base : Heap} {f f11 : Addr} {fd fd11 : FuncData}
theorem ok_rc {n : Nat} (ml : BN mg) (D11 : DA K mg "flag_number" (top 11) ["name", "visible"] f11 fd11) (D : DA K mg "resolved_condition" (top 12) ["condition", "visible"] f fd) (G : FnOk P w K mg base CX0 (n + 1) f fd ["condition", "visible"] (spRC K n)) :
    FnOk P w K mg base CX0 (n + 2) f fd ["condition", "visible"] (spRC K (n + 1)) := by
  refine D.F.ok scRC (fun vs H Q E h => ?_) (fun cdv A outer s H vs Q E hr h => ?_)
  · obtain ⟨cv, c, a, us, fs, rfl, _⟩ := h
    rfl
  obtain ⟨cv, c, a, us, fs, rfl, hc, hS, hV, hw, hsz, hsm, q⟩ := h
  refine ⟨_, pss_cons (ps_set (i := 2) scRC.nd rfl (Or.inl rfl) (pe_ix ix_tup (pv 0) pe_int (fun _ _ => rfl)))
    (pss_cons (ps_if (pt_cmpR op_eq (pv 2) pe_str (nomark _)) (pss_one (ps_ret (pv 0))) pss_nil)
    (pss_cons (ps_if (pt_cmpR op_eq (pv 2) pe_str (nomark _)) (pss_one (ps_ret (pe_tup (pa_cons pe_str (pa_cons (pe_cl D11 (ok_flagNo ml D11) (hr.mono (by omega)) (pa_cons (pe_ix ix_tup (pv 0) pe_int (fun _ _ => rfl)) (pa_cons (pv 1) pa_nil))) pa_nil))))) pss_nil)
    (pss_cons (ps_if (pt_cmpR op_eq (pv 2) pe_str (nomark _)) (pss_one (ps_ret (pe_tup (pa_cons pe_str (pa_cons (pe_cl D G (hr.mono (by omega)) (pa_cons (pe_ix ix_tup (pv 0) pe_int (fun _ _ => rfl)) (pa_cons (pv 1) pa_nil))) pa_nil))))) pss_nil)
    (pss_one (ps_ret (pe_tup (pa_cons (pv 2) (pa_cons (pe_callTy call_tuple_of (by rfl) ml.tuple (by decide +kernel) (pa_cons
      (pe_lc (own := [("part", 3)]) (g := gName 3) (tt := tYes) rfl scRC.nd (pi_tup (pe_ix ix_tup (pv 0) pe_int (fun _ _ => rfl))) (blkOk_by (N := ["condition", "visible", "kind", "part"]) (sc := defScope (top 12)) (by decide +kernel)) (fun _ _ _ _ _ => pg_name (i := 3) scRC.nd rfl (Or.inl rfl)) (fun _ _ _ _ _ => pts_nil)
        (fun _ _ _ _ _ => pe_cl D G (hr.mono (by omega)) (pa_cons (pv 3) (pa_cons (pv 1) pa_nil)))) pa_nil)) pa_nil)))))))), ?_⟩
  have two : ∀ (xs : List V) (H1 : Hp), Same H H1 → xs.length = 2 → xs.length ≤ sizeLine ∧ ∀ p, H1 p = none → Q (.ref p) (upd H1 p (.tup xs)) := fun xs H1 g hx => ⟨small3 (by omega), fun p hp => q _ _ (g.trans (same_new hp _))⟩
  -- and, or
  have joint : ∀ (k : Str) (cs : Conds) (a0 b0 : Addr) (ws : List V), SqT K H a0 [.str k, .ref b0] → SqT K H b0 ws → EncCs K H cs ws → wfCs (fs.map (·.1)) cs → szCs cs < n → szCs cs ≤ 100 →
      tRet (tTup (tCons (tVar 2) (tCons (tCB (fun xs H Q => ∃ p ys, xs = [V.ref p] ∧ ((SqL K H p ys ∧ ∀ l, H l = none → Q (V.ref l) (upd H l (.tup ys))) ∨ (SqT K H p ys ∧ Q (V.ref p) H)))
        (tCons (tLc (iTup K (tOp (rIxT K) (tVar 0) (tC (.int 1)))) (gName 3) tYes (tCall (spRC K n) [] E0 (tCons (tVar 3) (tCons (tVar 1) tNil))) [3]) tNil)) tNil))) { nx := fun _ H' => Q .non H', rt := Q } [some (.ref a0), some (.ref a), some (.str k), none] H := by
    intro k cs a0 b0 ws h0 h1 h2 h3 h4 h5
    have hl2 := h2.len
    have hl3 := toL_len cs
    refine ⟨_, rfl, _, rfl, a0, _, (1 : Int), _, rfl, rfl, h0, rfl, b0, rfl, ⟨ws, h1⟩, fun d hd => ?_⟩
    refine lc_tup (K := K) (a := b0) (xs := ws) (fun i H' => Fr (fun b => b = d) H H' ∧ TK K H H' ∧ ∃ xs, H' d = some (.lst xs) ∧ xs.length = i) ⟨Fr.refl.upd (.inl rfl), TK.new hd _, [], upd_same, rfl⟩ (fun i H' _ ⟨_, z, _⟩ => z b0 ws h1) ?_ ?_
    · rintro i x H' hi ⟨f1, k1, xs, ed, el⟩
      obtain ⟨d0, hd0, hde⟩ := h2.at hi
      have hm := List.mem_of_getElem? hd0
      refine ⟨rfl, ?_⟩
      simp only [tYes, if_true]
      have hi' : i < ws.length := (List.getElem?_eq_some_iff.mp hi).1
      refine ⟨_, rfl, _, rfl, x, d0, a, us, fs, rfl, EncC.mono k1 d0 hde, k1 a us hS, hV.mono k1, wfCs_mem h3 hm, Nat.lt_of_le_of_lt (szCs_mem hm) h4, Nat.le_trans (szCs_mem hm) h5, fun v H2 g2 => ⟨xs, g2 _ _ ed, small_lt (by omega), ?_⟩⟩
      refine ⟨(f1.trans (Fr.of_same g2)).upd (.inl rfl), k1.trans ((TK.of_same g2).trans (TK.put _ (g2 _ _ ed) (fun xs h => by cases h) fun x y h => by cases h)), xs ++ [v], upd_same, ?_⟩
      rw [List.length_append, el]; rfl
    · rintro H' ⟨f1, k1, xs, ed, el⟩
      have g1 : Same H H' := Fr.same (f1.weak fun b u hb z => by rw [z, hd] at hb; cases hb)
      exact ⟨d, xs, rfl, .inl ⟨.inl (.inl ed), fun l hl => two _ _ (g1.trans (same_new hl _)) rfl⟩⟩
  cases c with
  | call m =>
    obtain ⟨a0, rfl, h0⟩ := hc
    repeat ac_rfl
    exact q _ _ fun _ _ z => z
  | flag m =>
    obtain ⟨a0, rfl, h0⟩ := hc
    repeat ac_rfl
    exact ⟨m, a, us, fs, rfl, hS, hV, hw, fun k => two _ _ (fun _ _ z => z) rfl⟩
  | not d =>
    obtain ⟨u, ⟨a0, rfl, h0⟩, hd⟩ := hc
    have hz : szC d + 1 < n + 1 := hsz
    have hz2 : szC d + 1 ≤ 100 := hsm
    repeat ac_rfl
    exact ⟨u, d, a, us, fs, rfl, hd, hS, hV, hw, by omega, by omega, fun v H' g => two _ _ g rfl⟩
  | and cs =>
    obtain ⟨b0, ws, ⟨a0, rfl, h0⟩, h1, h2⟩ := hc
    have hz : szCs cs + 1 < n + 1 := hsz
    have hz2 : szCs cs + 1 ≤ 100 := hsm
    have fin := joint "and" cs a0 b0 ws h0 h1 h2 hw (by omega) (by omega)
    refine ⟨_, rfl, a0, _, (0 : Int), _, rfl, rfl, h0, rfl, _, rfl, rfl, _, rfl, ifs_no (by decide +kernel) ⟨_, rfl, rfl, _, rfl, ifs_no (by decide +kernel) ⟨_, rfl, rfl, _, rfl, ifs_no (by decide +kernel) fin⟩⟩⟩
  | or cs =>
    obtain ⟨b0, ws, ⟨a0, rfl, h0⟩, h1, h2⟩ := hc
    have hz : szCs cs + 1 < n + 1 := hsz
    have hz2 : szCs cs + 1 ≤ 100 := hsm
    have fin := joint "or" cs a0 b0 ws h0 h1 h2 hw (by omega) (by omega)
    refine ⟨_, rfl, a0, _, (0 : Int), _, rfl, rfl, h0, rfl, _, rfl, rfl, _, rfl, ifs_no (by decide +kernel) ⟨_, rfl, rfl, _, rfl, ifs_no (by decide +kernel) ⟨_, rfl, rfl, _, rfl, ifs_no (by decide +kernel) fin⟩⟩⟩
theorem rc_all (ml : BN mg) (D11 : DA K mg "flag_number" (top 11) ["name", "visible"] f11 fd11) (D : DA K mg "resolved_condition" (top 12) ["condition", "visible"] f fd) : ∀ n : Nat, FnOk P w K mg base CX0 (n + 1) f fd ["condition", "visible"] (spRC K n)
  | 0 => fn_none fun vs H Q E ⟨_, _, _, _, _, _, _, _, _, _, h, _⟩ => absurd h (Nat.not_lt_zero _)
  | n + 1 => ok_rc ml D11 D (rc_all ml D11 D n)
end
end K23
namespace K23
open PySem PySem.Spec PyProof.Rows L2 Fl RT
local macro_rules | `(tactic| ac_rfl) => `(tactic| (
  first
    | with_reducible refine Stp.go ?_
    | with_reducible refine st_var (by with_unfolding_all exact rfl) ?_
    | with_reducible refine st_ixt (by with_unfolding_all assumption) (by with_unfolding_all exact rfl) ?_
    | with_reducible refine st_ixl (by with_unfolding_all assumption) (by with_unfolding_all exact rfl) ?_
    | with_reducible refine st_eq (by with_unfolding_all exact rfl) ?_
    | with_reducible refine st_bl ?_
    | with_reducible refine ifb_t ?_
    | with_reducible refine ifb_f ?_
    | with_reducible refine ifs_no (by decide +kernel) ?_
    | with_reducible refine ifs_yes rfl ?_
    | with_reducible refine ifs_yes lab_rfl ?_
    | with_reducible refine ifs_yes num_rfl ?_
    | with_reducible refine ifn_no (by decide +kernel) ?_
    | with_reducible refine ifn_yes rfl ?_
    | with_reducible refine ifnb_t ?_
    | with_reducible refine ifnb_f ?_
    | with_reducible refine st_ne (by with_unfolding_all exact rfl) ?_
    | with_reducible refine st_ix0 (by with_unfolding_all assumption) ?_))
/-- a method at the top -/
structure DM (K : PySem.W.Frag) (C : Addr) (m qual : Str) (st : Stmt) (ps : List Str) (f : Addr) (fd : FuncData) : Prop where
  F : Fun K m qual st f fd
  M : Meth K C m f
  b : Binds K fd ps []
theorem pe_mt {X : Cx} {C : Addr} {m qual : Str} {st : Stmt} {ps : List Str} {f : Addr} {fd : FuncData} {sp : Sp} {k : Nat} {pos apos : Pos} {o e : Expr} {es : List Expr} {ta : TE} {t : TA} {pl : Sem Bool} (D : DM X.K C m qual st ps f fd) (c : Cls X.K C) (G : FnOk X.prog X.w X.K X.mg X.base CX0 k f fd ps sp) (hr : Room k X.A) (ho : PE X o ta) (ha : PA X (e :: es) t)
    (hst : starEach (e :: es) X.env = (false, eval e X.env) :: starEach es X.env := by rfl) (hpl : (backTo pos (starEach es X.env)).any (·.1) = false := by rfl)
    (ht : eval (.Call (.Attribute o m apos) (e :: es) [] pos) X.env = (do
      let ov ← eval o X.env
      standAt apos.atName
      let (f, first) ← holding [ov] (getMethod ov m pl)
      callWith pos f first (backTo pos (starEach (e :: es) X.env)) (backToKw pos (keywordEach [] X.env))) := by rfl) : PE X (.Call (.Attribute o m apos) (e :: es) [] pos) (tMeth C m sp [] E0 ta t) :=
  pe_meth (pl := pl) ho c D.M G hr D.b .nil pass0 ha hst hpl ht
theorem look_in {k : Str} {v : V} {r : List (Str × V)} : List.lookup k ((k, v) :: r) = some v := by
  simp [List.lookup]
theorem look_by {k g : Str} {v : V} {r : List (Str × V)} (h : (k == g) = false) : List.lookup k ((g, v) :: r) = List.lookup k r := by
  simp only [List.lookup, h]
theorem put_in {f : Str} {v x : V} {r : List (Str × V)} : putF f v ((f, x) :: r) = (f, v) :: r := if_pos rfl
theorem put_by {f g : Str} {v x : V} {r : List (Str × V)} (h : ¬ g = f) : putF f v ((g, x) :: r) = (g, x) :: putF f v r := if_neg h
abbrev jR (c : Int) : List (Str × V) := [("count", .int c)]
theorem jR_no {m : Str} {c : Int} (h : (m == ("count" : Str)) = false) : (jR c).lookup m = none := look_by h
/-- the class Resolver -/
structure RCls (K : PySem.W.Frag) (mg : Str → Option Value) (C fi : Addr) : Prop where
  cl : Cls K C
  nC : NoAttr K C "count"
  g : mg "Resolver" = some (.ref C)
  mk_ : Mk K C fi
/-- what a statement adds to the count by itself -/
def letsI : Stm → Nat
  | .letf _ _ => 0
  | s => letsS s
theorem letsI_adds (s : Stm) : letsI s + (addsS s).length = letsS s := by
  cases s <;> simp [letsI, addsS, letsS]
def spRI (C : Addr) : Sp := fun vs H Q _ => ∃ (p dx : Addr), vs = [.ref p] ∧ H p = some (.ins C dx []) ∧ ∀ H' : Hp, H' p = some (.ins C dx (jR 0)) → (∀ b o, H b = some o → b ≠ p → H' b = some o) → Q .non H'
/-- the three methods: u the body's or the statement's value -/
structure RAt (K : PySem.W.Frag) (C : Addr) (H : Hp) (r dx : Addr) (c : Int) (va la : Addr) (fs : List (Nm × Int)) (ls : List (Option Nm)) : Prop where
  r : H r = some (.ins C dx (jR c))
  v : ∃ us, SqT K H va us ∧ VisP K H fs us
  l : SqT K H la (ls.map labV)
theorem RAt.tk {K : PySem.W.Frag} {C : Addr} {H H' : Hp} {r dx : Addr} {c c' : Int} {va la : Addr} {fs : List (Nm × Int)} {ls : List (Option Nm)} (R : RAt K C H r dx c va la fs ls) (k : TK K H H') (h : H' r = some (.ins C dx (jR c'))) : RAt K C H' r dx c' va la fs ls :=
  ⟨h, let ⟨us, a, b⟩ := R.v; ⟨us, k _ _ a, b.mono k⟩, k _ _ R.l⟩
def spRB (K : PySem.W.Frag) (C : Addr) (n : Nat) : Sp := fun vs H Q _ => ∃ (r dx : Addr) (c : Int) (bv : V) (ss : Stms) (va la : Addr) (fs : List (Nm × Int)) (ls : List (Option Nm)) (lz : Bool), vs = [.ref r, bv, .ref va, .ref la] ∧ RAt K C H r dx c va la fs ls ∧ EncR K H ss bv ∧
  wfR (fs.map (·.1)) [] ls.length lz ss ∧ szR ss < n ∧ szR ss + fs.length ≤ 300 ∧ szR ss + ls.length ≤ 300 ∧
  ∀ (t : Addr) (xs : List V) (H' : Hp), Fr (fun b => b = r) H H' → H' r = some (.ins C dx (jR (c + letsR ss))) → SqT K H' t xs → xs.length ≤ szR ss → Q (.ref t) H'
def stOk (vis : List Nm) (lp : Nat) (lz : Bool) (s : Stm) : Prop := (∀ x ∈ addsS s, x ∈ vis) ∧ ∃ own, wfS vis own lp lz s
def spRS (K : PySem.W.Frag) (C : Addr) (n : Nat) : Sp := fun vs H Q _ => ∃ (r dx : Addr) (c : Int) (sv : V) (s : Stm) (va la : Addr) (fs : List (Nm × Int)) (ls : List (Option Nm)) (lz : Bool), vs = [.ref r, sv, .ref va, .ref la] ∧ RAt K C H r dx c va la fs ls ∧ EncS K H s sv ∧
  stOk (fs.map (·.1)) ls.length lz s ∧ szS s < n ∧ szS s + fs.length ≤ 301 ∧ szS s + ls.length ≤ 300 ∧
  ∀ (t : Addr) (xs : List V) (H' : Hp), Fr (fun b => b = r) H H' → H' r = some (.ins C dx (jR (c + letsI s))) → SqT K H' t xs → xs.length ≤ szS s → Q (.ref t) H'
def isCmp : Stm → Bool
  | .ite _ _ _ => true
  | .whl _ _ _ => true
  | .forl _ _ => true
  | .tryf _ _ => true
  | _ => false
def spRC2 (K : PySem.W.Frag) (C : Addr) (n : Nat) : Sp := fun vs H Q _ => ∃ (r dx : Addr) (c : Int) (sv : V) (s : Stm) (va la : Addr) (fs : List (Nm × Int)) (ls : List (Option Nm)) (lz : Bool), vs = [.ref r, sv, .ref va, .ref la] ∧ RAt K C H r dx c va la fs ls ∧ EncS K H s sv ∧ isCmp s = true ∧
  stOk (fs.map (·.1)) ls.length lz s ∧ szS s < n ∧ szS s + fs.length ≤ 301 ∧ szS s + ls.length ≤ 300 ∧
  ∀ (v : V) (H' : Hp), Fr (fun b => b = r) H H' → H' r = some (.ins C dx (jR (c + letsI s))) → Q v H'
theorem scRI : FnScope ["self"] ["self"] (defScope (inClass (top 15) 0)) := ⟨rfl, rfl, rfl, by decide +kernel, rfl, by decide +kernel, by decide +kernel⟩
theorem scRB : FnScope ["self", "body", "visible", "labels", "found", "here", "statement"] ["self", "body", "visible", "labels"] (defScope (inClass (top 15) 1)) := ⟨rfl, rfl, rfl, by decide +kernel, rfl, by decide +kernel, by decide +kernel⟩
theorem scRS : FnScope ["self", "statement", "visible", "labels", "kind"] ["self", "statement", "visible", "labels"] (defScope (inClass (top 15) 2)) := ⟨rfl, rfl, rfl, by decide +kernel, rfl, by decide +kernel, by decide +kernel⟩
theorem scRC2 : FnScope ["self", "statement", "visible", "labels", "kind", "condition", "first", "body"] ["self", "statement", "visible", "labels"] (defScope (inClass (top 15) 3)) := ⟨rfl, rfl, rfl, by decide +kernel, rfl, by decide +kernel, by decide +kernel⟩
theorem Fr.ins_tk {K : PySem.W.Frag} {H H' : Hp} {r C dx : Addr} {fs : List (Str × V)} (h : Fr (fun b => b = r) H H') (hr : H r = some (.ins C dx fs)) : TK K H H' :=
  h.tk fun b z => by
    subst z
    rw [hr]
    exact ⟨fun xs e => (by cases e), fun o u e => (by cases e)⟩
/-- the labels with one more -/
theorem cat_lab {K : PySem.W.Frag} {H : Hp} {p la : Addr} {l : Option Nm} {ls : List (Option Nm)} {Q : VK} (hp : SqT K H p [labV l]) (hl : SqT K H la (ls.map labV)) (hb : ls.length ≤ 300) (q : ∀ p' H', Same H H' → SqT K H' p' ((l :: ls).map labV) → Q (.ref p') H') : rCatA K (.ref p) (.ref la) H Q := by
  refine ⟨p, la, [labV l], ls.map labV, rfl, rfl, hp, hl, ?_, fun z => (by cases z), fun _ z => ?_, fun _ z p' hp' => q p' _ (same_new hp' _) (.inl (.inl upd_same))⟩
  · rw [List.length_map]
    exact small3 (by show 1 + _ ≤ _; omega)
  · have hls : ls = [] := List.map_eq_nil_iff.mp z
    subst hls
    exact q p H (fun _ _ z => z) hp
section
variable {P : Program} {w : World} {K : PySem.W.Frag} {mg : Str → Option Value} {base : Heap} {C fi fB fS fC : Addr} {di dB dS dC : FuncData} {f11 f12 f13 f14 : Addr} {d11 d12 d13 d14 : FuncData}
theorem ok_RI (T : RCls K mg C fi) (D : DM K C "__init__" "Resolver.__init__" (inClass (top 15) 0) ["self"] fi di) : FnOk P w K mg base CX0 1 fi di ["self"] (spRI C) := by
  refine D.F.ok scRI (fun vs H Q E h => ?_) (fun cdv A outer s H vs Q E hr h => ?_)
  · obtain ⟨p, dx, rfl, _⟩ := h
    rfl
  obtain ⟨p, dx, rfl, hp, q⟩ := h
  refine ⟨_, (pss_one (ps_fld (pv 0) pe_int rfl)), ?_⟩
  refine ⟨_, rfl, p, C, dx, [], rfl, hp, T.cl, T.nC, (by show 0 < 1000; decide), ?_⟩
  exact q _ (by rw [upd_same]; rfl) fun b o e hb => by rw [upd_ne hb]; exact e
theorem ok_RC2 {n : Nat} (ml : BN mg) (T : RCls K mg C fi) (D11 : DA K mg "flag_number" (top 11) ["name", "visible"] f11 d11) (D12 : DA K mg "resolved_condition" (top 12) ["condition", "visible"] f12 d12)
    (DB : DM K C "body" "Resolver.body" (inClass (top 15) 1) ["self", "body", "visible", "labels"] fB dB) (D : DM K C "compound" "Resolver.compound" (inClass (top 15) 3) ["self", "statement", "visible", "labels"] fC dC)
    (GB : FnOk P w K mg base CX0 (3 * n + 25) fB dB ["self", "body", "visible", "labels"] (spRB K C n)) : FnOk P w K mg base CX0 (3 * n + 26) fC dC ["self", "statement", "visible", "labels"] (spRC2 K C (n + 1)) := by
  refine D.F.ok scRC2 (fun vs H Q E h => ?_) (fun cdv A outer s H vs Q E hr h => ?_)
  · obtain ⟨r, dx, c, sv, s, va, la, fs, ls, lz, rfl, _⟩ := h
    rfl
  obtain ⟨r, dx, c, sv, st, va, la, fs, ls, lz, rfl, R, he, hcm, ⟨_, own, hw⟩, hsz, hb1, hb2, q⟩ := h
  have Gc := rc_all (P := P) (w := w) (base := base) ml D11 D12 19
  refine ⟨_, (pss_cons (ps_set (i := 4) scRC2.nd rfl (Or.inl rfl) (pe_ix ix_tup (pv 1) pe_int (fun _ _ => rfl)))
      (pss_cons (ps_if (pt_cmpR op_eq (pv 4) pe_str (nomark _)) (pss_cons (ps_set (i := 5) scRC2.nd rfl (Or.inl rfl) (pe_cl D12 Gc (hr.mono (by omega)) (pa_cons (pe_ix ix_tup (pv 1) pe_int (fun _ _ => rfl)) (pa_cons (pv 2) pa_nil))))
      (pss_cons (ps_set (i := 6) scRC2.nd rfl (Or.inl rfl) (pe_mt DB T.cl GB (hr.mono (by omega)) (pv 0) (pa_cons (pe_ix ix_tup (pv 1) pe_int (fun _ _ => rfl)) (pa_cons (pv 2) (pa_cons (pv 3) pa_nil)))))
      (pss_one (ps_ret (pe_tup (pa_cons pe_str (pa_cons (pv 5) (pa_cons (pv 6) (pa_cons (pe_mt DB T.cl GB (hr.mono (by omega)) (pv 0) (pa_cons (pe_ix ix_tup (pv 1) pe_int (fun _ _ => rfl)) (pa_cons (pv 2) (pa_cons (pv 3) pa_nil)))) pa_nil))))))))) pss_nil)
      (pss_cons (ps_if (pt_cmpR op_eq (pv 4) pe_str (nomark _)) (pss_cons (ps_set (i := 5) scRC2.nd rfl (Or.inl rfl) (pe_cl D12 Gc (hr.mono (by omega)) (pa_cons (pe_ix ix_tup (pv 1) pe_int (fun _ _ => rfl)) (pa_cons (pv 2) pa_nil))))
      (pss_one (ps_ret (pe_tup (pa_cons pe_str (pa_cons pe_non (pa_cons (pv 5) (pa_cons (pe_mt DB T.cl GB (hr.mono (by omega)) (pv 0) (pa_cons (pe_ix ix_tup (pv 1) pe_int (fun _ _ => rfl)) (pa_cons (pv 2) (pa_cons (pe_op op_catA (pe_tup (pa_cons (pe_ix ix_tup (pv 1) pe_int (fun _ _ => rfl)) pa_nil)) (pv 3)) pa_nil)))) pa_nil)))))))) pss_nil)
      (pss_cons (ps_if (pt_cmpR op_eq (pv 4) pe_str (nomark _)) (pss_one (ps_ret (pe_tup (pa_cons pe_str (pa_cons pe_non (pa_cons (pe_mt DB T.cl GB (hr.mono (by omega)) (pv 0) (pa_cons (pe_ix ix_tup (pv 1) pe_int (fun _ _ => rfl)) (pa_cons (pv 2) (pa_cons (pe_op op_catA (pe_tup (pa_cons (pe_ix ix_tup (pv 1) pe_int (fun _ _ => rfl)) pa_nil)) (pv 3)) pa_nil)))) pa_nil)))))) pss_nil)
      (pss_cons (ps_set (i := 7) scRC2.nd rfl (Or.inl rfl) (pe_mt DB T.cl GB (hr.mono (by omega)) (pv 0) (pa_cons (pe_ix ix_tup (pv 1) pe_int (fun _ _ => rfl)) (pa_cons (pv 2) (pa_cons (pv 3) pa_nil)))))
      (pss_one (ps_ret (pe_tup (pa_cons pe_str (pa_cons (pv 7) (pa_cons (pe_mt DB T.cl GB (hr.mono (by omega)) (pv 0) (pa_cons (pe_ix ix_tup (pv 1) pe_int (fun _ _ => rfl)) (pa_cons (pv 2) (pa_cons (pv 3) pa_nil)))) pa_nil))))))))))), ?_⟩
  have frTup : ∀ {H1 : Hp} {p : Addr} {xs : List V}, H1 p = none → Fr (fun b => b = r) H1 (upd H1 p (.tup xs)) := fun hp => Fr.refl.upd (.inr hp)
  -- the labels with one more
  obtain ⟨us, hva, hvis⟩ := R.v
  cases st with
  | ite cd a b =>
    obtain ⟨u, p1, p2, ps, qs, ⟨a0, rfl, h0⟩, h1, h2, h3, h4, h5⟩ := he
    obtain ⟨hwc, hsc, hwa, hwb⟩ := hw
    have ez : szR a + szR b + 1 = szS (.ite cd a b) := rfl
    repeat ac_rfl
    refine ⟨u, cd, va, us, fs, rfl, h1, hva, hvis, hwc, by omega, by omega, fun v1 H1 g1 => ?_⟩
    have k1 : TK K H H1 := TK.of_same g1
    have R1 := R.tk k1 (g1 _ _ R.r)
    have h0' := k1 _ _ h0
    repeat ac_rfl
    refine ⟨_, rfl, r, dx, _, rfl, R1.r, jR_no (by decide +kernel), ?_⟩
    repeat ac_rfl
    refine ⟨r, dx, c, _, a, va, la, fs, ls, lz, rfl, R1, ⟨p1, ps, rfl, k1 _ _ h2, EncX.mono k1 a h3⟩, hwa, by omega, by omega, by omega, fun t2 xs2 H2 f2 e2 h6 _ => ?_⟩
    have k2 : TK K H1 H2 := f2.ins_tk R1.r
    have R2 := R1.tk k2 e2
    have h0'' := k2 _ _ h0'
    repeat ac_rfl
    refine ⟨_, rfl, r, dx, _, rfl, R2.r, jR_no (by decide +kernel), ?_⟩
    repeat ac_rfl
    refine ⟨r, dx, _, _, b, va, la, fs, ls, lz, rfl, R2, ⟨p2, qs, rfl, k2 _ _ (k1 _ _ h4), EncX.mono (k1.trans k2) b h5⟩, hwb, by omega, by omega, by omega, fun t3 xs3 H3 f3 e3 h7 _ => ?_⟩
    refine ⟨small3 (by show 4 ≤ _; omega), fun p hp => q _ _ ((Fr.of_same g1).trans (f2.trans (f3.trans (frTup hp)))) ?_⟩
    rw [upd_ne (ne_of_none e3 hp), e3]
    have e4 : letsI (.ite cd a b) = letsR a + letsR b := rfl
    rw [e4, Int.natCast_add, Int.add_assoc]
  | whl l cd a =>
    obtain ⟨u, p1, ps, ⟨a0, rfl, h0⟩, h1, h2, h3⟩ := he
    obtain ⟨hwl, hwc, hsc, hwa⟩ := hw
    have ez : szR a + 1 = szS (.whl l cd a) := rfl
    repeat ac_rfl
    refine ⟨u, cd, va, us, fs, rfl, h1, hva, hvis, hwc, by omega, by omega, fun v1 H1 g1 => ?_⟩
    have k1 : TK K H H1 := TK.of_same g1
    have R1 := R.tk k1 (g1 _ _ R.r)
    have h0' := k1 _ _ h0
    repeat ac_rfl
    refine ⟨_, rfl, r, dx, _, rfl, R1.r, jR_no (by decide +kernel), ?_⟩
    repeat ac_rfl
    refine ⟨small3 (by show 1 ≤ _; omega), fun p hp => ?_⟩
    have k2 : TK K H1 (upd H1 p (.tup [labV l])) := TK.new hp _
    repeat ac_rfl
    refine cat_lab (.inl (.inl upd_same)) (k2 _ _ R1.l) (by omega) fun p' H3 g3 hl3 => ?_
    have k3 : TK K H H3 := (k1.trans k2).trans (TK.of_same g3)
    have er : H3 r = some (.ins C dx (jR c)) := g3 _ _ (by rw [upd_ne (ne_of_none R1.r hp)]; exact R1.r)
    repeat ac_rfl
    refine ⟨r, dx, c, _, a, va, p', fs, l :: ls, lz, rfl, ⟨er, ⟨us, k3 _ _ hva, hvis.mono k3⟩, hl3⟩, ⟨p1, ps, rfl, k3 _ _ h2, EncX.mono k3 a h3⟩, hwa, by omega, by omega, by show szR a + (ls.length + 1) ≤ 300; omega, fun t3 xs3 H4 f3 e3 h7 _ => ?_⟩
    refine ⟨small3 (by show 4 ≤ _; omega), fun p3 hp3 => q _ _ ((Fr.of_same g1).trans ((frTup hp).trans ((Fr.of_same g3).trans (f3.trans (frTup hp3))))) ?_⟩
    rw [upd_ne (ne_of_none e3 hp3), e3]
    rfl
  | forl l a =>
    obtain ⟨p1, ps, ⟨a0, rfl, h0⟩, h2, h3⟩ := he
    obtain ⟨hwl, hwa⟩ := hw
    have ez : szR a + 1 = szS (.forl l a) := rfl
    repeat ac_rfl
    refine ⟨_, rfl, r, dx, _, rfl, R.r, jR_no (by decide +kernel), ?_⟩
    repeat ac_rfl
    refine ⟨small3 (by show 1 ≤ _; omega), fun p hp => ?_⟩
    have k2 : TK K H (upd H p (.tup [labV l])) := TK.new hp _
    repeat ac_rfl
    refine cat_lab (.inl (.inl upd_same)) (k2 _ _ R.l) (by omega) fun p' H3 g3 hl3 => ?_
    have k3 : TK K H H3 := k2.trans (TK.of_same g3)
    have er : H3 r = some (.ins C dx (jR c)) := g3 _ _ (by rw [upd_ne (ne_of_none R.r hp)]; exact R.r)
    repeat ac_rfl
    refine ⟨r, dx, c, _, a, va, p', fs, l :: ls, lz, rfl, ⟨er, ⟨us, k3 _ _ hva, hvis.mono k3⟩, hl3⟩, ⟨p1, ps, rfl, k3 _ _ h2, EncX.mono k3 a h3⟩, hwa, by omega, by omega, by show szR a + (ls.length + 1) ≤ 300; omega, fun t3 xs3 H4 f3 e3 h7 _ => ?_⟩
    refine ⟨small3 (by show 3 ≤ _; omega), fun p3 hp3 => q _ _ ((frTup hp).trans ((Fr.of_same g3).trans (f3.trans (frTup hp3)))) ?_⟩
    rw [upd_ne (ne_of_none e3 hp3), e3]
    rfl
  | tryf a b =>
    obtain ⟨p1, p2, ps, qs, ⟨a0, rfl, h0⟩, h2, h3, h4, h5⟩ := he
    obtain ⟨hlz, hwa, hwb⟩ := hw
    have ez : szR a + szR b + 1 = szS (.tryf a b) := rfl
    repeat ac_rfl
    refine ⟨_, rfl, r, dx, _, rfl, R.r, jR_no (by decide +kernel), ?_⟩
    repeat ac_rfl
    refine ⟨r, dx, c, _, a, va, la, fs, ls, lz, rfl, R, ⟨p1, ps, rfl, h2, h3⟩, hwa, by omega, by omega, by omega, fun t2 xs2 H2 f2 e2 h6 _ => ?_⟩
    have k2 : TK K H H2 := f2.ins_tk R.r
    have R2 := R.tk k2 e2
    have h0'' := k2 _ _ h0
    repeat ac_rfl
    refine ⟨_, rfl, r, dx, _, rfl, R2.r, jR_no (by decide +kernel), ?_⟩
    repeat ac_rfl
    refine ⟨r, dx, _, _, b, va, la, fs, ls, true, rfl, R2, ⟨p2, qs, rfl, k2 _ _ h4, EncX.mono k2 b h5⟩, hwb, by omega, by omega, by omega, fun t3 xs3 H3 f3 e3 h7 _ => ?_⟩
    refine ⟨small3 (by show 3 ≤ _; omega), fun p hp => q _ _ (f2.trans (f3.trans (frTup hp))) ?_⟩
    rw [upd_ne (ne_of_none e3 hp), e3]
    have e4 : letsI (.tryf a b) = letsR a + letsR b := rfl
    rw [e4, Int.natCast_add, Int.add_assoc]
  | _ => exact absurd hcm (by simp [isCmp])
end
end K23
namespace K23
open PySem PySem.Spec PyProof.Rows L2 Fl RT
local macro_rules | `(tactic| ac_rfl) => `(tactic| (
  first
    | with_reducible refine Stp.go ?_
    | with_reducible refine st_var (by with_unfolding_all exact rfl) ?_
    | with_reducible refine st_ixt (by with_unfolding_all assumption) (by with_unfolding_all exact rfl) ?_
    | with_reducible refine st_ixl (by with_unfolding_all assumption) (by with_unfolding_all exact rfl) ?_
    | with_reducible refine st_eq (by with_unfolding_all exact rfl) ?_
    | with_reducible refine st_bl ?_
    | with_reducible refine ifb_t ?_
    | with_reducible refine ifb_f ?_
    | with_reducible refine ifs_no (by decide +kernel) ?_
    | with_reducible refine ifs_yes rfl ?_
    | with_reducible refine ifs_yes lab_rfl ?_
    | with_reducible refine ifs_yes num_rfl ?_
    | with_reducible refine ifn_no (by decide +kernel) ?_
    | with_reducible refine ifn_yes rfl ?_
    | with_reducible refine ifnb_t ?_
    | with_reducible refine ifnb_f ?_
    | with_reducible refine st_ne (by with_unfolding_all exact rfl) ?_
    | with_reducible refine st_ix0 (by with_unfolding_all assumption) ?_))
section
variable {P : Program} {w : World} {K : PySem.W.Frag} {mg : Str → Option Value} {base : Heap} {C fi fB fS fC : Addr} {di dB dS dC : FuncData} {f11 f12 f13 f14 : Addr} {d11 d12 d13 d14 : FuncData}
theorem ok_RS {n : Nat} (ml : BN mg) (T : RCls K mg C fi) (D11 : DA K mg "flag_number" (top 11) ["name", "visible"] f11 d11) (D13 : DA K mg "resolved_jump" (top 13) ["statement", "labels"] f13 d13) (D14 : DA K mg "resolved_return" (top 14) ["number"] f14 d14)
    (DB : DM K C "body" "Resolver.body" (inClass (top 15) 1) ["self", "body", "visible", "labels"] fB dB) (DC : DM K C "compound" "Resolver.compound" (inClass (top 15) 3) ["self", "statement", "visible", "labels"] fC dC)
    (D : DM K C "statement" "Resolver.statement" (inClass (top 15) 2) ["self", "statement", "visible", "labels"] fS dS)
    (GB : FnOk P w K mg base CX0 (3 * n + 25) fB dB ["self", "body", "visible", "labels"] (spRB K C n)) (GC : FnOk P w K mg base CX0 (3 * n + 26) fC dC ["self", "statement", "visible", "labels"] (spRC2 K C (n + 1))) :
    FnOk P w K mg base CX0 (3 * n + 27) fS dS ["self", "statement", "visible", "labels"] (spRS K C (n + 1)) := by
  refine D.F.ok scRS (fun vs H Q E h => ?_) (fun cdv A outer s H vs Q E hr h => ?_)
  · obtain ⟨r, dx, c, sv, s, va, la, fs, ls, lz, rfl, _⟩ := h
    rfl
  obtain ⟨r, dx, c, sv, st, va, la, fs, ls, lz, rfl, R, he, ⟨hadd, own, hw⟩, hsz, hb1, hb2, q⟩ := h
  have GF := ok_flagNo (P := P) (w := w) (base := base) ml D11
  have GJ := ok_rjump (P := P) (w := w) (base := base) ml D13
  have GR := ok_rret (P := P) (w := w) (base := base) ml D14
  refine ⟨_, (pss_cons (ps_set (i := 4) scRS.nd rfl (Or.inl rfl) (pe_ix ix_tup (pv 1) pe_int (fun _ _ => rfl)))
      (pss_cons (ps_if (pt_cmpR op_eq (pv 4) pe_str (nomark _)) (pss_one (ps_ret (pe_mt DB T.cl GB (hr.mono (by omega)) (pv 0) (pa_cons (pe_ix ix_tup (pv 1) pe_int (fun _ _ => rfl)) (pa_cons (pv 2) (pa_cons (pv 3) pa_nil)))))) pss_nil)
      (pss_cons (ps_if (pt_cmpR op_eq (pv 4) pe_str (nomark _)) (pss_one (ps_ret (pe_tup (pa_cons (pv 1) pa_nil)))) pss_nil)
      (pss_cons (ps_if (pw_or (pt_cmpR op_eq (pv 4) pe_str (nomark _)) (pw_or1 (pt_cmpR op_eq (pv 4) pe_str (nomark _)))).pt (pss_one (ps_ret (pe_tup (pa_cons (pe_tup (pa_cons pe_str (pa_cons (pe_cl D11 GF (hr.mono (by omega)) (pa_cons (pe_ix ix_tup (pv 1) pe_int (fun _ _ => rfl)) (pa_cons (pv 2) pa_nil))) (pa_cons (pe_ix ix_tup (pv 1) pe_int (fun _ _ => rfl)) pa_nil)))) pa_nil)))) pss_nil)
      (pss_cons (ps_if (pw_or (pt_cmpR op_eq (pv 4) pe_str (nomark _)) (pw_or1 (pt_cmpR op_eq (pv 4) pe_str (nomark _)))).pt (pss_one (ps_ret (pe_tup (pa_cons (pe_cl D13 GJ (hr.mono (by omega)) (pa_cons (pv 1) (pa_cons (pv 3) pa_nil))) pa_nil)))) pss_nil)
      (pss_cons (ps_if (pt_cmpR op_eq (pv 4) pe_str (nomark _)) (pss_one (ps_ret (pe_tup (pa_cons (pe_cl D14 GR (hr.mono (by omega)) (pa_cons (pe_ix ix_tup (pv 1) pe_int (fun _ _ => rfl)) pa_nil)) pa_nil)))) pss_nil)
      (pss_one (ps_ret (pe_tup (pa_cons (pe_mt DC T.cl GC (hr.mono (by omega)) (pv 0) (pa_cons (pv 1) (pa_cons (pv 2) (pa_cons (pv 3) pa_nil)))) pa_nil)))))))))), ?_⟩
  obtain ⟨us, hva, hvis⟩ := R.v
  -- a new tuple of one
  have one : ∀ (v : V) (H1 : Hp), Fr (fun b => b = r) H H1 → H1 r = some (.ins C dx (jR (c + letsI st))) → ([v] : List V).length ≤ sizeLine ∧ ∀ p, H1 p = none → Q (.ref p) (upd H1 p (.tup [v])) := fun v H1 f1 e1 => ⟨small3 (by show 1 ≤ _; omega), fun p hp => q p [v] _ (f1.trans (Fr.refl.upd (.inr hp))) (by rw [upd_ne (ne_of_none e1 hp)]; exact e1) (.inl (.inl upd_same)) (szS_pos st)⟩
  have R0 : letsI st = 0 → H r = some (.ins C dx (jR (c + letsI st))) := fun z => by rw [z, R.r]; simp
  cases st with
  | call m =>
    obtain ⟨a0, rfl, h0⟩ := he
    repeat ac_rfl
    exact one _ H Fr.refl (R0 rfl)
  | letf x b =>
    obtain ⟨a0, rfl, h0⟩ := he
    repeat ac_rfl
    refine ⟨x, va, us, fs, rfl, hva, hvis, hadd x (by simp [addsS]), fun k => ?_⟩
    repeat ac_rfl
    refine ⟨small3 (by show 3 ≤ _; omega), fun p hp => ?_⟩
    repeat ac_rfl
    exact one _ _ (Fr.refl.upd (.inr hp)) (by rw [upd_ne (ne_of_none R.r hp)]; exact R0 rfl)
  | setf x b =>
    obtain ⟨a0, rfl, h0⟩ := he
    repeat ac_rfl
    refine ⟨x, va, us, fs, rfl, hva, hvis, hw, fun k => ?_⟩
    repeat ac_rfl
    refine ⟨small3 (by show 3 ≤ _; omega), fun p hp => ?_⟩
    repeat ac_rfl
    exact one _ _ (Fr.refl.upd (.inr hp)) (by rw [upd_ne (ne_of_none R.r hp)]; exact R0 rfl)
  | brk l =>
    obtain ⟨a0, rfl, h0⟩ := he
    repeat ac_rfl
    refine ⟨a0, la, "break", l, ls, rfl, h0, (by decide +kernel), hw.1, R.l, by omega, hw.2, fun v H1 g1 => ?_⟩
    repeat ac_rfl
    exact one _ _ (Fr.of_same g1) (g1 _ _ (R0 rfl))
  | cont l =>
    obtain ⟨a0, rfl, h0⟩ := he
    repeat ac_rfl
    refine ⟨a0, la, "continue", l, ls, rfl, h0, (by decide +kernel), hw.1, R.l, by omega, hw.2, fun v H1 g1 => ?_⟩
    repeat ac_rfl
    exact one _ _ (Fr.of_same g1) (g1 _ _ (R0 rfl))
  | ret m =>
    obtain ⟨a0, rfl, h0⟩ := he
    repeat ac_rfl
    refine ⟨m, rfl, hw, fun v H1 g1 => ?_⟩
    repeat ac_rfl
    exact one _ _ (Fr.of_same g1) (g1 _ _ (R0 rfl))
  | block a =>
    obtain ⟨p1, ps, ⟨a0, rfl, h0⟩, h2, h3⟩ := he
    have ez : szR a + 1 = szS (.block a) := rfl
    repeat ac_rfl
    refine ⟨_, rfl, r, dx, _, rfl, R.r, jR_no (by decide +kernel), ?_⟩
    repeat ac_rfl
    exact ⟨r, dx, c, _, a, va, la, fs, ls, lz, rfl, R, ⟨p1, ps, rfl, h2, h3⟩, hw, by omega, by omega, by omega, fun t2 xs2 H2 f2 e2 h6 h7 => q t2 xs2 H2 f2 e2 h6 (by omega)⟩
  | ite cd a b =>
    have he0 := he
    obtain ⟨u, p1, p2, ps, qs, ⟨a0, rfl, h0⟩, h1, h2, h3, h4, h5⟩ := he
    repeat ac_rfl
    refine ⟨_, rfl, r, dx, _, rfl, R.r, jR_no (by decide +kernel), ?_⟩
    repeat ac_rfl
    refine ⟨r, dx, c, _, .ite cd a b, va, la, fs, ls, lz, rfl, R, he0, rfl, ⟨hadd, own, hw⟩, hsz, hb1, hb2, fun v H2 f2 e2 => ?_⟩
    repeat ac_rfl
    exact one _ _ f2 e2
  | whl l cd a =>
    have he0 := he
    obtain ⟨u, p1, ps, ⟨a0, rfl, h0⟩, h1, h2, h3⟩ := he
    repeat ac_rfl
    refine ⟨_, rfl, r, dx, _, rfl, R.r, jR_no (by decide +kernel), ?_⟩
    repeat ac_rfl
    refine ⟨r, dx, c, _, .whl l cd a, va, la, fs, ls, lz, rfl, R, he0, rfl, ⟨hadd, own, hw⟩, hsz, hb1, hb2, fun v H2 f2 e2 => ?_⟩
    repeat ac_rfl
    exact one _ _ f2 e2
  | forl l a =>
    have he0 := he
    obtain ⟨p1, ps, ⟨a0, rfl, h0⟩, h2, h3⟩ := he
    repeat ac_rfl
    refine ⟨_, rfl, r, dx, _, rfl, R.r, jR_no (by decide +kernel), ?_⟩
    repeat ac_rfl
    refine ⟨r, dx, c, _, .forl l a, va, la, fs, ls, lz, rfl, R, he0, rfl, ⟨hadd, own, hw⟩, hsz, hb1, hb2, fun v H2 f2 e2 => ?_⟩
    repeat ac_rfl
    exact one _ _ f2 e2
  | tryf a b =>
    have he0 := he
    obtain ⟨p1, p2, ps, qs, ⟨a0, rfl, h0⟩, h2, h3, h4, h5⟩ := he
    repeat ac_rfl
    refine ⟨_, rfl, r, dx, _, rfl, R.r, jR_no (by decide +kernel), ?_⟩
    repeat ac_rfl
    refine ⟨r, dx, c, _, .tryf a b, va, la, fs, ls, lz, rfl, R, he0, rfl, ⟨hadd, own, hw⟩, hsz, hb1, hb2, fun v H2 f2 e2 => ?_⟩
    repeat ac_rfl
    exact one _ _ f2 e2
end
end K23
namespace K23
open PySem PySem.Spec PyProof.Rows L2 Fl RT
local macro_rules | `(tactic| ac_rfl) => `(tactic| (
  first
    | with_reducible refine Stp.go ?_
    | with_reducible refine st_var (by with_unfolding_all exact rfl) ?_
    | with_reducible refine st_ixt (by with_unfolding_all assumption) (by with_unfolding_all exact rfl) ?_
    | with_reducible refine st_ixl (by with_unfolding_all assumption) (by with_unfolding_all exact rfl) ?_
    | with_reducible refine st_eq (by with_unfolding_all exact rfl) ?_
    | with_reducible refine st_bl ?_
    | with_reducible refine ifb_t ?_
    | with_reducible refine ifb_f ?_
    | with_reducible refine ifs_no (by decide +kernel) ?_
    | with_reducible refine ifs_yes rfl ?_
    | with_reducible refine ifs_yes lab_rfl ?_
    | with_reducible refine ifs_yes num_rfl ?_
    | with_reducible refine ifn_no (by decide +kernel) ?_
    | with_reducible refine ifn_yes rfl ?_
    | with_reducible refine ifnb_t ?_
    | with_reducible refine ifnb_f ?_
    | with_reducible refine st_ne (by with_unfolding_all exact rfl) ?_
    | with_reducible refine st_ix0 (by with_unfolding_all assumption) ?_))
theorem cat_vis {K : PySem.W.Frag} {H : Hp} {p va : Addr} {us : List V} {v : V} {Q : VK} (hv : SqT K H va us) (hp : SqT K H p [v]) (hb : us.length ≤ 300) (q : ∀ p' H', Same H H' → SqT K H' p' (us ++ [v]) → Q (.ref p') H') : rCatA K (.ref va) (.ref p) H Q := by
  refine ⟨va, p, us, [v], rfl, rfl, hv, hp, ?_, fun z => ?_, fun _ z => (by cases z), fun _ z p' hp' => q p' _ (same_new hp' _) (.inl (.inl upd_same))⟩
  · exact small3 (by show _ + 1 ≤ _; omega)
  · subst z
    exact q p H (fun _ _ z => z) hp
theorem all_flat (l : List Nm) : (l.map V.str).all flatV = true := by
  rw [List.all_map, List.all_eq_true]
  intro x _
  rfl
theorem not_inV {x : Nm} {l : List Nm} (h : x ∉ l) : inV (.str x) (l.map V.str) = false := by
  unfold inV
  rw [List.any_map, List.any_eq_false]
  intro y hy z
  have z' : (y == x) = true := z
  exact h (by rw [← beq_iff_eq.mp z']; exact hy)
section
variable {P : Program} {w : World} {K : PySem.W.Frag} {mg : Str → Option Value} {base : Heap} {C fi fB fS fC : Addr} {di dB dS dC : FuncData}
theorem ok_RB {n : Nat} (ml : BN mg) (T : RCls K mg C fi) (DS : DM K C "statement" "Resolver.statement" (inClass (top 15) 2) ["self", "statement", "visible", "labels"] fS dS) (D : DM K C "body" "Resolver.body" (inClass (top 15) 1) ["self", "body", "visible", "labels"] fB dB)
    (GS : FnOk P w K mg base CX0 (3 * n + 27) fS dS ["self", "statement", "visible", "labels"] (spRS K C (n + 1))) : FnOk P w K mg base CX0 (3 * n + 28) fB dB ["self", "body", "visible", "labels"] (spRB K C (n + 1)) := by
  refine D.F.ok scRB (fun vs H Q E h => ?_) (fun cdv A outer s H vs Q E hr h => ?_)
  · obtain ⟨r, dx, c, bv, ss, va, la, fs, ls, lz, rfl, _⟩ := h
    rfl
  obtain ⟨r, dx, c, bv, ss, va, la, fs, ls, lz, rfl, R, ⟨pb, bs, rfl, hS, hx⟩, hw, hsz, hb1, hb2, q⟩ := h
  refine ⟨_, (pss_cons (ps_set (i := 4) scRB.nd rfl (Or.inl rfl) (pe_lst pa_nil))
      (pss_cons (ps_set (i := 5) scRB.nd rfl (Or.inl rfl) (pe_lst pa_nil))
      (pss_cons (ps_for PassesOwn.never rfl (pi_tup (pv 1)) (pg_name (i := 6) scRB.nd rfl (Or.inl rfl)) (pss_cons (ps_if (pt_cmpR op_eq (pe_ix ix_tup (pv 6) pe_int (fun _ _ => rfl)) pe_str (nomark _)) (pss_cons (ps_if (pt_cmpR op_in_seq (pe_ix ix_tup (pv 6) pe_int (fun _ _ => rfl)) (pv 5) (by with_unfolding_all rfl)) (pss_one ps_never) pss_nil)
      (pss_cons (ps_expr (pe_bm PySem.F.plainAttrs_list PySem.F.slot_list_append PySem.F.type_list_append mt_append (pv 5) (pa_cons (pe_ix ix_tup (pv 6) pe_int (fun _ _ => rfl)) pa_nil)))
      (pss_cons (ps_set (i := 2) scRB.nd rfl (Or.inl rfl) (pe_op op_catA (pv 2) (pe_tup (pa_cons (pe_tup (pa_cons (pe_ix ix_tup (pv 6) pe_int (fun _ _ => rfl)) (pa_cons (pe_fld (pv 0) rfl) pa_nil))) pa_nil))))
      (pss_one (ps_fldaug (pv 0) pe_int iop_add))))) pss_nil)
      (pss_one (ps_expr (pe_bm PySem.F.plainAttrs_list PySem.F.slot_list_extend PySem.F.type_list_extend mt_extT (pv 4) (pa_cons (pe_mt DS T.cl GS (hr.mono (by omega)) (pv 0) (pa_cons (pv 6) (pa_cons (pv 2) (pa_cons (pv 3) pa_nil)))) pa_nil))))))
      (pss_one (ps_ret (pe_callTy call_tuple_of (by rfl) ml.tuple (by decide +kernel) (pa_cons (pv 4) pa_nil))))))), ?_⟩
  repeat ac_rfl
  refine ⟨small3 (Nat.zero_le _), fun fd0 hf => ?_⟩
  repeat ac_rfl
  refine ⟨small3 (Nat.zero_le _), fun hd0 hh => ?_⟩
  repeat ac_rfl
  have nfr : fd0 ≠ r := fun z => by rw [z, R.r] at hf; cases hf
  have ef1 : (upd H fd0 (.lst [])) fd0 = some (.lst []) := upd_same
  have er1 : (upd H fd0 (.lst [])) r = some (.ins C dx (jR c)) := by rw [upd_ne (Ne.symm nfr)]; exact R.r
  have nhr : hd0 ≠ r := fun z => by rw [z, er1] at hh; cases hh
  have nhf : hd0 ≠ fd0 := fun z => by rw [z, ef1] at hh; cases hh
  have hh0 : H hd0 = none := by rw [upd_ne nhf] at hh; exact hh
  have M : Addr → Prop := fun b => b = r ∨ b = fd0 ∨ b = hd0
  have k0 : TK K H (upd (upd H fd0 (.lst [])) hd0 (.lst [])) := (TK.new hf _).trans (TK.new hh _)
  have f0 : Fr (fun b => b = r ∨ b = fd0 ∨ b = hd0) H (upd (upd H fd0 (.lst [])) hd0 (.lst [])) := (Fr.refl.upd (.inr hf)).upd (.inr hh0)
  refine ⟨_, rfl, pb, rfl, ⟨bs, k0 _ _ hS⟩, for_tup (K := K) (a := pb) (xs := bs) (fun i σ H' => ∃ (va' : Addr) (fs' : List (Nm × Int)) (own' : List Nm) (c' : Int) (xs : List V) (o : Option V), σ = [some (.ref r), some (.ref pb), some (.ref va'), some (.ref la), some (.ref fd0), some (.ref hd0), o] ∧
      Fr (fun b => b = r ∨ b = fd0 ∨ b = hd0) H H' ∧ TK K H H' ∧ RAt K C H' r dx c' va' la fs' ls ∧ H' fd0 = some (.lst xs) ∧ H' hd0 = some (.lst (own'.map V.str)) ∧ wfR (fs'.map (·.1)) own' ls.length lz (dropR ss i) ∧
      c' + letsR (dropR ss i) = c + letsR ss ∧ xs.length + szR (dropR ss i) ≤ szR ss ∧ fs'.length + szR (dropR ss i) ≤ 300 ∧ own'.length ≤ i) ⟨va, fs, [], c, [], none, rfl, f0, k0, R.tk k0 ?_, ?_, upd_same, ?_, ?_, ?_, ?_, Nat.zero_le _⟩ (fun i σ H' _ ⟨_, _, _, _, _, _, _, _, k, _⟩ => k _ _ hS) ?_ ?_⟩
  · rw [upd_ne (Ne.symm nhr)]; exact er1
  · rw [upd_ne (Ne.symm nhf)]; exact ef1
  · have e : dropR ss 0 = ss := by cases ss <;> rfl
    rw [e]; exact hw
  · have e : dropR ss 0 = ss := by cases ss <;> rfl
    rw [e]
  · have e : dropR ss 0 = ss := by cases ss <;> rfl
    rw [e]; show 0 + _ ≤ _; omega
  · have e : dropR ss 0 = ss := by cases ss <;> rfl
    rw [e]; omega
  · rintro i u σ H' hi ⟨va', fs', own', c', xs, o, rfl, f1, k1, R1, ef, eh, hw1, hc1, hx1, hf1, ho1⟩
    obtain ⟨st, hst, hse⟩ := hx.at hi
    have hd := dropR_get hst
    rw [hd] at hw1 hc1 hx1 hf1
    obtain ⟨hws, hwr⟩ := wfR_cons.mp hw1
    have hse' := EncS.mono k1 st hse
    have hszs : szS st ≤ szR ss := szR_get hst
    have esz : szR (.cons st (dropR ss (i + 1))) = szS st + szR (dropR ss (i + 1)) := rfl
    have elt : letsR (.cons st (dropR ss (i + 1))) = letsS st + letsR (dropR ss (i + 1)) := rfl
    rw [esz] at hx1 hf1
    rw [elt] at hc1
    have hlet := letsI_adds st
    have hpos := szS_pos st
    have hil : i < bs.length := (List.getElem?_eq_some_iff.mp hi).1
    have hbl : bs.length ≤ 300 := by have := hx.len; have := lenR_le ss; omega
    have rtup : ∀ {H1 : Hp}, H1 r = some (.ins C dx (jR c')) → True := fun _ => trivial
    obtain ⟨us', hva', hvis'⟩ := R1.v
    have hul := hvis'.len
    by_cases hlt : isLet st = true
    · cases st with
      | letf x b =>
        obtain ⟨hnm, hno⟩ := hws
        obtain ⟨a0, rfl, h0⟩ := hse'
        repeat ac_rfl
        refine ⟨hd0, _, rfl, .inl (.inl (.inl eh)), rfl, all_flat own', ?_⟩
        rw [if_neg Bool.false_ne_true, not_inV hno]
        repeat ac_rfl
        refine ⟨.inl ⟨rfl, _, .inl (.inl eh)⟩, ?_⟩
        repeat ac_rfl
        refine ⟨hd0, _, _, rfl, rfl, eh, small_lt (by rw [List.length_map]; omega), ?_⟩
        -- here holds x
        have eh2 : (upd H' hd0 (.lst (own'.map V.str ++ [.str x]))) hd0 = some (.lst ((own' ++ [x]).map V.str)) := by rw [upd_same, List.map_append]; rfl
        have k2 : TK K H' (upd H' hd0 (.lst (own'.map V.str ++ [.str x]))) := TK.put _ eh (fun _ z => (by cases z)) fun _ _ z => (by cases z)
        have er2 : (upd H' hd0 (.lst (own'.map V.str ++ [.str x]))) r = some (.ins C dx (jR c')) := by rw [upd_ne (Ne.symm nhr)]; exact R1.r
        have ef2 : (upd H' hd0 (.lst (own'.map V.str ++ [.str x]))) fd0 = some (.lst xs) := by rw [upd_ne (Ne.symm nhf)]; exact ef
        have f2 : Fr (fun b => b = r ∨ b = fd0 ∨ b = hd0) H (upd H' hd0 (.lst (own'.map V.str ++ [.str x]))) := f1.upd (.inl (.inr (.inr rfl)))
        generalize upd H' hd0 (.lst (own'.map V.str ++ [.str x])) = H2 at eh2 k2 er2 ef2 f2
        have h02 := k2 _ _ h0
        repeat ac_rfl
        refine ⟨_, rfl, r, C, dx, _, _, rfl, er2, T.cl, T.nC, look_in, ?_⟩
        repeat ac_rfl
        refine ⟨small3 (by show 2 ≤ _; omega), fun t1 ht1 => ?_⟩
        repeat ac_rfl
        refine ⟨small3 (by show 1 ≤ _; omega), fun t2 ht2 => ?_⟩
        have k3 : TK K H2 (upd (upd H2 t1 (.tup [.str x, .int c'])) t2 (.tup [.ref t1])) := (TK.new ht1 _).trans (TK.new ht2 _)
        have s3 : Same H2 (upd (upd H2 t1 (.tup [.str x, .int c'])) t2 (.tup [.ref t1])) := (same_new ht1 _).trans (same_new ht2 _)
        have et1 : SqT K (upd (upd H2 t1 (.tup [.str x, .int c'])) t2 (.tup [.ref t1])) t1 [.str x, .int c'] := (TK.new ht2 _) _ _ (.inl (.inl upd_same))
        refine cat_vis (k3 _ _ (k2 _ _ hva')) (.inl (.inl upd_same)) (by omega) fun va2 H3 s4 hva2 => ?_
        have s5 := s3.trans s4
        have k5 : TK K H' H3 := k2.trans (TK.of_same s5)
        have er3 := s5 _ _ er2
        repeat ac_rfl
        refine ⟨_, rfl, r, C, dx, _, _, rfl, er3, T.cl, T.nC, look_in, c', 1, rfl, rfl, dx, _, er3, (by show 1 < 1000; decide), ?_⟩
        rw [put_in]
        have er4 : (upd H3 r (.ins C dx (jR (c' + 1)))) r = some (.ins C dx (jR (c' + 1))) := upd_same
        have k6 : TK K H3 (upd H3 r (.ins C dx (jR (c' + 1)))) := TK.put _ er3 (fun _ z => (by cases z)) fun _ _ z => (by cases z)
        have ef4 : (upd H3 r (.ins C dx (jR (c' + 1)))) fd0 = some (.lst xs) := by rw [upd_ne nfr]; exact s5 _ _ ef2
        have eh4 : (upd H3 r (.ins C dx (jR (c' + 1)))) hd0 = some (.lst ((own' ++ [x]).map V.str)) := by rw [upd_ne nhr]; exact s5 _ _ eh2
        have f4 : Fr (fun b => b = r ∨ b = fd0 ∨ b = hd0) H (upd H3 r (.ins C dx (jR (c' + 1)))) := (f2.trans (Fr.of_same s5)).upd (.inl (.inl rfl))
        have R4 : RAt K C (upd H3 r (.ins C dx (jR (c' + 1)))) r dx (c' + 1) va2 la (fs' ++ [(x, c')]) ls :=
          ⟨er4, ⟨_, k6 _ _ hva2, (VisP.app ((TK.of_same s4) _ _ et1) (hvis'.mono k5)).mono k6⟩, k6 _ _ (k5 _ _ R1.l)⟩
        have k7 := k5.trans k6
        generalize upd H3 r (.ins C dx (jR (c' + 1))) = H4 at er4 k6 ef4 eh4 f4 R4 k7
        have h04 := k7 _ _ h0
        repeat ac_rfl
        refine ⟨.inl ⟨rfl, _, .inl (.inl ef4)⟩, ?_⟩
        repeat ac_rfl
        refine ⟨_, rfl, r, dx, _, rfl, er4, jR_no (by decide +kernel), ?_⟩
        repeat ac_rfl
        have e1 : szS (.letf x b) = 1 := rfl
        refine ⟨r, dx, _, _, .letf x b, va2, la, fs' ++ [(x, c')], ls, lz, rfl, R4, ⟨a0, rfl, h04⟩, ⟨fun y hy => ?_, own', hnm, hno⟩, by omega, ?_, by omega, fun t5 zs H5 f5 e5 h5 hz5 => ?_⟩
        · have : y = x := by simpa [addsS] using hy
          rw [this]; simp
        · rw [List.length_append, e1]; show 1 + (_ + 1) ≤ 301; omega
        have k8 : TK K H4 H5 := f5.ins_tk er4
        have ef5 := f5 _ _ ef4 nfr
        have eh5 := f5 _ _ eh4 nhr
        repeat ac_rfl
        refine ⟨fd0, t5, xs, zs, rfl, rfl, ef5, h5, small3 (by omega), ?_⟩
        have k9 : TK K H5 (upd H5 fd0 (.lst (xs ++ zs))) := TK.put _ ef5 (fun _ z => (by cases z)) fun _ _ z => (by cases z)
        refine ⟨va2, fs' ++ [(x, c')], own' ++ [x], c' + 1 + letsI (.letf x b), xs ++ zs, _, rfl, ((f4.trans (f5.weak fun b _ _ z => .inl z)).upd (.inl (.inr (.inl rfl)))), k1.trans (k7.trans (k8.trans k9)), (R4.tk k8 e5).tk k9 ?_, upd_same, ?_, ?_, ?_, ?_, ?_, ?_⟩
        · rw [upd_ne (Ne.symm nfr)]; exact e5
        · rw [upd_ne nhf]; exact eh5
        · rw [List.map_append]; exact hwr
        · have e2 : letsS (.letf x b) = 1 := rfl
          have e3 : letsI (.letf x b) = 0 := rfl
          rw [e2] at hc1
          rw [e3]
          omega
        · rw [List.length_append]; omega
        · rw [List.length_append]; show _ + 1 + _ ≤ 300; omega
        · rw [List.length_append]; show _ + 1 ≤ _; omega
      | _ => exact absurd hlt (by simp [isLet])
    · have hlt' : isLet st = false := by simpa using hlt
      have hadd : addsS st = [] := by cases st <;> first | rfl | exact absurd hlt (by simp [isLet])
      obtain ⟨a0, r0, rfl, h0⟩ := hse'.kind
      repeat ac_rfl
      have hk : decide (V.str (kindS st) = V.str ("let" : Str)) = false := by
        rw [← isLet_kind] at hlt'
        refine decide_eq_false fun z => ?_
        have z' : kindS st = "let" := by injection z
        rw [z'] at hlt'
        simp at hlt'
      rw [hk]
      repeat ac_rfl
      refine ⟨.inl ⟨rfl, _, .inl (.inl ef)⟩, ?_⟩
      repeat ac_rfl
      refine ⟨_, rfl, r, dx, _, rfl, R1.r, jR_no (by decide +kernel), ?_⟩
      repeat ac_rfl
      refine ⟨r, dx, _, _, st, va', la, fs', ls, lz, rfl, R1, hse', ⟨fun y hy => (by rw [hadd] at hy; cases hy), own', hws⟩, by omega, by omega, by omega, fun t5 zs H5 f5 e5 h5 hz5 => ?_⟩
      have k8 : TK K H' H5 := f5.ins_tk R1.r
      have ef5 := f5 _ _ ef nfr
      have eh5 := f5 _ _ eh nhr
      repeat ac_rfl
      refine ⟨fd0, t5, xs, zs, rfl, rfl, ef5, h5, small3 (by omega), ?_⟩
      have k9 : TK K H5 (upd H5 fd0 (.lst (xs ++ zs))) := TK.put _ ef5 (fun _ z => (by cases z)) fun _ _ z => (by cases z)
      rw [hadd, List.append_nil, List.append_nil] at hwr
      rw [hadd] at hlet
      have hlet' : letsI st = letsS st := hlet
      refine ⟨va', fs', own', c' + letsI st, xs ++ zs, _, rfl, ((f1.trans (f5.weak fun b _ _ z => .inl z)).upd (.inl (.inr (.inl rfl)))), k1.trans (k8.trans k9), (R1.tk k8 e5).tk k9 ?_, upd_same, ?_, hwr, ?_, ?_, by omega, by omega⟩
      · rw [upd_ne (Ne.symm nfr)]; exact e5
      · rw [upd_ne nhf]; exact eh5
      · rw [hlet']; omega
      · rw [List.length_append]; omega
  · rintro σ H' ⟨va', fs', own', c', xs, o, rfl, f1, k1, R1, ef, eh, hw1, hc1, hx1, hf1, ho1⟩
    have hnil : dropR ss bs.length = .nil := dropR_end (by rw [hx.len]; exact Nat.le_refl _)
    rw [hnil] at hc1 hx1
    repeat ac_rfl
    refine ⟨fd0, xs, rfl, .inl ⟨.inl (.inl ef), fun t ht => ?_⟩⟩
    refine q t xs _ ?_ ?_ (.inl (.inl upd_same)) hx1
    · refine Fr.upd (fun b u hb hn => f1 b u hb fun z => ?_) (.inr ?_)
      · rcases z with z | z | z
        · exact hn z
        · subst z; rw [hf] at hb; cases hb
        · subst z; rw [hh0] at hb; cases hb
      · cases e : H t with
        | none => rfl
        | some u =>
          exfalso
          have ht' : t ≠ r ∧ t ≠ fd0 ∧ t ≠ hd0 := ⟨fun z => (by rw [z, R1.r] at ht; cases ht), fun z => (by rw [z, ef] at ht; cases ht), fun z => (by rw [z, eh] at ht; cases ht)⟩
          have := f1 t u e fun z => by
            rcases z with z | z | z
            · exact ht'.1 z
            · exact ht'.2.1 z
            · exact ht'.2.2 z
          rw [ht] at this
          cases this
    · rw [upd_ne (ne_of_none R1.r ht), R1.r]
      have e0 : (letsR .nil : Nat) = 0 := rfl
      rw [e0] at hc1
      have : c' = c + letsR ss := by omega
      rw [this]
/-- all three methods, by the size -/
theorem res_all {f11 f12 f13 f14 : Addr} {d11 d12 d13 d14 : FuncData} (ml : BN mg) (T : RCls K mg C fi) (D11 : DA K mg "flag_number" (top 11) ["name", "visible"] f11 d11) (D12 : DA K mg "resolved_condition" (top 12) ["condition", "visible"] f12 d12) (D13 : DA K mg "resolved_jump" (top 13) ["statement", "labels"] f13 d13) (D14 : DA K mg "resolved_return" (top 14) ["number"] f14 d14)
    (DB : DM K C "body" "Resolver.body" (inClass (top 15) 1) ["self", "body", "visible", "labels"] fB dB) (DS : DM K C "statement" "Resolver.statement" (inClass (top 15) 2) ["self", "statement", "visible", "labels"] fS dS) (DC : DM K C "compound" "Resolver.compound" (inClass (top 15) 3) ["self", "statement", "visible", "labels"] fC dC) :
    ∀ n : Nat, FnOk P w K mg base CX0 (3 * n + 25) fB dB ["self", "body", "visible", "labels"] (spRB K C n)
  | 0 => fn_none fun vs H Q E ⟨_, _, _, _, _, _, _, _, _, _, _, _, _, _, h, _⟩ => absurd h (Nat.not_lt_zero _)
  | n + 1 => by
    have GB := res_all ml T D11 D12 D13 D14 DB DS DC n
    have GC := ok_RC2 ml T D11 D12 DB DC GB
    have GS := ok_RS ml T D11 D13 D14 DB DC DS GB GC
    have q := ok_RB ml T DS DB GS
    have e : 3 * (n + 1) + 25 = 3 * n + 28 := by omega
    rw [e]
    exact q
end
end K23
namespace K23
open PySem PySem.Spec PyProof.Rows L2 Fl RT
local macro_rules | `(tactic| ac_rfl) => `(tactic| (
  first
    | with_reducible refine Stp.go ?_
    | with_reducible refine st_var (by with_unfolding_all exact rfl) ?_
    | with_reducible refine st_ixt (by with_unfolding_all assumption) (by with_unfolding_all exact rfl) ?_
    | with_reducible refine st_ixl (by with_unfolding_all assumption) (by with_unfolding_all exact rfl) ?_
    | with_reducible refine st_eq (by with_unfolding_all exact rfl) ?_
    | with_reducible refine st_bl ?_
    | with_reducible refine ifb_t ?_
    | with_reducible refine ifb_f ?_
    | with_reducible refine ifs_no (by decide +kernel) ?_
    | with_reducible refine ifs_yes rfl ?_
    | with_reducible refine ifs_yes lab_rfl ?_
    | with_reducible refine ifs_yes num_rfl ?_
    | with_reducible refine ifn_no (by decide +kernel) ?_
    | with_reducible refine ifn_yes rfl ?_
    | with_reducible refine ifnb_t ?_
    | with_reducible refine ifnb_f ?_
    | with_reducible refine st_ne (by with_unfolding_all exact rfl) ?_
    | with_reducible refine st_ix0 (by with_unfolding_all assumption) ?_))
/-- resolve's promise: it raises nothing -/
def spResolve (K : PySem.W.Frag) : Sp := fun vs H Q _ => ∃ (v : V) (p : Stms), vs = [v] ∧ EncR K H p v ∧ wfR [] [] 0 false p ∧ szR p < 40 ∧ letsR p ≤ 4 ∧ ∀ u H', Same H H' → Q u H'
theorem scResolve : FnScope ["program", "resolver", "found"] ["program"] (defScope (top 18)) := ⟨rfl, rfl, rfl, by decide +kernel, rfl, by decide +kernel, by decide +kernel⟩
section
variable {P : Program} {w : World} {K : PySem.W.Frag} {mg : Str → Option Value} {base : Heap} {C fi fB f f17 : Addr} {di dB fd d17 : FuncData}
theorem ok_resolve {tk : Tok} (ml : BN mg) (T : RCls K mg C fi) (Di : DM K C "__init__" "Resolver.__init__" (inClass (top 15) 0) ["self"] fi di) (DB : DM K C "body" "Resolver.body" (inClass (top 15) 1) ["self", "body", "visible", "labels"] fB dB) (D17 : DA K mg "has_try_in_finally" (top 17) ["body"] f17 d17) (D : DA K mg "resolve" (top 18) ["program"] f fd) (hM : mg "MOST_FLAGS" = some (.int 4 tk))
    (GB : FnOk P w K mg base CX0 145 fB dB ["self", "body", "visible", "labels"] (spRB K C 40)) (GT : FnOk P w K mg base CX0 145 f17 d17 ["body"] (spHtf K 40)) : FnOk P w K mg base CX0 146 f fd ["program"] (spResolve K) := by
  refine D.F.ok scResolve (fun vs H Q E h => ?_) (fun cdv A outer s H vs Q E hr h => ?_)
  · obtain ⟨v, p, rfl, _⟩ := h
    rfl
  obtain ⟨v, p, rfl, he, hw, hsz, hl, q⟩ := h
  refine ⟨_, (pss_cons (ps_set (i := 1) scResolve.nd rfl (Or.inl rfl) (pe_make0 T.mk_ (ok_RI T Di) (hr.mono (by omega)) rfl T.g Di.b .nil pass0))
      (pss_cons (ps_set (i := 2) scResolve.nd rfl (Or.inl rfl) (pe_mt DB T.cl GB (hr.mono (by omega)) (pv 1) (pa_cons (pv 0) (pa_cons (pe_tup pa_nil) (pa_cons (pe_tup pa_nil) pa_nil)))))
      (pss_cons (ps_if (pt_cmpR op_gt (pe_fld (pv 1) rfl) (pe_glob (v := .int 4) rfl hM ⟨_, rfl⟩) (nomark _)) (pss_one ps_never) pss_nil)
      (pss_cons (ps_if (pt_truth (pe_cl D17 GT (hr.mono (by omega)) (pa_cons (pv 0) pa_nil)) (fun _ => rfl)) (pss_one ps_never) pss_nil)
      (pss_one (ps_ret (pv 2))))))), ?_⟩
  repeat ac_rfl
  intro x dx nx nd ndx
  refine ⟨x, dx, rfl, upd_same, fun H1 e1 kp => ⟨rfl, ?_⟩⟩
  have s1 : Same H H1 := Same.made nx nd kp
  have k1 : TK K H H1 := TK.of_same s1
  repeat ac_rfl
  refine ⟨_, rfl, x, dx, _, rfl, e1, jR_no (by decide +kernel), ?_⟩
  repeat ac_rfl
  refine ⟨small3 (Nat.zero_le _), fun p1 hp1 => ?_⟩
  repeat ac_rfl
  refine ⟨small3 (Nat.zero_le _), fun p2 hp2 => ?_⟩
  repeat ac_rfl
  have s2 : Same H1 (upd (upd H1 p1 (.tup [])) p2 (.tup [])) := (same_new hp1 _).trans (same_new hp2 _)
  have ex : (upd (upd H1 p1 (.tup [])) p2 (.tup [])) x = some (.ins C dx (jR 0)) := s2 _ _ e1
  have ep1 : SqT K (upd (upd H1 p1 (.tup [])) p2 (.tup [])) p1 [] := (TK.new hp2 _) _ _ (.inl (.inl upd_same))
  refine ⟨x, dx, 0, v, p, p1, p2, [], [], false, rfl, ⟨ex, ⟨[], ep1, rfl⟩, .inl (.inl upd_same)⟩, EncR.mono (k1.trans (TK.of_same s2)) p he, hw, hsz, by show _ + 0 ≤ _; omega, by show _ + 0 ≤ _; omega, fun t xs H3 f3 e3 h3 _ => ?_⟩
  have k3 : TK K H H3 := (k1.trans (TK.of_same s2)).trans (f3.ins_tk ex)
  have f4 : Same H H3 := Fr.same (((Fr.of_same (s1.trans s2)).trans f3).weak fun b u hb z => by rw [z, nx] at hb; cases hb)
  repeat ac_rfl
  refine ⟨_, rfl, x, C, dx, _, _, rfl, e3, T.cl, T.nC, look_in, ?_⟩
  repeat ac_rfl
  have e4 : decide ((4 : Int) < 0 + (letsR p : Nat)) = false := decide_eq_false (by omega)
  rw [e4]
  repeat ac_rfl
  refine ⟨v, p, rfl, EncR.mono k3 p he, hsz, fun H4 g4 => ⟨_, rfl, ?_⟩⟩
  rw [wf_htfR p hw]
  repeat ac_rfl
  exact q _ _ (f4.trans g4)
end
end K23
namespace Fl
open PySem L2
theorem look_app (n : Nm) : ∀ (a b : Flg), lookF (a ++ b) n = (match lookF b n with | some v => some v | none => lookF a n)
  | [], b => by cases h : lookF b n <;> simp [h, lookF]
  | (x, v) :: a, b => by
    have ih := look_app n a b
    show lookF ((x, v) :: (a ++ b)) n = _
    rw [lookF_cons, ih]
    cases h : lookF b n with
    | some w => rfl
    | none => rw [lookF_cons]
theorem look_in {n : Nm} (a b : Flg) (h : n ∈ nms b) : lookF (a ++ b) n = lookF b n := by
  obtain ⟨v, e⟩ := lookF_some h
  rw [look_app, e]
theorem look_out {n : Nm} (a b : Flg) (h : n ∉ nms b) : lookF (a ++ b) n = lookF a n := by
  rw [look_app, lookF_none h]
theorem nms_app (a b : Flg) : nms (a ++ b) = nms a ++ nms b := by simp [nms]
theorem set_in {n : Nm} {v : Bool} (a b : Flg) (h : n ∈ nms b) : setF (a ++ b) n v = a ++ setF b n v := set_mv b h a
theorem set_out {n : Nm} {v : Bool} (b : Flg) (h : n ∉ nms b) : ∀ a : Flg, n ∈ nms a → setF (a ++ b) n v = setF a n v ++ b
  | [], ha => by simp [nms] at ha
  | (x, w) :: a, ha => by
    show setF ((x, w) :: (a ++ b)) n v = _
    rw [setF_cons, setF_cons, look_out a b h]
    by_cases c : n ∈ nms a
    · have e : (lookF a n).isSome = true := lookF_isSome.mpr c
      rw [if_pos e, if_pos e, set_out b h a c]; rfl
    · have e : ¬ (lookF a n).isSome = true := fun z => c (lookF_isSome.mp z)
      have hx : x = n := by
        have ha' : n = x ∨ n ∈ nms a := by simpa [nms] using ha
        rcases ha' with z | z
        · exact z.symm
        · exact absurd z c
      rw [if_neg e, if_neg e, if_pos hx, if_pos hx]; rfl
theorem look_mid {n : Nm} (a s b : Flg) (hs : n ∈ nms s) (hb : n ∉ nms b) : lookF (a ++ (s ++ b)) n = lookF s n := by
  rw [look_in a (s ++ b) (by rw [nms_app]; exact List.mem_append_left _ hs), look_out s b hb]
theorem set_mid {n : Nm} {v : Bool} (a s b : Flg) (hs : n ∈ nms s) (hb : n ∉ nms b) : setF (a ++ (s ++ b)) n v = a ++ (setF s n v ++ b) := by
  rw [set_in a (s ++ b) (by rw [nms_app]; exact List.mem_append_left _ hs), set_out b hb s hs]
/-- a scope as a dict's pairs -/
def kvF (f : Flg) : List (L2.Key × V) := f.map fun p => (Sum.inr p.1, .bl p.2)
theorem kvF_len (f : Flg) : (kvF f).length = f.length := List.length_map _
theorem valF {n : Nm} : ∀ {f : Flg}, (nms f).Nodup → valV (kvF f) (Sum.inr n) = (lookF f n).map V.bl
  | [], _ => rfl
  | (x, v) :: r, h => by
    have h' : x ∉ nms r ∧ (nms r).Nodup := by simpa [nms] using h
    have ih := valF (n := n) h'.2
    show valV ((Sum.inr x, V.bl v) :: kvF r) (Sum.inr n) = _
    by_cases c : x = n
    · subst c
      rw [valV_pos rfl, lookF_cons, lookF_none h'.1]
      simp
    · have c' : (Sum.inr x : L2.Key) ≠ Sum.inr n := fun z => c (by injection z)
      rw [show valV ((Sum.inr x, V.bl v) :: kvF r) (Sum.inr n) = valV (kvF r) (Sum.inr n) by simp [valV, List.find?_cons, c'], ih, lookF_cons]
      cases lookF r n <;> simp [c]
theorem kv_any {n : Nm} (f : Flg) : ((kvF f).any fun kv => decide (kv.1 = Sum.inr n)) = decide (n ∈ nms f) := by
  induction f with
  | nil => rfl
  | cons p r ih =>
    obtain ⟨x, v⟩ := p
    show (decide ((Sum.inr x : L2.Key) = Sum.inr n) || (kvF r).any _) = _
    rw [ih, Bool.eq_iff_iff]
    simp only [Bool.or_eq_true, decide_eq_true_eq, nms, List.map_cons, List.mem_cons]
    constructor
    · rintro (h | h)
      · exact .inl (by injection h with e; exact e.symm)
      · exact .inr (of_decide_eq_true h)
    · rintro (h | h)
      · exact .inl (by rw [h])
      · exact .inr (decide_eq_true h)
theorem putF_in {n : Nm} {b : Bool} {f : Flg} (hn : (nms f).Nodup) (h : n ∈ nms f) : putK (kvF f) (Sum.inr n) (.bl b) = kvF (setF f n b) := by
  unfold putK
  rw [kv_any, decide_eq_true h, if_pos rfl]
  clear h
  induction f with
  | nil => rfl
  | cons p r ih =>
    obtain ⟨x, v⟩ := p
    have h' : x ∉ nms r ∧ (nms r).Nodup := by simpa [nms] using hn
    rw [setF_cons]
    show (if (Sum.inr x : L2.Key) = Sum.inr n then (Sum.inr x, V.bl b) else (Sum.inr x, V.bl v)) :: (kvF r).map _ = _
    by_cases c : x = n
    · subst c
      have e : ¬ (lookF r x).isSome = true := fun z => h'.1 (lookF_isSome.mp z)
      rw [if_neg e, if_pos rfl, if_pos rfl]
      show _ :: (kvF r).map _ = _ :: kvF r
      congr 1
      have aux : ∀ q : Flg, x ∉ nms q → (kvF q).map (fun kv => if kv.1 = (Sum.inr x : L2.Key) then (kv.1, V.bl b) else kv) = kvF q := by
        intro q
        induction q with
        | nil => intro _; rfl
        | cons p q ihq =>
          obtain ⟨y, w⟩ := p
          intro hq
          have hq' : x ≠ y ∧ x ∉ nms q := by simpa [nms] using hq
          show (if (Sum.inr y : L2.Key) = Sum.inr x then _ else _) :: (kvF q).map _ = _
          rw [if_neg (fun z => hq'.1 (by injection z with e; exact e.symm)), ihq hq'.2]
          rfl
      exact aux r h'.1
    · have c' : ¬ (Sum.inr x : L2.Key) = Sum.inr n := fun z => c (by injection z)
      rw [if_neg c', ih h'.2]
      by_cases e : (lookF r n).isSome = true
      · rw [if_pos e]; rfl
      · rw [if_neg e, if_neg c]; rfl
theorem putF_new {n : Nm} {b : Bool} {f : Flg} (h : n ∉ nms f) : putK (kvF f) (Sum.inr n) (.bl b) = kvF (f ++ [(n, b)]) := by
  unfold putK
  rw [kv_any, decide_eq_false h, if_neg Bool.false_ne_true]
  unfold kvF
  rw [List.map_append]; rfl
end Fl
namespace K23
open PySem PySem.Spec PyProof.Rows L2 Fl RT
local macro_rules | `(tactic| ac_rfl) => `(tactic| (
  first
    | with_reducible refine Stp.go ?_
    | with_reducible refine st_var (by with_unfolding_all exact rfl) ?_
    | with_reducible refine st_ixt (by with_unfolding_all assumption) (by with_unfolding_all exact rfl) ?_
    | with_reducible refine st_ixl (by with_unfolding_all assumption) (by with_unfolding_all exact rfl) ?_
    | with_reducible refine st_eq (by with_unfolding_all exact rfl) ?_
    | with_reducible refine st_bl ?_
    | with_reducible refine ifb_t ?_
    | with_reducible refine ifb_f ?_
    | with_reducible refine ifs_no (by decide +kernel) ?_
    | with_reducible refine ifs_yes rfl ?_
    | with_reducible refine ifs_yes lab_rfl ?_
    | with_reducible refine ifs_yes num_rfl ?_
    | with_reducible refine ifn_no (by decide +kernel) ?_
    | with_reducible refine ifn_yes rfl ?_
    | with_reducible refine ifnb_t ?_
    | with_reducible refine ifnb_f ?_
    | with_reducible refine st_ne (by with_unfolding_all exact rfl) ?_
    | with_reducible refine st_ix0 (by with_unfolding_all assumption) ?_))
/-- the class Stopped -/
structure StopC (K : PySem.W.Frag) (mg : Str → Option Value) (CS : Addr) : Prop where
  g : mg "Stopped" = some (.ref CS)
  x : PySem.W.excIn K CS [.type "ValueError", .type "Exception", .type "BaseException", .type "object"] "ValueError.__new__" = true
  k : PySem.W.keepIn K (.ref CS) = true
  b : PySem.W.subIn K (.ref CS) (.type "BaseException") = some true
  t : PySem.W.typeIn K (.ref CS) = some (.type "type")
  i : PySem.W.isClsIn K CS = true
  s : PySem.W.subIn K (.ref CS) (.ref CS) = some true
/-- the class Player -/
structure PCls (K : PySem.W.Frag) (mg : Str → Option Value) (C fi : Addr) : Prop where
  cl : Cls K C
  n1 : NoAttr K C "given"
  n2 : NoAttr K C "rounds"
  n3 : NoAttr K C "events"
  n4 : NoAttr K C "scopes"
  g : mg "Player" = some (.ref C)
  mk_ : Mk K C fi
abbrev jP (ga : Addr) (R : Int) (ea sa : Addr) : List (Str × V) := [("given", .ref ga), ("rounds", .int R), ("events", .ref ea), ("scopes", .ref sa)]
section
variable {ga ea sa : Addr} {R : Int}
theorem jP_given : (jP ga R ea sa).lookup ("given" : Str) = some (.ref ga) := look_in
theorem jP_rounds : (jP ga R ea sa).lookup ("rounds" : Str) = some (.int R) := (look_by (by decide +kernel)).trans look_in
theorem jP_events : (jP ga R ea sa).lookup ("events" : Str) = some (.ref ea) := (look_by (by decide +kernel)).trans ((look_by (by decide +kernel)).trans look_in)
theorem jP_scopes : (jP ga R ea sa).lookup ("scopes" : Str) = some (.ref sa) := (look_by (by decide +kernel)).trans ((look_by (by decide +kernel)).trans ((look_by (by decide +kernel)).trans look_in))
theorem jP_no {m : Str} (h1 : (m == ("given" : Str)) = false) (h2 : (m == ("rounds" : Str)) = false) (h3 : (m == ("events" : Str)) = false) (h4 : (m == ("scopes" : Str)) = false) : (jP ga R ea sa).lookup m = none := (look_by h1).trans ((look_by h2).trans ((look_by h3).trans (look_by h4)))
end
abbrev evV (n : Nm) : V := .str (evName n)
/-- the scopes: where each stands, its flags -/
abbrev Scs := List (Addr × Flg)
def flat (scs : Scs) : Flg := (scs.map (·.2)).flatten
/-- the player as it stands -/
structure PAt (K : PySem.W.Frag) (C : Addr) (H : Hp) (r dx ga ea sa : Addr) (R : Nat) (as : List Bool) (mk : Fl.Made) (scs : Scs) : Prop where
  r : H r = some (.ins C dx (jP ga R ea sa))
  g : SqT K H ga (as.map V.bl)
  e : H ea = some (.lst (mk.map evV))
  s : H sa = some (.lst (scs.map fun p => V.ref p.1))
  d : ∀ p ∈ scs, H p.1 = some (.dK (kvF p.2))
  nd : (scs.map (·.1)).Nodup
  nn : ∀ p ∈ scs, (nms p.2).Nodup
  ne : ea ≠ sa
/-- what the player may change -/
def PM (ea sa : Addr) (scs : Scs) : Addr → Prop := fun b => b = ea ∨ b = sa ∨ b ∈ scs.map (·.1)
theorem PAt.tk {K : PySem.W.Frag} {C : Addr} {H H' : Hp} {r dx ga ea sa : Addr} {R : Nat} {as : List Bool} {mk : Fl.Made} {scs : Scs} (P : PAt K C H r dx ga ea sa R as mk scs) (f : Fr (PM ea sa scs) H H') : TK K H H' :=
  f.tk fun b z => by
    rcases z with z | z | z
    · subst z; rw [P.e]; exact ⟨fun xs e => (by cases e), fun o u e => (by cases e)⟩
    · subst z; rw [P.s]; exact ⟨fun xs e => (by cases e), fun o u e => (by cases e)⟩
    · obtain ⟨p, hp, rfl⟩ := List.mem_map.mp z
      rw [P.d p hp]; exact ⟨fun xs e => (by cases e), fun o u e => (by cases e)⟩
theorem PAt.same {K : PySem.W.Frag} {C : Addr} {H H' : Hp} {r dx ga ea sa : Addr} {R : Nat} {as : List Bool} {mk : Fl.Made} {scs : Scs} (P : PAt K C H r dx ga ea sa R as mk scs) (s : Same H H') : PAt K C H' r dx ga ea sa R as mk scs :=
  ⟨s _ _ P.r, (TK.of_same s) _ _ P.g, s _ _ P.e, s _ _ P.s, fun p hp => s _ _ (P.d p hp), P.nd, P.nn, P.ne⟩
theorem PAt.ne_r {K : PySem.W.Frag} {C : Addr} {H : Hp} {r dx ga ea sa : Addr} {R : Nat} {as : List Bool} {mk : Fl.Made} {scs : Scs} (P : PAt K C H r dx ga ea sa R as mk scs) : ¬ PM ea sa scs r := fun z => by
  rcases z with z | z | z
  · have := P.e; rw [← z, P.r] at this; cases this
  · have := P.s; rw [← z, P.r] at this; cases this
  · obtain ⟨p, hp, e⟩ := List.mem_map.mp z
    have := P.d p hp
    rw [e, P.r] at this; cases this
/-- the events grew -/
theorem PAt.made {K : PySem.W.Frag} {C : Addr} {H : Hp} {r dx ga ea sa : Addr} {R : Nat} {as : List Bool} {mk : Fl.Made} {scs : Scs} (P : PAt K C H r dx ga ea sa R as mk scs) (n : Nm) :
    PAt K C (upd H ea (.lst (mk.map evV ++ [evV n]))) r dx ga ea sa R as (mk ++ [n]) scs ∧ Fr (PM ea sa scs) H (upd H ea (.lst (mk.map evV ++ [evV n]))) := by
  refine ⟨⟨?_, ?_, ?_, ?_, fun p hp => ?_, P.nd, P.nn, P.ne⟩, Fr.refl.upd (.inl (.inl rfl))⟩
  · rw [upd_ne fun z => P.ne_r (.inl z)]; exact P.r
  · exact (TK.put _ P.e (fun _ z => (by cases z)) fun _ _ z => (by cases z)) _ _ P.g
  · rw [upd_same, List.map_append]; rfl
  · rw [upd_ne (Ne.symm P.ne)]; exact P.s
  · rw [upd_ne fun z => by have := P.d p hp; rw [z, P.e] at this; cases this]
    exact P.d p hp
theorem fld_self {K : PySem.W.Frag} {C : Addr} {H : Hp} {σ : L2.St} {Q : VK} {r dx : Addr} {fs : List (Str × V)} {f : Str} {v : V} (h : H r = some (.ins C dx fs)) (c : Cls K C) (n : NoAttr K C f) (l : fs.lookup f = some v) (hσ : σ[0]? = some (some (.ref r))) (q : Q v H) :
    tFld K (tVar 0) f σ H Q := ⟨_, hσ, r, C, dx, fs, v, rfl, h, c, n, l, q⟩
theorem pe_mtX {X : Cx} {C : Addr} {m qual : Str} {st : Stmt} {ps : List Str} {f : Addr} {fd : FuncData} {sp : Sp} {k : Nat} {pos apos : Pos} {o e : Expr} {es : List Expr} {ta : TE} {t : TA} {E : XK} {pl : Sem Bool} (D : DM X.K C m qual st ps f fd) (c : Cls X.K C) (G : FnOk X.prog X.w X.K X.mg X.base (L2.CX X.prog X.w) k f fd ps sp) (hr : Room k X.A) (hx : Passes (L2.CX X.prog X.w) X E) (ho : PE X o ta) (ha : PA X (e :: es) t)
    (hst : starEach (e :: es) X.env = (false, eval e X.env) :: starEach es X.env := by rfl) (hpl : (backTo pos (starEach es X.env)).any (·.1) = false := by rfl)
    (ht : eval (.Call (.Attribute o m apos) (e :: es) [] pos) X.env = (do
      let ov ← eval o X.env
      standAt apos.atName
      let (f, first) ← holding [ov] (getMethod ov m pl)
      callWith pos f first (backTo pos (starEach (e :: es) X.env)) (backToKw pos (keywordEach [] X.env))) := by rfl) : PE X (.Call (.Attribute o m apos) (e :: es) [] pos) (tMeth C m sp [] E ta t) :=
  pe_meth (pl := pl) ho c D.M G hr D.b .nil hx ha hst hpl ht
/-- what is wished of the events at a stop -/
def wStop (CS ea : Addr) (M : Addr → Prop) (H : Hp) (E : XK) (l : List V) : Prop := ∀ H', Fr M H H' → H' ea = some (.lst l) → E (.ref CS) none H'
def spAsk (K : PySem.W.Frag) (C CS : Addr) : Sp := fun vs H Q E => ∃ (r dx ga ea sa : Addr) (R : Nat) (as : List Bool) (mk : Fl.Made) (scs : Scs) (n : Nm), vs = [.ref r, .str n] ∧ PAt K C H r dx ga ea sa R as mk scs ∧ nmOk n ∧ mk.length ≤ as.length ∧ as.length ≤ 400 ∧
  (∀ b, as[mk.length]? = some b → ∀ H', Fr (PM ea sa scs) H H' → PAt K C H' r dx ga ea sa R as (mk ++ [n]) scs → Q (.bl b) H') ∧
  (as[mk.length]? = none → wStop CS ea (PM ea sa scs) H E ((mk ++ [n]).map evV))
def spScope (K : PySem.W.Frag) (C : Addr) : Sp := fun vs H Q _ => ∃ (r dx ga ea sa : Addr) (R : Nat) (as : List Bool) (mk : Fl.Made) (scs : Scs) (n : Nm), vs = [.ref r, .str n] ∧ PAt K C H r dx ga ea sa R as mk scs ∧ n ∈ nms (flat scs) ∧ scs.length ≤ 1000 ∧
  ∀ (p : Addr × Flg) (a b : Scs) (H' : Hp), scs = a ++ p :: b → n ∈ nms p.2 → n ∉ nms (flat b) → Same H H' → Q (.ref p.1) H'
theorem scAsk : FnScope ["self", "name", "made"] ["self", "name"] (defScope (inClass (top 24) 1)) := ⟨rfl, rfl, rfl, by decide +kernel, rfl, by decide +kernel, by decide +kernel⟩
theorem scScope : FnScope ["self", "name", "scope"] ["self", "name"] (defScope (inClass (top 24) 2)) := ⟨rfl, rfl, rfl, by decide +kernel, rfl, by decide +kernel, by decide +kernel⟩
theorem flat_app (a b : Scs) : flat (a ++ b) = flat a ++ flat b := by simp [flat]
theorem flat_cons (p : Addr × Flg) (b : Scs) : flat (p :: b) = p.2 ++ flat b := by simp [flat]
theorem cut1 (xs : List V) : cutV xs (some 1) none = xs.drop 1 := by
  unfold cutV
  have e1 : HT.sIx xs.length 0 (some 1) = min 1 xs.length := HT.sIx_nat xs.length 0 1
  rw [e1, HT.sIx_none]
  cases xs with
  | nil => rfl
  | cons x r =>
    have e2 : min 1 (x :: r).length = 1 := by simp
    rw [e2]
    apply List.take_of_length_le
    simp
section
variable {P : Program} {w : World} {K : PySem.W.Frag} {mg : Str → Option Value} {base : Heap} {C CS fi fA fS : Addr} {di dA dS : FuncData}
theorem ok_ask (ml : BN mg) (T : PCls K mg C fi) (S : StopC K mg CS) (D : DM K C "ask" "Player.ask" (inClass (top 24) 1) ["self", "name"] fA dA) : FnOk P w K mg base (L2.CX P w) 1 fA dA ["self", "name"] (spAsk K C CS) := by
  refine D.F.okX scAsk (fun vs H Q E h => ?_) (fun cdv A outer s H vs Q E hr h => ?_)
  · obtain ⟨r, dx, ga, ea, sa, R, as, mk, scs, n, rfl, _⟩ := h
    rfl
  obtain ⟨r, dx, ga, ea, sa, R, as, mk, scs, n, rfl, Pt, hn, hm, ha, q1, q2⟩ := h
  refine ⟨_, (pss_cons (ps_set (i := 2) scAsk.nd rfl (Or.inl rfl) (pe_len ml.len (pe_fld (pv 0) rfl)))
      (pss_cons (ps_expr (pe_bm PySem.F.plainAttrs_list PySem.F.slot_list_append PySem.F.type_list_append mt_append (pe_fld (pv 0) rfl) (pa_cons (pe_op op_add_str (pv 1) pe_str) pa_nil)))
      (pss_cons (ps_if (pt_cmpR op_eq (pv 2) (pe_len ml.len (pe_fld (pv 0) rfl)) (nomark _)) (pss_one (ps_raise rfl (takes_of rfl rfl rfl rfl) (pmk_own PySem.F.excBase_ValueError S.x S.g S.k (raises_own S.b S.t) rfl))) pss_nil)
      (pss_one (ps_ret (pe_ix ix_tup (pe_fld (pv 0) rfl) (pv 2) (fun _ _ => rfl))))))), ?_⟩
  repeat ac_rfl
  refine fld_self Pt.r T.cl T.n3 jP_events rfl ?_
  repeat ac_rfl
  refine ⟨ea, _, rfl, .inl (.inl (.inl Pt.e)), ?_⟩
  repeat ac_rfl
  refine fld_self Pt.r T.cl T.n3 jP_events rfl ⟨.inl ⟨rfl, _, .inl (.inl Pt.e)⟩, ?_⟩
  repeat ac_rfl
  have h2 : ("()" : Str).length = 2 := by decide +kernel
  have hn' : n.length ≤ 60 := hn.1
  refine ⟨_, _, rfl, rfl, small3 (by rw [h2]; omega), ?_⟩
  repeat ac_rfl
  refine ⟨ea, _, _, rfl, rfl, Pt.e, small_lt (by rw [List.length_map]; omega), ?_⟩
  obtain ⟨P2, f2⟩ := Pt.made n
  have e0 : (mk.map evV ++ [V.str (n ++ "()")]) = mk.map evV ++ [evV n] := rfl
  rw [e0]
  generalize upd H ea (.lst (mk.map evV ++ [evV n])) = H2 at P2 f2
  repeat ac_rfl
  refine fld_self P2.r T.cl T.n1 jP_given rfl ?_
  repeat ac_rfl
  refine ⟨ga, _, rfl, .inr P2.g, ?_⟩
  repeat ac_rfl
  rw [List.length_map, List.length_map]
  by_cases hlt : mk.length = as.length
  · refine ifs_yes (by rw [hlt]) ?_
    have hnone : as[mk.length]? = none := by rw [hlt]; simp
    exact q2 hnone H2 f2 P2.e
  · have hl : mk.length < as.length := by omega
    refine ifs_no (fun z => hlt (by injection z with z; omega)) ?_
    repeat ac_rfl
    refine fld_self P2.r T.cl T.n1 jP_given rfl ?_
    repeat ac_rfl
    refine ⟨ga, _, _, .bl as[mk.length], rfl, rfl, P2.g, atI_nat (by rw [List.getElem?_map, List.getElem?_eq_getElem hl]; rfl), ?_⟩
    exact q1 _ (List.getElem?_eq_getElem hl) H2 f2 P2
theorem ok_scope (ml : BN mg) (T : PCls K mg C fi) (D : DM K C "scope_of" "Player.scope_of" (inClass (top 24) 2) ["self", "name"] fS dS) : FnOk P w K mg base CX0 1 fS dS ["self", "name"] (spScope K C) := by
  refine D.F.ok scScope (fun vs H Q E h => ?_) (fun cdv A outer s H vs Q E hr h => ?_)
  · obtain ⟨r, dx, ga, ea, sa, R, as, mk, scs, n, rfl, _⟩ := h
    rfl
  obtain ⟨r, dx, ga, ea, sa, R, as, mk, scs, n, rfl, Pt, hn, hl, q⟩ := h
  refine ⟨_, (pss_cons (ps_for PassesOwn.never rfl (pi_revA rfl ml.reversed (pe_slice sl_list (pe_fld (pv 0) rfl) (po_some pe_int) po_none)) (pg_name (i := 2) scScope.nd rfl (Or.inl rfl)) (pss_one (ps_if (pt_cmp (pc_din (hu_of hr) (pv 1) (pv 2)) (by with_unfolding_all rfl)) (pss_one (ps_ret (pv 2))) pss_nil)))
      (pss_one (ps_ret (pe_ix ix_list (pe_fld (pv 0) rfl) pe_int (fun _ _ => rfl))))), ?_⟩
  refine ⟨_, rfl, r, C, dx, _, _, rfl, Pt.r, T.cl, T.n4, jP_scopes, 1, rfl, sa, _, rfl, .inl (.inl Pt.s), fun p hp => ⟨p, _, rfl, .inl ⟨.inl (.inl upd_same), ?_⟩⟩⟩
  have s1 : Same H (upd H p (.lst (cutV (scs.map fun p => V.ref p.1) (some 1) none))) := same_new hp _
  rw [cut1] at s1 ⊢
  have P1 := Pt.same s1
  have ep : (upd H p (.lst ((scs.map fun p => V.ref p.1).drop 1))) p = some (.lst ((scs.map fun p => V.ref p.1).drop 1)) := upd_same
  generalize upd H p (.lst ((scs.map fun p => V.ref p.1).drop 1)) = H1 at s1 P1 ep
  have hdl : ((scs.map fun p => V.ref p.1).drop 1).length = scs.length - 1 := by rw [List.length_drop, List.length_map]
  refine ⟨fun i m σ H' => m = (scs.length - 1) - i ∧ i ≤ scs.length - 1 ∧ H' = H1 ∧ (∃ o, σ = [some (.ref r), some (.str n), o]) ∧ n ∉ nms (flat (scs.drop (scs.length - i))), ⟨scs.length - 1, rfl, Nat.zero_le _, rfl, ⟨_, rfl⟩, ?_⟩, ?_⟩
  · rw [Nat.sub_zero, List.drop_length]; simp [flat, nms]
  rintro i m σ H' ⟨rfl, hi, rfl, ⟨o, rfl⟩, hno⟩
  by_cases hlt : i < scs.length - 1
  · have hj : scs.length - 1 - i < scs.length := by omega
    have hitem : ((scs.map fun p => V.ref p.1).drop 1)[((scs.map fun p => V.ref p.1).drop 1).length - 1 - i]? = some (.ref scs[scs.length - 1 - i].1) := by
      rw [hdl, List.getElem?_drop, show 1 + (scs.length - 1 - 1 - i) = scs.length - 1 - i by omega, List.getElem?_map, List.getElem?_eq_getElem hj]; rfl
    have hsplit : scs = scs.take (scs.length - 1 - i) ++ scs[scs.length - 1 - i] :: scs.drop (scs.length - i) := by
      have e1 := List.take_append_drop (scs.length - 1 - i) scs
      have e2 := List.drop_eq_getElem_cons hj
      have e3 : scs.length - 1 - i + 1 = scs.length - i := by omega
      rw [e3] at e2
      rw [e2] at e1
      exact e1.symm
    have hmem : scs[scs.length - 1 - i] ∈ scs := List.getElem_mem hj
    refine .inr ⟨⟨by rw [hdl]; exact hlt, _, _, .inl (.inl ep), hitem⟩, _, fun σ' H' z => ⟨(scs.length - 1) - (i + 1), by omega, z⟩, fun x H2 y => ?_⟩
    obtain ⟨rfl, y⟩ := y
    have ex := y _ (.inl (.inl ep))
    rw [hitem] at ex
    have ex' := (Option.some.inj ex).symm
    subst ex'
    repeat ac_rfl
    have hd := P1.d _ hmem
    refine ⟨_, rfl, _, rfl, _, _, rfl, DGet.k (k := Sum.inr n) hd, _, rfl, ?_⟩
    rw [valF (P1.nn _ hmem)]
    by_cases c : n ∈ nms scs[scs.length - 1 - i].2
    · obtain ⟨b, eb⟩ := lookF_some c
      rw [eb, show (Option.map V.bl (some b)).isSome = true from rfl]
      repeat ac_rfl
      exact q _ _ _ _ hsplit c hno s1
    · rw [lookF_none c, show (Option.map V.bl none).isSome = false from rfl]
      repeat ac_rfl
      refine ⟨rfl, hlt, rfl, ⟨_, rfl⟩, ?_⟩
      have e4 : scs.drop (scs.length - (i + 1)) = scs[scs.length - 1 - i] :: scs.drop (scs.length - i) := by
        have e2 := List.drop_eq_getElem_cons hj
        have e3 : scs.length - 1 - i + 1 = scs.length - i := by omega
        rw [e3] at e2
        rw [show scs.length - (i + 1) = scs.length - 1 - i by omega]
        exact e2
      rw [e4, flat_cons, nms_app]
      intro z
      rcases List.mem_append.mp z with z | z
      · exact c z
      · exact hno z
  · refine .inl ⟨(by show ((scs.map fun p => V.ref p.1).drop 1).length ≤ i; rw [hdl]; omega), ?_⟩
    repeat ac_rfl
    refine fld_self P1.r T.cl T.n4 jP_scopes rfl ?_
    repeat ac_rfl
    cases scs with
    | nil => simp [flat, nms] at hn
    | cons p0 rest =>
      have e5 : (p0 :: rest).length - i = 1 := by
        have h3 : ¬ i < (p0 :: rest).length - 1 := hlt
        have h4 : i ≤ (p0 :: rest).length - 1 := hi
        simp only [List.length_cons] at h3 h4 ⊢
        omega
      rw [e5] at hno
      have e6 : (p0 :: rest).drop 1 = rest := rfl
      rw [e6] at hno
      refine ⟨sa, _, _, .ref p0.1, rfl, rfl, .inl (.inl P1.s), atI_nat (j := 0) rfl, ?_⟩
      refine q p0 [] rest _ rfl ?_ hno s1
      rw [flat_cons, nms_app] at hn
      exact (List.mem_append.mp hn).resolve_right hno
end
end K23
namespace K23
open PySem PySem.Spec PyProof.Rows L2 Fl RT
local macro_rules | `(tactic| ac_rfl) => `(tactic| (
  first
    | with_reducible refine Stp.go ?_
    | with_reducible refine st_var (by with_unfolding_all exact rfl) ?_
    | with_reducible refine st_ixt (by with_unfolding_all assumption) (by with_unfolding_all exact rfl) ?_
    | with_reducible refine st_ixl (by with_unfolding_all assumption) (by with_unfolding_all exact rfl) ?_
    | with_reducible refine st_eq (by with_unfolding_all exact rfl) ?_
    | with_reducible refine st_bl ?_
    | with_reducible refine ifb_t ?_
    | with_reducible refine ifb_f ?_
    | with_reducible refine ifs_no (by decide +kernel) ?_
    | with_reducible refine ifs_yes rfl ?_
    | with_reducible refine ifs_yes lab_rfl ?_
    | with_reducible refine ifs_yes num_rfl ?_
    | with_reducible refine ifn_no (by decide +kernel) ?_
    | with_reducible refine ifn_yes rfl ?_
    | with_reducible refine ifnb_t ?_
    | with_reducible refine ifnb_f ?_
    | with_reducible refine st_ne (by with_unfolding_all exact rfl) ?_
    | with_reducible refine st_ix0 (by with_unfolding_all assumption) ?_))
/-- what a condition gives -/
def spHold (K : PySem.W.Frag) (C CS : Addr) (n : Nat) : Sp := fun vs H Q E => ∃ (r dx ga ea sa : Addr) (R : Nat) (as : List Bool) (mk : Fl.Made) (scs : Scs) (cv : V) (c : Cond), vs = [.ref r, cv] ∧ PAt K C H r dx ga ea sa R as mk scs ∧ EncC K H c cv ∧ wfC (nms (flat scs)) c ∧ szC c < n ∧
  mk.length ≤ as.length ∧ as.length ≤ 400 ∧ scs.length ≤ 1000 ∧
  (∀ b m, evC as (flat scs) c mk = (some b, m) → ∀ H', Fr (PM ea sa scs) H H' → PAt K C H' r dx ga ea sa R as m scs → Q (.bl b) H') ∧
  (∀ m, evC as (flat scs) c mk = (none, m) → wStop CS ea (PM ea sa scs) H E (m.map evV))
theorem scHold : FnScope ["self", "condition", "kind", "part"] ["self", "condition"] (defScope (inClass (top 24) 3)) := ⟨rfl, rfl, rfl, by decide +kernel, rfl, by decide +kernel, by decide +kernel⟩
def dropC : Conds → Nat → Conds
  | cs, 0 => cs
  | .nil, _ + 1 => .nil
  | .cons _ r, i + 1 => dropC r i
theorem dropC_get : ∀ {cs : Conds} {i : Nat} {c : Cond}, (toL cs)[i]? = some c → dropC cs i = .cons c (dropC cs (i + 1))
  | .nil, _, _, h => by simp [toL] at h
  | .cons d r, 0, c, h => by
    have e : d = c := Option.some.inj h
    subst e
    cases r <;> rfl
  | .cons d r, i + 1, c, h => by
    have q := dropC_get (cs := r) (i := i) h
    show dropC r i = _
    rw [q]; rfl
theorem dropC_end : ∀ {cs : Conds} {i : Nat}, (toL cs).length ≤ i → dropC cs i = .nil
  | .nil, 0, _ => rfl
  | .nil, _ + 1, _ => rfl
  | .cons d r, 0, h => absurd h (Nat.not_succ_le_zero _)
  | .cons d r, i + 1, h => dropC_end (cs := r) (Nat.le_of_succ_le_succ h)
theorem evC_len (as : List Bool) (fl : Flg) {c : Cond} {mk m : Fl.Made} {b : Bool} (h : mk.length ≤ as.length) (e : evC as fl c mk = (some b, m)) : m.length ≤ as.length := by
  have g := evC_gr as fl c mk
  rw [e] at g
  exact (g.2 h).1 rfl
section
variable {P : Program} {w : World} {K : PySem.W.Frag} {mg : Str → Option Value} {base : Heap} {C CS fi fA fS fH : Addr} {di dA dS dH : FuncData}
theorem ok_hold {n : Nat} (ml : BN mg) (T : PCls K mg C fi) (S : StopC K mg CS) (DA' : DM K C "ask" "Player.ask" (inClass (top 24) 1) ["self", "name"] fA dA) (DS : DM K C "scope_of" "Player.scope_of" (inClass (top 24) 2) ["self", "name"] fS dS)
    (D : DM K C "holds" "Player.holds" (inClass (top 24) 3) ["self", "condition"] fH dH) (G : FnOk P w K mg base (L2.CX P w) (n + 1) fH dH ["self", "condition"] (spHold K C CS n)) : FnOk P w K mg base (L2.CX P w) (n + 2) fH dH ["self", "condition"] (spHold K C CS (n + 1)) := by
  refine D.F.okX scHold (fun vs H Q E h => ?_) (fun cdv A outer s H vs Q E hr h => ?_)
  · obtain ⟨r, dx, ga, ea, sa, R, as, mk, scs, cv, c, rfl, _⟩ := h
    rfl
  obtain ⟨r, dx, ga, ea, sa, R, as, mk, scs, cv, c, rfl, Pt, he, hw, hsz, hm, ha, hsl, q1, q2⟩ := h
  have GA := ok_ask (P := P) (w := w) (base := base) ml T S DA'
  have GS := ok_scope (P := P) (w := w) (base := base) ml T DS
  refine ⟨_, (pss_cons (ps_set (i := 2) scHold.nd rfl (Or.inl rfl) (pe_ix ix_tup (pv 1) pe_int (fun _ _ => rfl)))
      (pss_cons (ps_if (pt_cmpR op_eq (pv 2) pe_str (nomark _)) (pss_one (ps_ret (pe_mtX DA' T.cl GA (hr.mono (by omega)) (passes_call (takes_of rfl rfl rfl rfl) fun _ _ _ _ h => h) (pv 0) (pa_cons (pe_ix ix_tup (pv 1) pe_int (fun _ _ => rfl)) pa_nil)))) pss_nil)
      (pss_cons (ps_if (pt_cmpR op_eq (pv 2) pe_str (nomark _)) (pss_one (ps_ret (pe_dget (hu_of hr) (pe_mt DS T.cl GS (hr.mono (by omega)) (pv 0) (pa_cons (pe_ix ix_tup (pv 1) pe_int (fun _ _ => rfl)) pa_nil)) (pe_ix ix_tup (pv 1) pe_int (fun _ _ => rfl)) (fun _ _ => rfl)))) pss_nil)
      (pss_cons (ps_if (pt_cmpR op_eq (pv 2) pe_str (nomark _)) (pss_one (ps_ret (pe_not (pe_mtX D T.cl G (hr.mono (by omega)) (passes_call (takes_of rfl rfl rfl rfl) fun _ _ _ _ h => h) (pv 0) (pa_cons (pe_ix ix_tup (pv 1) pe_int (fun _ _ => rfl)) pa_nil))))) pss_nil)
      (pss_cons (ps_for (passes_of rfl) rfl (pi_tup (pe_ix ix_tup (pv 1) pe_int (fun _ _ => rfl))) (pg_name (i := 3) scHold.nd rfl (Or.inl rfl)) (pss_one (ps_if (pt_cmpR op_ne (pe_mtX D T.cl G (hr.mono (by omega)) (passes_call (takes_of rfl rfl rfl rfl) fun _ _ _ _ h => h) (pv 0) (pa_cons (pv 3) pa_nil)) (pe_cmpR op_eq (pv 2) pe_str (nomark _)) (nomark _)) (pss_one (ps_ret (pe_cmpR op_eq (pv 2) pe_str (nomark _)))) pss_nil)))
      (pss_one (ps_ret (pe_cmpR op_eq (pv 2) pe_str (nomark _))))))))), ?_⟩
  have na : ∀ {m : Str}, (m == ("given" : Str)) = false → (m == ("rounds" : Str)) = false → (m == ("events" : Str)) = false → (m == ("scopes" : Str)) = false → (jP ga R ea sa).lookup m = none := fun a b c d => jP_no a b c d
  -- and, or
  have joint : ∀ (o : Bool) (cs : Conds) (a0 b0 : Addr) (ws : List V) (D0 : Ends) (tb : TS) (σ : L2.St), True := fun _ _ _ _ _ _ _ _ => trivial
  cases c with
  | call m =>
    obtain ⟨a0, rfl, h0⟩ := he
    repeat ac_rfl
    refine ⟨_, rfl, r, dx, _, rfl, Pt.r, na (by decide +kernel) (by decide +kernel) (by decide +kernel) (by decide +kernel), ?_⟩
    repeat ac_rfl
    refine ⟨r, dx, ga, ea, sa, R, as, mk, scs, m, rfl, Pt, hw, hm, ha, fun b hb H' f' P' => q1 b _ ?_ H' f' P', fun hb => q2 _ ?_⟩
    · show (as[mk.length]?, mk ++ [m]) = _
      rw [hb]
    · show (as[mk.length]?, mk ++ [m]) = _
      rw [hb]
  | flag m =>
    obtain ⟨a0, rfl, h0⟩ := he
    repeat ac_rfl
    refine ⟨_, rfl, r, dx, _, rfl, Pt.r, na (by decide +kernel) (by decide +kernel) (by decide +kernel) (by decide +kernel), ?_⟩
    repeat ac_rfl
    refine ⟨r, dx, ga, ea, sa, R, as, mk, scs, m, rfl, Pt, hw, hsl, fun p a b H' hsp hp hb s' => ?_⟩
    have h0' := (TK.of_same s') _ _ h0
    have P' := Pt.same s'
    have hmem : p ∈ scs := by rw [hsp]; simp
    obtain ⟨v, ev⟩ := lookF_some hp
    repeat ac_rfl
    refine ⟨_, .bl v, rfl, .inl ⟨_, Sum.inr m, .inl (P'.d p hmem), rfl, ?_⟩, q1 v mk ?_ H' (Fr.of_same s') P'⟩
    · rw [valF (P'.nn p hmem), ev]; rfl
    · show (some ((lookF (flat scs) m).getD false), mk) = _
      rw [hsp, flat_app, flat_cons, look_mid _ _ _ hp hb, ev]; rfl
  | not d =>
    obtain ⟨u, ⟨a0, rfl, h0⟩, hd⟩ := he
    have hz : szC d + 1 < n + 1 := hsz
    repeat ac_rfl
    refine ⟨_, rfl, r, dx, _, rfl, Pt.r, na (by decide +kernel) (by decide +kernel) (by decide +kernel) (by decide +kernel), ?_⟩
    repeat ac_rfl
    refine ⟨r, dx, ga, ea, sa, R, as, mk, scs, u, d, rfl, Pt, hd, hw, by omega, hm, ha, hsl, fun b m hb H' f' P' => ⟨b, rfl, q1 _ m ?_ H' f' P'⟩, fun m hb => q2 m ?_⟩
    · show (match evC as (flat scs) d mk with | (some b, m) => (some (!b), m) | (none, m) => (none, m)) = _
      rw [hb]
    · show (match evC as (flat scs) d mk with | (some b, m) => (some (!b), m) | (none, m) => (none, m)) = _
      rw [hb]
  | and cs =>
    obtain ⟨b0, ws, ⟨a0, rfl, h0⟩, h1, h2⟩ := he
    have hz : szCs cs + 1 < n + 1 := hsz
    have hlen := h2.len
    repeat ac_rfl
    refine ⟨_, rfl, a0, _, (1 : Int), _, rfl, rfl, h0, rfl, b0, rfl, ⟨ws, h1⟩, for_tup (K := K) (a := b0) (xs := ws) (fun i σ H' => (∃ o, σ = [some (.ref r), some (.ref a0), some (.str "and"), o]) ∧ Fr (PM ea sa scs) H H' ∧ ∃ m, PAt K C H' r dx ga ea sa R as m scs ∧ m.length ≤ as.length ∧ evC as (flat scs) (.and cs) mk = evCs as (flat scs) false (dropC cs i) m)
      ⟨⟨none, rfl⟩, Fr.refl, mk, Pt, hm, by cases cs <;> rfl⟩ (fun i σ H' _ ⟨_, f', _⟩ => Pt.tk f' _ _ h1) ?_ ?_⟩
    · rintro i x σ H' hi ⟨⟨o, rfl⟩, f', m, P', hm', ee⟩
      obtain ⟨d, hd0, hde⟩ := h2.at hi
      have hmem := List.mem_of_getElem? hd0
      rw [dropC_get hd0] at ee
      have k' := Pt.tk f'
      repeat ac_rfl
      refine ⟨_, rfl, r, dx, _, rfl, P'.r, na (by decide +kernel) (by decide +kernel) (by decide +kernel) (by decide +kernel), ?_⟩
      repeat ac_rfl
      refine ⟨r, dx, ga, ea, sa, R, as, m, scs, x, d, rfl, P', EncC.mono k' d hde, wfCs_mem hw hmem, Nat.lt_of_le_of_lt (szCs_mem hmem) (by omega), hm', ha, hsl, fun b m2 hb H2 f2 P2 => ?_, fun m2 hb H2 f2 e2 => ?_⟩
      · have e3 : evCs as (flat scs) false (.cons d (dropC cs (i + 1))) m = (if b = false then (some false, m2) else evCs as (flat scs) false (dropC cs (i + 1)) m2) := by
          show (match evC as (flat scs) d m with | (none, m) => _ | (some b, m) => if b = false then (some false, m) else evCs as (flat scs) false (dropC cs (i + 1)) m) = _
          rw [hb]
        rw [e3] at ee
        repeat ac_rfl
        have e4 : decide (V.str ("and" : Str) = V.str ("and" : Str)) = true := decide_eq_true rfl
        rw [e4]
        cases b with
        | false =>
          refine ifn_no (by decide) ?_
          repeat ac_rfl
          have e5 : decide (V.str ("and" : Str) = V.str ("or" : Str)) = false := by decide +kernel
          rw [e5]
          exact q1 false m2 (by rw [ee]; rfl) _ (f'.trans f2) P2
        | true =>
          refine ifn_yes rfl ?_
          repeat ac_rfl
          exact ⟨⟨_, rfl⟩, f'.trans f2, m2, P2, evC_len as _ hm' hb, by rw [ee]; rfl⟩
      · refine q2 m2 ?_ H2 (f'.trans f2) e2
        rw [ee]
        show (match evC as (flat scs) d m with | (none, m) => (none, m) | (some b, m) => if b = false then (some false, m) else evCs as (flat scs) false (dropC cs (i + 1)) m) = _
        rw [hb]
    · rintro σ H' ⟨⟨o, rfl⟩, f', m, P', hm', ee⟩
      rw [dropC_end (by rw [hlen]; exact Nat.le_refl _)] at ee
      repeat ac_rfl
      have e4 : decide (V.str ("and" : Str) = V.str ("and" : Str)) = true := decide_eq_true rfl
      rw [e4]
      exact q1 true m ee _ f' P'
  | or cs =>
    obtain ⟨b0, ws, ⟨a0, rfl, h0⟩, h1, h2⟩ := he
    have hz : szCs cs + 1 < n + 1 := hsz
    have hlen := h2.len
    repeat ac_rfl
    refine ⟨_, rfl, a0, _, (1 : Int), _, rfl, rfl, h0, rfl, b0, rfl, ⟨ws, h1⟩, for_tup (K := K) (a := b0) (xs := ws) (fun i σ H' => (∃ o, σ = [some (.ref r), some (.ref a0), some (.str "or"), o]) ∧ Fr (PM ea sa scs) H H' ∧ ∃ m, PAt K C H' r dx ga ea sa R as m scs ∧ m.length ≤ as.length ∧ evC as (flat scs) (.or cs) mk = evCs as (flat scs) true (dropC cs i) m)
      ⟨⟨none, rfl⟩, Fr.refl, mk, Pt, hm, by cases cs <;> rfl⟩ (fun i σ H' _ ⟨_, f', _⟩ => Pt.tk f' _ _ h1) ?_ ?_⟩
    · rintro i x σ H' hi ⟨⟨o, rfl⟩, f', m, P', hm', ee⟩
      obtain ⟨d, hd0, hde⟩ := h2.at hi
      have hmem := List.mem_of_getElem? hd0
      rw [dropC_get hd0] at ee
      have k' := Pt.tk f'
      repeat ac_rfl
      refine ⟨_, rfl, r, dx, _, rfl, P'.r, na (by decide +kernel) (by decide +kernel) (by decide +kernel) (by decide +kernel), ?_⟩
      repeat ac_rfl
      refine ⟨r, dx, ga, ea, sa, R, as, m, scs, x, d, rfl, P', EncC.mono k' d hde, wfCs_mem hw hmem, Nat.lt_of_le_of_lt (szCs_mem hmem) (by omega), hm', ha, hsl, fun b m2 hb H2 f2 P2 => ?_, fun m2 hb H2 f2 e2 => ?_⟩
      · have e3 : evCs as (flat scs) true (.cons d (dropC cs (i + 1))) m = (if b = true then (some true, m2) else evCs as (flat scs) true (dropC cs (i + 1)) m2) := by
          show (match evC as (flat scs) d m with | (none, m) => _ | (some b, m) => if b = true then (some true, m) else evCs as (flat scs) true (dropC cs (i + 1)) m) = _
          rw [hb]
        rw [e3] at ee
        repeat ac_rfl
        have e4 : decide (V.str ("or" : Str) = V.str ("and" : Str)) = false := by decide +kernel
        rw [e4]
        cases b with
        | true =>
          refine ifn_no (by decide) ?_
          repeat ac_rfl
          have e5 : decide (V.str ("or" : Str) = V.str ("or" : Str)) = true := decide_eq_true rfl
          rw [e5]
          exact q1 true m2 (by rw [ee]; rfl) _ (f'.trans f2) P2
        | false =>
          refine ifn_yes rfl ?_
          repeat ac_rfl
          exact ⟨⟨_, rfl⟩, f'.trans f2, m2, P2, evC_len as _ hm' hb, by rw [ee]; rfl⟩
      · refine q2 m2 ?_ H2 (f'.trans f2) e2
        rw [ee]
        show (match evC as (flat scs) d m with | (none, m) => (none, m) | (some b, m) => if b = true then (some true, m) else evCs as (flat scs) true (dropC cs (i + 1)) m) = _
        rw [hb]
    · rintro σ H' ⟨⟨o, rfl⟩, f', m, P', hm', ee⟩
      rw [dropC_end (by rw [hlen]; exact Nat.le_refl _)] at ee
      repeat ac_rfl
      have e4 : decide (V.str ("or" : Str) = V.str ("and" : Str)) = false := by decide +kernel
      rw [e4]
      exact q1 false m ee _ f' P'
theorem hold_all (ml : BN mg) (T : PCls K mg C fi) (S : StopC K mg CS) (DA' : DM K C "ask" "Player.ask" (inClass (top 24) 1) ["self", "name"] fA dA) (DS : DM K C "scope_of" "Player.scope_of" (inClass (top 24) 2) ["self", "name"] fS dS)
    (D : DM K C "holds" "Player.holds" (inClass (top 24) 3) ["self", "condition"] fH dH) : ∀ n : Nat, FnOk P w K mg base (L2.CX P w) (n + 1) fH dH ["self", "condition"] (spHold K C CS n)
  | 0 => fn_none fun vs H Q E ⟨_, _, _, _, _, _, _, _, _, _, _, _, _, _, _, h, _⟩ => absurd h (Nat.not_lt_zero _)
  | n + 1 => ok_hold ml T S DA' DS D (hold_all ml T S DA' DS D n)
end
end K23
namespace K23
open PySem PySem.Spec PyProof.Rows L2 Fl RT
local macro_rules | `(tactic| ac_rfl) => `(tactic| (
  first
    | with_reducible refine Stp.go ?_
    | with_reducible refine st_var (by with_unfolding_all exact rfl) ?_
    | with_reducible refine st_ixt (by with_unfolding_all assumption) (by with_unfolding_all exact rfl) ?_
    | with_reducible refine st_ixl (by with_unfolding_all assumption) (by with_unfolding_all exact rfl) ?_
    | with_reducible refine st_eq (by with_unfolding_all exact rfl) ?_
    | with_reducible refine st_bl ?_
    | with_reducible refine ifb_t ?_
    | with_reducible refine ifb_f ?_
    | with_reducible refine ifs_no (by decide +kernel) ?_
    | with_reducible refine ifs_yes rfl ?_
    | with_reducible refine ifs_yes lab_rfl ?_
    | with_reducible refine ifs_yes num_rfl ?_
    | with_reducible refine ifn_no (by decide +kernel) ?_
    | with_reducible refine ifn_yes rfl ?_
    | with_reducible refine ifnb_t ?_
    | with_reducible refine ifnb_f ?_
    | with_reducible refine st_ne (by with_unfolding_all exact rfl) ?_
    | with_reducible refine st_ix0 (by with_unfolding_all assumption) ?_))
def EncJ (K : PySem.W.Frag) (H : Hp) : Jmp → V → Prop
  | .brk l, v => Tp K H v [.str "break", labV l]
  | .cont l, v => Tp K H v [.str "continue", labV l]
  | .ret n, v => Tp K H v [.str "return", numV n]
theorem EncJ.mono {K : PySem.W.Frag} {H H' : Hp} (k : TK K H H') : ∀ {d : Jmp} {v : V}, EncJ K H d v → EncJ K H' d v
  | .brk _, _, h => Tp.mono k h
  | .cont _, _, h => Tp.mono k h
  | .ret _, _, h => Tp.mono k h
theorem EncJ.not_non {K : PySem.W.Frag} {H : Hp} : ∀ {d : Jmp} {v : V}, EncJ K H d v → v ≠ .non
  | .brk _, _, ⟨a, e, _⟩ => by rw [e]; exact ne_non_ref
  | .cont _, _, ⟨a, e, _⟩ => by rw [e]; exact ne_non_ref
  | .ret _, _, ⟨a, e, _⟩ => by rw [e]; exact ne_non_ref
abbrev keyS (p : Addr × Flg) : Addr × List Nm := (p.1, nms p.2)
def addL : List (Addr × List Nm) → List Nm → List (Addr × List Nm)
  | [], _ => []
  | [(d, ns)], ad => [(d, ns ++ ad)]
  | x :: y :: r, ad => x :: addL (y :: r) ad
theorem addL_nil : ∀ l : List (Addr × List Nm), addL l [] = l
  | [] => rfl
  | [(d, ns)] => by simp [addL]
  | x :: y :: r => by
    show x :: addL (y :: r) [] = _
    rw [addL_nil]
theorem addL_snoc (d : Addr) (ns ad : List Nm) : ∀ l : List (Addr × List Nm), addL (l ++ [(d, ns)]) ad = l ++ [(d, ns ++ ad)]
  | [] => rfl
  | [x] => rfl
  | x :: y :: r => by
    have ih := addL_snoc d ns ad (y :: r)
    show x :: addL (y :: (r ++ [(d, ns)])) ad = _
    rw [show y :: (r ++ [(d, ns)]) = (y :: r) ++ [(d, ns)] from rfl, ih]; rfl
/-- the same scopes, the last one with ad behind -/
def Like (scs' scs : Scs) (ad : List Nm) : Prop := scs'.map keyS = addL (scs.map keyS) ad
theorem Like.refl {scs : Scs} : Like scs scs [] := (addL_nil _).symm
theorem Like.keys {scs' scs : Scs} (h : Like scs' scs []) : scs'.map keyS = scs.map keyS := h.trans (addL_nil _)
theorem Like.of {scs' scs : Scs} (h : scs'.map keyS = scs.map keyS) : Like scs' scs [] := h.trans (addL_nil _).symm
theorem fst_keys (scs : Scs) : scs.map (·.1) = (scs.map keyS).map (·.1) := by rw [List.map_map]; rfl
theorem nms_keys (scs : Scs) : nms (flat scs) = ((scs.map keyS).map (·.2)).flatten := by
  induction scs with
  | nil => rfl
  | cons p r ih => rw [flat_cons, nms_app, ih]; rfl
theorem addL_fst (ad : List Nm) : ∀ l : List (Addr × List Nm), (addL l ad).map (·.1) = l.map (·.1)
  | [] => rfl
  | [(d, ns)] => rfl
  | x :: y :: r => by
    have ih := addL_fst ad (y :: r)
    show x.1 :: (addL (y :: r) ad).map (·.1) = _
    rw [ih]; rfl
theorem Like.fst {scs' scs : Scs} {ad : List Nm} (h : Like scs' scs ad) : scs'.map (·.1) = scs.map (·.1) := by
  rw [fst_keys, fst_keys, h, addL_fst]
theorem Like.nms {scs' scs : Scs} (h : Like scs' scs []) : nms (flat scs') = nms (flat scs) := by
  rw [nms_keys, nms_keys, h.keys]
theorem Like.pm {ea sa : Addr} {scs' scs : Scs} {ad : List Nm} (h : Like scs' scs ad) : PM ea sa scs' = PM ea sa scs := by
  funext b
  unfold PM
  rw [h.fst]
theorem Like.trans0 {a b c : Scs} {ad : List Nm} (h : Like a b ad) (h2 : Like b c []) : Like a c ad := by
  unfold Like at *
  rw [h, h2, addL_nil]
theorem Like.trans1 {a b c : Scs} {ad : List Nm} (h : Like a b []) (h2 : Like b c ad) : Like a c ad := by
  unfold Like at *
  rw [h, addL_nil, h2]
theorem Like.snoc {scs' a : Scs} {p : Addr × Flg} {ad : List Nm} (h : Like scs' (a ++ [p]) ad) : ∃ a' f', scs' = a' ++ [(p.1, f')] ∧ Like a' a [] ∧ Fl.nms f' = Fl.nms p.2 ++ ad := by
  unfold Like at h
  rw [List.map_append, List.map_singleton, addL_snoc] at h
  obtain ⟨l1, l2, e, h1, h2⟩ := List.map_eq_append_iff.mp h
  obtain ⟨q, e2, h3⟩ := List.map_eq_singleton_iff.mp h2
  subst e e2
  have h4 : q.1 = p.1 := congrArg (fun z : Addr × List Nm => z.1) h3
  have h5 : Fl.nms q.2 = Fl.nms p.2 ++ ad := congrArg (fun z : Addr × List Nm => z.2) h3
  exact ⟨l1, q.2, by rw [← h4], Like.of h1, h5⟩
theorem Like.mk_snoc {a' a : Scs} {d : Addr} {f f' : Flg} {ad : List Nm} (h : Like a' a []) (e : Fl.nms f' = Fl.nms f ++ ad) : Like (a' ++ [(d, f')]) (a ++ [(d, f)]) ad := by
  unfold Like
  rw [List.map_append, List.map_append, List.map_singleton, List.map_singleton, addL_snoc, h.keys]
  show _ ++ [(d, Fl.nms f')] = _ ++ [(d, Fl.nms f ++ ad)]
  rw [e]
structure PE0 where
  C : Addr
  CS : Addr
  r : Addr
  dx : Addr
  ga : Addr
  ea : Addr
  sa : Addr
  R : Nat
  as : List Bool
abbrev PE0.At (p : PE0) (K : PySem.W.Frag) (H : Hp) (mk : Fl.Made) (scs : Scs) : Prop := PAt K p.C H p.r p.dx p.ga p.ea p.sa p.R p.as mk scs
/-- the result of a run, as the methods give it -/
def okRes (K : PySem.W.Frag) (p : PE0) (scs : Scs) (ad : List Nm) (res : Res) (H : Hp) (Q : VK) (E : XK) : Prop :=
  (∀ f m, res = (.next f, m) → ∀ H' scs', Fr (PM p.ea p.sa scs) H H' → p.At K H' m scs' → Like scs' scs ad → flat scs' = f → Q .non H') ∧
  (∀ d f m, res = (.jump d f, m) → ∀ H' scs' v, Fr (PM p.ea p.sa scs) H H' → p.At K H' m scs' → Like scs' scs [] → flat scs' = f → EncJ K H' d v → Q v H') ∧
  (∀ m, res = (.wait, m) → wStop p.CS p.ea (PM p.ea p.sa scs) H E (m.map evV)) ∧
  (∀ m, res = (.hang, m) → wStop p.CS p.ea (PM p.ea p.sa scs) H E (m.map evV ++ [.str "hang"]))
/-- what may be asked of a run: sizes -/
structure Fit (p : PE0) (mk : Fl.Made) (scs : Scs) (lets size : Nat) : Prop where
  m : mk.length ≤ p.as.length
  a : p.as.length ≤ 400
  s : scs.length + size ≤ 500
  l : ∃ L, L ≤ 4 ∧ 2 ^ L ≤ p.R + 1 ∧ (flat scs).length + lets ≤ L
def spPB (K : PySem.W.Frag) (C CS : Addr) (n : Nat) : Sp := fun vs H Q E => ∃ (p : PE0) (mk : Fl.Made) (scs : Scs) (bv : V) (ss : Stms) (lp : Nat) (lz : Bool), vs = [.ref p.r, bv] ∧ p.C = C ∧ p.CS = CS ∧ p.At K H mk scs ∧ EncR K H ss bv ∧ wfR (nms (flat scs)) [] lp lz ss ∧ szR ss < n ∧
  Fit p mk scs (letsR ss) (szR ss + 1) ∧ okRes K p scs [] (exB p.as ss (flat scs) mk) H Q E
def spPS (K : PySem.W.Frag) (C CS : Addr) (n : Nat) : Sp := fun vs H Q E => ∃ (p : PE0) (mk : Fl.Made) (a : Scs) (d : Addr) (own : Flg) (sv : V) (s : Stm) (lp : Nat) (lz : Bool), vs = [.ref p.r, sv] ∧ p.C = C ∧ p.CS = CS ∧ p.At K H mk (a ++ [(d, own)]) ∧ EncS K H s sv ∧ wfS (nms (flat (a ++ [(d, own)]))) (nms own) lp lz s ∧ szS s < n ∧
  Fit p mk (a ++ [(d, own)]) (letsS s) (szS s) ∧ okRes K p (a ++ [(d, own)]) (addsS s) (exS p.as s (flat (a ++ [(d, own)])) mk) H Q E
def isLoop : Stm → Bool
  | .whl _ _ _ => true
  | .forl _ _ => true
  | _ => false
def spPL (K : PySem.W.Frag) (C CS : Addr) (n : Nat) : Sp := fun vs H Q E => ∃ (p : PE0) (mk : Fl.Made) (scs : Scs) (sv : V) (s : Stm) (lp : Nat) (lz : Bool), vs = [.ref p.r, sv] ∧ p.C = C ∧ p.CS = CS ∧ p.At K H mk scs ∧ EncS K H s sv ∧ isLoop s = true ∧ wfS (nms (flat scs)) [] lp lz s ∧ szS s < n ∧
  Fit p mk scs (letsS s) (szS s) ∧ okRes K p scs [] (exS p.as s (flat scs) mk) H Q E
theorem scPB : FnScope ["self", "body", "done", "statement"] ["self", "body"] (defScope (inClass (top 24) 4)) := ⟨rfl, rfl, rfl, by decide +kernel, rfl, by decide +kernel, by decide +kernel⟩
theorem scPS : FnScope ["self", "statement", "kind", "scope", "done", "after"] ["self", "statement"] (defScope (inClass (top 24) 5)) := ⟨rfl, rfl, rfl, by decide +kernel, rfl, by decide +kernel, by decide +kernel⟩
theorem scPL : FnScope ["self", "loop", "rounds", "made", "done"] ["self", "loop"] (defScope (inClass (top 24) 6)) := ⟨rfl, rfl, rfl, by decide +kernel, rfl, by decide +kernel, by decide +kernel⟩
/-- a scope's dict is written -/
theorem PAt.wrote {K : PySem.W.Frag} {C : Addr} {H : Hp} {r dx ga ea sa : Addr} {R : Nat} {as : List Bool} {mk : Fl.Made} {a b : Scs} {q : Addr × Flg} (P : PAt K C H r dx ga ea sa R as mk (a ++ q :: b)) (f : Flg) (hf : (nms f).Nodup) :
    PAt K C (upd H q.1 (.dK (kvF f))) r dx ga ea sa R as mk (a ++ (q.1, f) :: b) ∧ Fr (PM ea sa (a ++ q :: b)) H (upd H q.1 (.dK (kvF f))) := by
  have hq : q ∈ a ++ q :: b := by simp
  have eq := P.d q hq
  have nd := P.nd
  rw [List.map_append, List.map_cons] at nd
  have nd1 := List.nodup_append.mp nd
  have nq : ∀ p ∈ a ++ b, p.1 ≠ q.1 := fun p hp z => by
    rcases List.mem_append.mp hp with h | h
    · exact nd1.2.2 p.1 (List.mem_map_of_mem h) q.1 List.mem_cons_self z
    · have := (List.nodup_cons.mp nd1.2.1).1
      exact this (by rw [← z]; exact List.mem_map_of_mem h)
  have e1 : (a ++ (q.1, f) :: b).map (·.1) = (a ++ q :: b).map (·.1) := by simp
  refine ⟨⟨?_, ?_, ?_, ?_, fun p hp => ?_, by rw [e1]; exact P.nd, fun p hp => ?_, P.ne⟩, Fr.refl.upd (.inl (.inr (.inr (List.mem_map_of_mem hq))))⟩
  · rw [upd_ne fun z => P.ne_r (.inr (.inr (by rw [z]; exact List.mem_map_of_mem hq)))]; exact P.r
  · exact (TK.put _ eq (fun _ z => (by cases z)) fun _ _ z => (by cases z)) _ _ P.g
  · rw [upd_ne fun z => by have := P.e; rw [z, eq] at this; cases this]; exact P.e
  · rw [upd_ne fun z => by have := P.s; rw [z, eq] at this; cases this]
    rw [P.s]
    simp
  · rcases List.mem_append.mp hp with h | h
    · rw [upd_ne (nq p (List.mem_append_left _ h))]
      exact P.d p (List.mem_append_left _ h)
    · rcases List.mem_cons.mp h with z | h
      · subst z; exact upd_same
      · rw [upd_ne (nq p (List.mem_append_right _ h))]
        exact P.d p (List.mem_append_right _ (List.mem_cons_of_mem _ h))
  · rcases List.mem_append.mp hp with h | h
    · exact P.nn p (List.mem_append_left _ h)
    · rcases List.mem_cons.mp h with z | h
      · subst z; exact hf
      · exact P.nn p (List.mem_append_right _ (List.mem_cons_of_mem _ h))
theorem nodup_snoc {x : Nm} {l : List Nm} (h : l.Nodup) (hx : x ∉ l) : (l ++ [x]).Nodup :=
  List.nodup_append.mpr ⟨h, by simp, fun a ha b hb z => hx (by rw [← List.mem_singleton.mp hb, ← z]; exact ha)⟩
end K23
namespace K23
open PySem PySem.Spec PyProof.Rows L2 Fl RT
local macro_rules | `(tactic| ac_rfl) => `(tactic| (
  first
    | with_reducible refine Stp.go ?_
    | with_reducible refine st_var (by with_unfolding_all exact rfl) ?_
    | with_reducible refine st_ixt (by with_unfolding_all assumption) (by with_unfolding_all exact rfl) ?_
    | with_reducible refine st_ixl (by with_unfolding_all assumption) (by with_unfolding_all exact rfl) ?_
    | with_reducible refine st_eq (by with_unfolding_all exact rfl) ?_
    | with_reducible refine st_bl ?_
    | with_reducible refine ifb_t ?_
    | with_reducible refine ifb_f ?_
    | with_reducible refine ifs_no (by decide +kernel) ?_
    | with_reducible refine ifs_yes rfl ?_
    | with_reducible refine ifs_yes lab_rfl ?_
    | with_reducible refine ifs_yes num_rfl ?_
    | with_reducible refine ifn_no (by decide +kernel) ?_
    | with_reducible refine ifn_yes rfl ?_
    | with_reducible refine ifnb_t ?_
    | with_reducible refine ifnb_f ?_
    | with_reducible refine st_ne (by with_unfolding_all exact rfl) ?_
    | with_reducible refine st_ix0 (by with_unfolding_all assumption) ?_))
theorem okRes.from_ {K : PySem.W.Frag} {p : PE0} {scs : Scs} {ad : List Nm} {res : Res} {H H1 : Hp} {Q : VK} {E : XK} (f : Fr (PM p.ea p.sa scs) H H1) (q : okRes K p scs ad res H Q E) : okRes K p scs ad res H1 Q E :=
  ⟨fun f' m e H' scs' g => q.1 f' m e H' scs' (f.trans g), fun d f' m e H' scs' v g => q.2.1 d f' m e H' scs' v (f.trans g), fun m e H' g => q.2.2.1 m e H' (f.trans g), fun m e H' g => q.2.2.2 m e H' (f.trans g)⟩
theorem atI_last {α : Type} {l : List α} {x : α} : atI (l ++ [x]) (-1) = some x := by
  unfold atI ixN
  rw [if_neg (by omega), if_pos (by rw [List.length_append]; show -((l.length + 1 : Nat) : Int) ≤ -1; omega)]
  show (l ++ [x])[((-1 : Int) + ((l ++ [x]).length : Nat)).toNat]? = _
  have e : ((-1 : Int) + ((l ++ [x]).length : Nat)).toNat = l.length := by
    rw [List.length_append]
    show ((-1 : Int) + ((l.length + 1 : Nat) : Int)).toNat = _
    omega
  rw [e, List.getElem?_append_right (Nat.le_refl _), Nat.sub_self]; rfl
theorem Fit.sub {p : PE0} {mk m : Fl.Made} {scs scs' : Scs} {l l' s s' : Nat} (h : Fit p mk scs l s) (hm : m.length ≤ p.as.length) (h1 : scs'.length + s' ≤ scs.length + s) (h2 : (flat scs').length + l' ≤ (flat scs).length + l) : Fit p m scs' l' s' :=
  ⟨hm, h.a, by have := h.s; omega, let ⟨L, a, b, c⟩ := h.l; ⟨L, a, b, by omega⟩⟩
theorem exB_len (as : List Bool) {ss : Stms} {fl : Flg} {mk : Fl.Made} (h : mk.length ≤ as.length) {f : Flg} {m : Fl.Made} : (exB as ss fl mk = (.next f, m) → m.length ≤ as.length ∧ nms f = nms fl) ∧ ∀ d, exB as ss fl mk = (.jump d f, m) → m.length ≤ as.length ∧ nms f = nms fl := by
  have g := exB_fine as ss fl mk
  constructor
  · intro e
    rw [e] at g
    exact ⟨(g.gr.2 h).1 rfl, g.nm _ rfl⟩
  · intro d e
    rw [e] at g
    exact ⟨(g.gr.2 h).1 rfl, g.nm _ rfl⟩
theorem like_len {scs' scs : Scs} (h : Like scs' scs []) : scs'.length = scs.length := by
  have := congrArg List.length h.keys
  rw [List.length_map, List.length_map] at this
  exact this
theorem flat_len {scs' scs : Scs} (h : nms (flat scs') = nms (flat scs)) : (flat scs').length = (flat scs).length := by
  rw [← nms_len, ← nms_len, h]
section
variable {P : Program} {w : World} {K : PySem.W.Frag} {mg : Str → Option Value} {base : Heap} {C CS fi fA fS fH fB fT fL : Addr} {di dA dS dH dB dT dL : FuncData}
theorem ok_PS {n : Nat} (ml : BN mg) (T : PCls K mg C fi) (S : StopC K mg CS) (DA' : DM K C "ask" "Player.ask" (inClass (top 24) 1) ["self", "name"] fA dA) (DS : DM K C "scope_of" "Player.scope_of" (inClass (top 24) 2) ["self", "name"] fS dS)
    (DH : DM K C "holds" "Player.holds" (inClass (top 24) 3) ["self", "condition"] fH dH) (DB : DM K C "body" "Player.body" (inClass (top 24) 4) ["self", "body"] fB dB) (DL : DM K C "loop" "Player.loop" (inClass (top 24) 6) ["self", "loop"] fL dL)
    (D : DM K C "statement" "Player.statement" (inClass (top 24) 5) ["self", "statement"] fT dT)
    (GB : FnOk P w K mg base (L2.CX P w) (3 * n + 25) fB dB ["self", "body"] (spPB K C CS n)) (GL : FnOk P w K mg base (L2.CX P w) (3 * n + 26) fL dL ["self", "loop"] (spPL K C CS (n + 1))) :
    FnOk P w K mg base (L2.CX P w) (3 * n + 27) fT dT ["self", "statement"] (spPS K C CS (n + 1)) := by
  refine D.F.okX scPS (fun vs H Q E h => ?_) (fun cdv A outer s H vs Q E hr h => ?_)
  · obtain ⟨p, mk, a, d, own, sv, s, lp, lz, rfl, _⟩ := h
    rfl
  obtain ⟨p, mk, a, d, own, sv, st, lp, lz, rfl, rfl, rfl, Pt, he, hw, hsz, ft, q⟩ := h
  have GA := ok_ask (P := P) (w := w) (base := base) ml T S DA'
  have GS := ok_scope (P := P) (w := w) (base := base) ml T DS
  have GH := hold_all (P := P) (w := w) (base := base) ml T S DA' DS DH 19
  refine ⟨_, (pss_cons (ps_set (i := 2) scPS.nd rfl (Or.inl rfl) (pe_ix ix_tup (pv 1) pe_int (fun _ _ => rfl)))
      (pss_cons (ps_if (pt_cmpR op_eq (pv 2) pe_str (nomark _)) (pss_cons (ps_expr (pe_mtX DA' T.cl GA (hr.mono (by omega)) (passes_call (takes_of rfl rfl rfl rfl) fun _ _ _ _ h => h) (pv 0) (pa_cons (pe_ix ix_tup (pv 1) pe_int (fun _ _ => rfl)) pa_nil)))
      (pss_one (ps_ret pe_non))) pss_nil)
      (pss_cons (ps_if (pw_or (pt_cmpR op_eq (pv 2) pe_str (nomark _)) (pw_or1 (pt_cmpR op_eq (pv 2) pe_str (nomark _)))).pt (pss_cons (ps_set (i := 3) scPS.nd rfl (Or.inl rfl) (pe_ix ix_list (pe_fld (pv 0) rfl) (pe_un un_neg pe_int) (fun _ _ => rfl)))
      (pss_cons (ps_if (pt_cmpR op_eq (pv 2) pe_str (nomark _)) (pss_one (ps_set (i := 3) scPS.nd rfl (Or.inl rfl) (pe_mt DS T.cl GS (hr.mono (by omega)) (pv 0) (pa_cons (pe_ix ix_tup (pv 1) pe_int (fun _ _ => rfl)) pa_nil)))) pss_nil)
      (pss_cons (ps_dput (hu_of hr) (pv 3) (pe_ix ix_tup (pv 1) pe_int (fun _ _ => rfl)) (pe_ix ix_tup (pv 1) pe_int (fun _ _ => rfl)) rfl)
      (pss_one (ps_ret pe_non))))) pss_nil)
      (pss_cons (ps_if (pt_cmpR op_eq (pv 2) pe_str (nomark _)) (pss_cons (ps_if (pt_truth (pe_mtX DH T.cl GH (hr.mono (by omega)) (passes_call (takes_of rfl rfl rfl rfl) fun _ _ _ _ h => h) (pv 0) (pa_cons (pe_ix ix_tup (pv 1) pe_int (fun _ _ => rfl)) pa_nil)) (fun _ => rfl)) (pss_one (ps_ret (pe_mtX DB T.cl GB (hr.mono (by omega)) (passes_call (takes_of rfl rfl rfl rfl) fun _ _ _ _ h => h) (pv 0) (pa_cons (pe_ix ix_tup (pv 1) pe_int (fun _ _ => rfl)) pa_nil)))) pss_nil)
      (pss_one (ps_ret (pe_mtX DB T.cl GB (hr.mono (by omega)) (passes_call (takes_of rfl rfl rfl rfl) fun _ _ _ _ h => h) (pv 0) (pa_cons (pe_ix ix_tup (pv 1) pe_int (fun _ _ => rfl)) pa_nil))))) pss_nil)
      (pss_cons (ps_if (pw_or (pt_cmpR op_eq (pv 2) pe_str (nomark _)) (pw_or1 (pt_cmpR op_eq (pv 2) pe_str (nomark _)))).pt (pss_one (ps_ret (pe_mtX DL T.cl GL (hr.mono (by omega)) (passes_call (takes_of rfl rfl rfl rfl) fun _ _ _ _ h => h) (pv 0) (pa_cons (pv 1) pa_nil)))) pss_nil)
      (pss_cons (ps_if (pt_cmpR op_eq (pv 2) pe_str (nomark _)) (pss_cons (ps_set (i := 4) scPS.nd rfl (Or.inl rfl) (pe_mtX DB T.cl GB (hr.mono (by omega)) (passes_call (takes_of rfl rfl rfl rfl) fun _ _ _ _ h => h) (pv 0) (pa_cons (pe_ix ix_tup (pv 1) pe_int (fun _ _ => rfl)) pa_nil)))
      (pss_cons (ps_set (i := 5) scPS.nd rfl (Or.inl rfl) (pe_mtX DB T.cl GB (hr.mono (by omega)) (passes_call (takes_of rfl rfl rfl rfl) fun _ _ _ _ h => h) (pv 0) (pa_cons (pe_ix ix_tup (pv 1) pe_int (fun _ _ => rfl)) pa_nil)))
      (pss_cons (ps_if (pt_cmp (pc_isN (pv 5))) (pss_one (ps_ret (pv 4))) pss_nil)
      (pss_one (ps_ret (pv 5)))))) pss_nil)
      (pss_cons (ps_if (pt_cmpR op_eq (pv 2) pe_str (nomark _)) (pss_one (ps_ret (pe_mtX DB T.cl GB (hr.mono (by omega)) (passes_call (takes_of rfl rfl rfl rfl) fun _ _ _ _ h => h) (pv 0) (pa_cons (pe_ix ix_tup (pv 1) pe_int (fun _ _ => rfl)) pa_nil)))) pss_nil)
      (pss_one (ps_ret (pv 1)))))))))), ?_⟩
  have na : ∀ {m : Str}, (m == ("given" : Str)) = false → (m == ("rounds" : Str)) = false → (m == ("events" : Str)) = false → (m == ("scopes" : Str)) = false → (jP p.ga p.R p.ea p.sa).lookup m = none := fun a b c d => jP_no a b c d
  have hm := ft.m
  -- a jump: the statement itself
  have jmp : ∀ (j : Jmp) (v : V), exS p.as st (flat (a ++ [(d, own)])) mk = (.jump j (flat (a ++ [(d, own)])), mk) → EncJ K H j v → Q v H := fun j v e1 e2 => q.2.1 j _ mk e1 H _ v Fr.refl Pt .refl rfl e2
  cases st with
  | call m =>
    obtain ⟨a0, rfl, h0⟩ := he
    repeat ac_rfl
    refine ⟨_, rfl, p.r, p.dx, _, rfl, Pt.r, na (by decide +kernel) (by decide +kernel) (by decide +kernel) (by decide +kernel), ?_⟩
    repeat ac_rfl
    refine ⟨p.r, p.dx, p.ga, p.ea, p.sa, p.R, p.as, mk, _, m, rfl, Pt, hw, hm, ft.a, fun b hb H' f' P' => ?_, fun hb => q.2.2.1 _ ?_⟩
    · repeat ac_rfl
      refine q.1 _ _ ?_ H' _ f' P' .refl rfl
      simp only [exS, hb]
    · simp only [exS, hb]
  | letf x b =>
    obtain ⟨a0, rfl, h0⟩ := he
    obtain ⟨hnm, hno⟩ := hw
    have hd : H d = some (.dK (kvF own)) := Pt.d (d, own) (by simp)
    repeat ac_rfl
    refine fld_self Pt.r T.cl T.n4 jP_scopes rfl ?_
    refine ⟨1, rfl, p.sa, _, _, .ref d, rfl, rfl, .inl (.inl Pt.s), (by rw [List.map_append]; exact atI_last), ?_⟩
    repeat ac_rfl
    have hlen : (kvF own).length < sizeLine := by
      obtain ⟨L, h1, _, h3⟩ := ft.l
      have h4 : (flat (a ++ [(d, own)])).length = (flat a).length + (own.length + (flat []).length) := by rw [flat_app, flat_cons, List.length_append, List.length_append]
      rw [kvF_len]
      exact small_lt (by omega)
    refine ⟨_, rfl, a0, _, _, _, rfl, rfl, h0, rfl, _, rfl, _, rfl, a0, _, _, _, rfl, rfl, h0, rfl, d, _, rfl, DPut.k (k := Sum.inr x) hd hlen, ?_⟩
    rw [putF_new hno]
    obtain ⟨P2, f2⟩ := PAt.wrote (a := a) (b := []) (q := (d, own)) Pt (own ++ [(x, b)]) (by rw [nms_app]; exact nodup_snoc (Pt.nn (d, own) (by simp)) hno)
    repeat ac_rfl
    refine q.1 _ mk rfl _ _ f2 P2 (Like.mk_snoc .refl (by rw [nms_app]; rfl)) ?_
    rw [flat_app, flat_app, flat_cons, flat_cons]
    simp [flat]
  | setf x b =>
    obtain ⟨a0, rfl, h0⟩ := he
    repeat ac_rfl
    refine fld_self Pt.r T.cl T.n4 jP_scopes rfl ?_
    refine ⟨1, rfl, p.sa, _, _, .ref d, rfl, rfl, .inl (.inl Pt.s), (by rw [List.map_append]; exact atI_last), ?_⟩
    repeat ac_rfl
    refine ⟨_, rfl, p.r, p.dx, _, rfl, Pt.r, na (by decide +kernel) (by decide +kernel) (by decide +kernel) (by decide +kernel), ?_⟩
    repeat ac_rfl
    refine ⟨p.r, p.dx, p.ga, p.ea, p.sa, p.R, p.as, mk, _, x, rfl, Pt, hw, by have := ft.s; omega, fun t a1 b1 H' hsp hp hb s' => ?_⟩
    have h0' := (TK.of_same s') _ _ h0
    have P' := Pt.same s'
    have hmem : t ∈ a ++ [(d, own)] := by rw [hsp]; simp
    have hd := P'.d t hmem
    have hnn := P'.nn t hmem
    have hlen : (kvF t.2).length < sizeLine := by
      obtain ⟨L, h1, _, h3⟩ := ft.l
      rw [hsp, flat_app, flat_cons, List.length_append, List.length_append] at h3
      rw [kvF_len]
      exact small_lt (by omega)
    repeat ac_rfl
    refine ⟨_, rfl, a0, _, _, _, rfl, rfl, h0', rfl, _, rfl, _, rfl, a0, _, _, _, rfl, rfl, h0', rfl, t.1, _, rfl, DPut.k (k := Sum.inr x) hd hlen, ?_⟩
    rw [putF_in hnn hp]
    rw [hsp] at P'
    obtain ⟨P2, f2⟩ := PAt.wrote P' (setF t.2 x b) (by rw [nms_setF]; exact hnn)
    rw [← hsp] at f2
    repeat ac_rfl
    refine q.1 _ mk rfl _ _ ((Fr.of_same s').trans f2) P2 (Like.of ?_) ?_
    · rw [hsp]
      simp [keyS, nms_setF]
    · rw [hsp, flat_app, flat_cons, flat_app, flat_cons, set_mid _ _ _ hp hb]
  | brk l =>
    obtain ⟨a0, rfl, h0⟩ := he
    repeat ac_rfl
    exact jmp (.brk l) _ rfl ⟨a0, rfl, h0⟩
  | cont l =>
    obtain ⟨a0, rfl, h0⟩ := he
    repeat ac_rfl
    exact jmp (.cont l) _ rfl ⟨a0, rfl, h0⟩
  | ret m =>
    obtain ⟨a0, rfl, h0⟩ := he
    repeat ac_rfl
    exact jmp (.ret m) _ rfl ⟨a0, rfl, h0⟩
  | block b =>
    obtain ⟨p1, ps, ⟨a0, rfl, h0⟩, h2, h3⟩ := he
    have ez : szR b + 1 = szS (.block b) := rfl
    have el : letsR b = letsS (.block b) := rfl
    repeat ac_rfl
    refine ⟨_, rfl, p.r, p.dx, _, rfl, Pt.r, na (by decide +kernel) (by decide +kernel) (by decide +kernel) (by decide +kernel), ?_⟩
    repeat ac_rfl
    exact ⟨p, mk, _, _, b, lp, lz, rfl, rfl, rfl, Pt, ⟨p1, ps, rfl, h2, h3⟩, hw, by omega, ft.sub hm (by omega) (by omega), q⟩
  | ite cd b1 b2 =>
    obtain ⟨u, p1, p2, ps, qs, ⟨a0, rfl, h0⟩, h1, h2, h3, h4, h5⟩ := he
    obtain ⟨hwc, hsc, hwa, hwb⟩ := hw
    have ez : szR b1 + szR b2 + 1 = szS (.ite cd b1 b2) := rfl
    have el : letsR b1 + letsR b2 = letsS (.ite cd b1 b2) := rfl
    repeat ac_rfl
    refine ⟨_, rfl, p.r, p.dx, _, rfl, Pt.r, na (by decide +kernel) (by decide +kernel) (by decide +kernel) (by decide +kernel), ?_⟩
    repeat ac_rfl
    refine ⟨p.r, p.dx, p.ga, p.ea, p.sa, p.R, p.as, mk, _, u, cd, rfl, Pt, h1, hwc, by omega, hm, ft.a, by have := ft.s; omega, fun b m hb H' f' P' => ⟨b, rfl, ?_⟩, fun m hb => q.2.2.1 m ?_⟩
    · have k' := Pt.tk f'
      have h0' := k' _ _ h0
      have hm' := evC_len p.as _ hm hb
      cases b with
      | true =>
        repeat ac_rfl
        refine ⟨_, rfl, p.r, p.dx, _, rfl, P'.r, na (by decide +kernel) (by decide +kernel) (by decide +kernel) (by decide +kernel), ?_⟩
        repeat ac_rfl
        have e1 : exS p.as (.ite cd b1 b2) (flat (a ++ [(d, own)])) mk = exB p.as b1 (flat (a ++ [(d, own)])) m := by simp only [exS, hb, exB]
        rw [e1] at q
        exact ⟨p, m, _, _, b1, lp, lz, rfl, rfl, rfl, P', ⟨p1, ps, rfl, k' _ _ h2, EncX.mono k' b1 h3⟩, hwa, by omega, ft.sub hm' (by omega) (by omega), okRes.from_ f' q⟩
      | false =>
        repeat ac_rfl
        refine ⟨_, rfl, p.r, p.dx, _, rfl, P'.r, na (by decide +kernel) (by decide +kernel) (by decide +kernel) (by decide +kernel), ?_⟩
        repeat ac_rfl
        have e1 : exS p.as (.ite cd b1 b2) (flat (a ++ [(d, own)])) mk = exB p.as b2 (flat (a ++ [(d, own)])) m := by simp only [exS, hb, exB]
        rw [e1] at q
        exact ⟨p, m, _, _, b2, lp, lz, rfl, rfl, rfl, P', ⟨p2, qs, rfl, k' _ _ h4, EncX.mono k' b2 h5⟩, hwb, by omega, ft.sub hm' (by omega) (by omega), okRes.from_ f' q⟩
    · simp only [exS, hb]
  | whl l cd b =>
    have he0 := he
    obtain ⟨u, p1, ps, ⟨a0, rfl, h0⟩, h1, h2, h3⟩ := he
    repeat ac_rfl
    refine ⟨_, rfl, p.r, p.dx, _, rfl, Pt.r, na (by decide +kernel) (by decide +kernel) (by decide +kernel) (by decide +kernel), ?_⟩
    repeat ac_rfl
    exact ⟨p, mk, _, _, .whl l cd b, lp, lz, rfl, rfl, rfl, Pt, he0, rfl, hw, hsz, ft, q⟩
  | forl l b =>
    have he0 := he
    obtain ⟨p1, ps, ⟨a0, rfl, h0⟩, h2, h3⟩ := he
    repeat ac_rfl
    refine ⟨_, rfl, p.r, p.dx, _, rfl, Pt.r, na (by decide +kernel) (by decide +kernel) (by decide +kernel) (by decide +kernel), ?_⟩
    repeat ac_rfl
    exact ⟨p, mk, _, _, .forl l b, lp, lz, rfl, rfl, rfl, Pt, he0, rfl, hw, hsz, ft, q⟩
  | tryf b1 b2 =>
    obtain ⟨p1, p2, ps, qs, ⟨a0, rfl, h0⟩, h2, h3, h4, h5⟩ := he
    obtain ⟨hlz, hwa, hwb⟩ := hw
    have ez : szR b1 + szR b2 + 1 = szS (.tryf b1 b2) := rfl
    have el : letsR b1 + letsR b2 = letsS (.tryf b1 b2) := rfl
    have ex : exS p.as (.tryf b1 b2) (flat (a ++ [(d, own)])) mk = tryThen (exB p.as b1 (flat (a ++ [(d, own)])) mk) (fun f m => exB p.as b2 f m) := by simp only [exS, exB]
    rw [ex] at q
    repeat ac_rfl
    refine ⟨_, rfl, p.r, p.dx, _, rfl, Pt.r, na (by decide +kernel) (by decide +kernel) (by decide +kernel) (by decide +kernel), ?_⟩
    repeat ac_rfl
    refine ⟨p, mk, _, _, b1, lp, lz, rfl, rfl, rfl, Pt, ⟨p1, ps, rfl, h2, h3⟩, hwa, by omega, ft.sub hm (by omega) (by omega), fun f m e1 H1 scs1 f1 P1 l1 ef => ?_, fun j f m e1 H1 scs1 v f1 P1 l1 ef ev => ?_, fun m e1 => ?_, fun m e1 => ?_⟩
    · subst ef
      obtain ⟨hm1, hn1⟩ := (exB_len p.as hm).1 e1
      have k1 := Pt.tk f1
      have h0' := k1 _ _ h0
      rw [e1] at q
      repeat ac_rfl
      refine ⟨_, rfl, p.r, p.dx, _, rfl, P1.r, na (by decide +kernel) (by decide +kernel) (by decide +kernel) (by decide +kernel), ?_⟩
      repeat ac_rfl
      have hl1 := like_len l1
      have hf1 := flat_len hn1
      refine ⟨p, m, scs1, _, b2, lp, true, rfl, rfl, rfl, P1, ⟨p2, qs, rfl, k1 _ _ h4, EncX.mono k1 b2 h5⟩, by rw [hn1]; exact hwb, by omega, ft.sub hm1 (by omega) (by omega), fun f2 m2 e2 H2 scs2 g2 P2 l2 ef2 => ?_, fun j f2 m2 e2 H2 scs2 v g2 P2 l2 ef2 ev => ?_, fun m2 e2 => ?_, fun m2 e2 => ?_⟩
      · rw [l1.pm] at g2
        repeat ac_rfl
        exact q.1 f2 m2 (by simp only [tryThen, e2, after]) H2 scs2 (f1.trans g2) P2 (l2.trans0 l1) ef2
      · rw [l1.pm] at g2
        repeat ac_rfl
        refine ifs_no ev.not_non ?_
        repeat ac_rfl
        exact q.2.1 j f2 m2 (by simp only [tryThen, e2, after]) H2 scs2 v (f1.trans g2) P2 (l2.trans0 l1) ef2 ev
      · intro H2 g2 ee
        rw [l1.pm] at g2
        exact q.2.2.1 m2 (by simp only [tryThen, e2, after]) H2 (f1.trans g2) ee
      · intro H2 g2 ee
        rw [l1.pm] at g2
        exact q.2.2.2 m2 (by simp only [tryThen, e2, after]) H2 (f1.trans g2) ee
    · subst ef
      obtain ⟨hm1, hn1⟩ := (exB_len p.as hm).2 j e1
      have k1 := Pt.tk f1
      have h0' := k1 _ _ h0
      rw [e1] at q
      repeat ac_rfl
      refine ⟨_, rfl, p.r, p.dx, _, rfl, P1.r, na (by decide +kernel) (by decide +kernel) (by decide +kernel) (by decide +kernel), ?_⟩
      repeat ac_rfl
      have hl1 := like_len l1
      have hf1 := flat_len hn1
      refine ⟨p, m, scs1, _, b2, lp, true, rfl, rfl, rfl, P1, ⟨p2, qs, rfl, k1 _ _ h4, EncX.mono k1 b2 h5⟩, by rw [hn1]; exact hwb, by omega, ft.sub hm1 (by omega) (by omega), fun f2 m2 e2 H2 scs2 g2 P2 l2 ef2 => ?_, fun j2 f2 m2 e2 H2 scs2 v2 g2 P2 l2 ef2 ev2 => ?_, fun m2 e2 => ?_, fun m2 e2 => ?_⟩
      · have k2 := P1.tk g2
        rw [l1.pm] at g2
        repeat ac_rfl
        exact q.2.1 j f2 m2 (by simp only [tryThen, e2, after]) H2 scs2 v (f1.trans g2) P2 (l2.trans0 l1) ef2 (ev.mono k2)
      · rw [l1.pm] at g2
        repeat ac_rfl
        refine ifs_no ev2.not_non ?_
        repeat ac_rfl
        exact q.2.1 j2 f2 m2 (by simp only [tryThen, e2, after]) H2 scs2 v2 (f1.trans g2) P2 (l2.trans0 l1) ef2 ev2
      · intro H2 g2 ee
        rw [l1.pm] at g2
        exact q.2.2.1 m2 (by simp only [tryThen, e2, after]) H2 (f1.trans g2) ee
      · intro H2 g2 ee
        rw [l1.pm] at g2
        exact q.2.2.2 m2 (by simp only [tryThen, e2, after]) H2 (f1.trans g2) ee
    · exact q.2.2.1 m (by rw [e1]; rfl)
    · exact q.2.2.2 m (by rw [e1]; rfl)
end
end K23
namespace K23
open PySem PySem.Spec PyProof.Rows L2 Fl RT
local macro_rules | `(tactic| ac_rfl) => `(tactic| (
  first
    | with_reducible refine Stp.go ?_
    | with_reducible refine st_var (by with_unfolding_all exact rfl) ?_
    | with_reducible refine st_ixt (by with_unfolding_all assumption) (by with_unfolding_all exact rfl) ?_
    | with_reducible refine st_ixl (by with_unfolding_all assumption) (by with_unfolding_all exact rfl) ?_
    | with_reducible refine st_eq (by with_unfolding_all exact rfl) ?_
    | with_reducible refine st_bl ?_
    | with_reducible refine ifb_t ?_
    | with_reducible refine ifb_f ?_
    | with_reducible refine ifs_no (by decide +kernel) ?_
    | with_reducible refine ifs_yes rfl ?_
    | with_reducible refine ifs_yes lab_rfl ?_
    | with_reducible refine ifs_yes num_rfl ?_
    | with_reducible refine ifn_no (by decide +kernel) ?_
    | with_reducible refine ifn_yes rfl ?_
    | with_reducible refine ifnb_t ?_
    | with_reducible refine ifnb_f ?_
    | with_reducible refine st_ne (by with_unfolding_all exact rfl) ?_
    | with_reducible refine st_ix0 (by with_unfolding_all assumption) ?_))
theorem pl_inv {g : Flg → Fl.Made → RO × Fl.Made} {R i k : Nat} {f : Flg} {m : Fl.Made} {r : Res} (h : PL g R i k f m r) (c : k ≤ R) : (∃ o m1, g f m = (.exit o, m1) ∧ r = (o, m1)) ∨ ∃ i' f1 m1, i = i' + 1 ∧ g f m = (.again f1, m1) ∧ PL g R i' (if m.length < m1.length then 0 else k + 1) f1 m1 r := by
  cases h with
  | stop h => omega
  | exit h e => exact .inl ⟨_, _, e, rfl⟩
  | again h e n => exact .inr ⟨_, _, _, rfl, e, n⟩
theorem pl_end {g : Flg → Fl.Made → RO × Fl.Made} {R i k : Nat} {f : Flg} {m : Fl.Made} {r : Res} (h : PL g R i k f m r) (c : R < k) : r = (.hang, m) := by
  cases h with
  | stop h => rfl
  | exit h e => omega
  | again h e n => omega
theorem pl_exit {g : Flg → Fl.Made → RO × Fl.Made} {R i k : Nat} {f : Flg} {m m1 : Fl.Made} {r : Res} {o : Out} (h : PL g R i k f m r) (c : k ≤ R) (e : g f m = (.exit o, m1)) : r = (o, m1) := by
  rcases pl_inv h c with ⟨o', m2, z, rr⟩ | ⟨i', f1, m2, _, z, _⟩
  · rw [e] at z; cases z; exact rr
  · rw [e] at z; cases z
theorem pl_again {g : Flg → Fl.Made → RO × Fl.Made} {R i k : Nat} {f f1 : Flg} {m m1 : Fl.Made} {r : Res} (h : PL g R i k f m r) (c : k ≤ R) (e : g f m = (.again f1, m1)) : ∃ i', i' < i ∧ PL g R i' (if m.length < m1.length then 0 else k + 1) f1 m1 r := by
  rcases pl_inv h c with ⟨o', m2, z, rr⟩ | ⟨i', f1, m2, rfl, z, n⟩
  · rw [e] at z; cases z
  · rw [e] at z; cases z; exact ⟨i', Nat.lt_succ_self _, n⟩
theorem ifb_yes {k : Bool} {A B : Prop} (h : k = true) (q : A) : if k = true then A else B := by rw [h]; exact iteT q
theorem ifb_no {k : Bool} {A B : Prop} (h : k = false) (q : B) : if k = true then A else B := by rw [h]; exact iteF q
theorem seq_cut {a b : TS} {D : Ends} {σ : L2.St} {H : Hp} (C : L2.St → Hp → Prop) (h2 : ∀ σ' H', C σ' H' → b D σ' H') (h1 : ∀ N : L2.St → Hp → Prop, (∀ σ' H', C σ' H' → N σ' H') → a { D with nx := N } σ H) : tSeq a b D σ H := h1 (b D) h2
/-- between two rounds -/
def LW (K : PySem.W.Frag) (p : PE0) (a0 : Addr) (g : Flg → Fl.Made → RO × Fl.Made) (res : Res) (scs : Scs) (H : Hp) (i : Nat) (σ : L2.St) (H' : Hp) : Prop :=
  ∃ (k : Nat) (m : Fl.Made) (scs' : Scs) (o3 o4 : Option V), σ = [some (.ref p.r), some (.ref a0), some (.int (k : Nat)), o3, o4] ∧ PL g p.R i k (flat scs') m res ∧ p.At K H' m scs' ∧ Like scs' scs [] ∧ Fr (PM p.ea p.sa scs) H H' ∧ m.length ≤ p.as.length
theorem loop_parts {K : PySem.W.Frag} {H : Hp} {as : List Bool} {vis : List Nm} {lp : Nat} {lz : Bool} {s : Stm} {sv : V} (he : EncS K H s sv) (hil : isLoop s = true) (hw : wfS vis [] lp lz s) : ∃ (l : Option Nm) (b : Stms) (tst : Flg → Fl.Made → Option Bool × Fl.Made) (a0 : Addr) (vs : List V) (p1 : Addr) (ps : List V),
    sv = .ref a0 ∧ SqT K H a0 vs ∧ atI vs 1 = some (labV l) ∧ atI vs (-1) = some (.ref p1) ∧ SqT K H p1 ps ∧ EncX K H b ps ∧ wfR vis [] (lp + 1) lz b ∧ szR b + 1 = szS s ∧ letsR b = letsS s ∧
    (∀ f m, exS as s f m = loopL (rndW l tst (exB as b)) rounds [] f m) ∧ (∀ f m, Gr as m (tst f m).1.isNone (tst f m).2) ∧
    ((∃ cd u, atI vs 0 = some (.str "while") ∧ atI vs 2 = some u ∧ EncC K H cd u ∧ wfC vis cd ∧ szC cd ≤ 18 ∧ ∀ f m, tst f m = evC as f cd m) ∨ (atI vs 0 = some (.str "for") ∧ ∀ f m, tst f m = (some true, m))) := by
  cases s with
  | whl l cd b =>
    obtain ⟨u, p1, ps, ⟨a0, rfl, h0⟩, h1, h2, h3⟩ := he
    obtain ⟨hlb, hwc, hsc, hwb⟩ := hw
    exact ⟨l, b, fun f m => evC as f cd m, a0, _, p1, ps, rfl, h0, rfl, rfl, h2, h3, hwb, rfl, rfl, fun f m => by simp only [exS]; rfl, fun f m => evC_gr as f cd m, .inl ⟨cd, u, rfl, rfl, h1, hwc, hsc, fun _ _ => rfl⟩⟩
  | forl l b =>
    obtain ⟨p1, ps, ⟨a0, rfl, h0⟩, h2, h3⟩ := he
    obtain ⟨hlb, hwb⟩ := hw
    exact ⟨l, b, alw, a0, _, p1, ps, rfl, h0, rfl, rfl, h2, h3, hwb, rfl, rfl, fun f m => by simp only [exS]; rfl, fun f m => Gr.refl as m, .inr ⟨rfl, fun _ _ => rfl⟩⟩
  | _ => simp [isLoop] at hil
section
variable {P : Program} {w : World} {K : PySem.W.Frag} {mg : Str → Option Value} {base : Heap} {C CS fi fA fS fH fB fT fL : Addr} {di dA dS dH dB dT dL : FuncData}
theorem ok_PL {n : Nat} (ml : BN mg) (T : PCls K mg C fi) (S : StopC K mg CS) (DA' : DM K C "ask" "Player.ask" (inClass (top 24) 1) ["self", "name"] fA dA) (DS : DM K C "scope_of" "Player.scope_of" (inClass (top 24) 2) ["self", "name"] fS dS)
    (DH : DM K C "holds" "Player.holds" (inClass (top 24) 3) ["self", "condition"] fH dH) (DB : DM K C "body" "Player.body" (inClass (top 24) 4) ["self", "body"] fB dB)
    (D : DM K C "loop" "Player.loop" (inClass (top 24) 6) ["self", "loop"] fL dL)
    (GB : FnOk P w K mg base (L2.CX P w) (3 * n + 25) fB dB ["self", "body"] (spPB K C CS n)) :
    FnOk P w K mg base (L2.CX P w) (3 * n + 26) fL dL ["self", "loop"] (spPL K C CS (n + 1)) := by
  refine D.F.okX scPL (fun vs H Q E h => ?_) (fun cdv A outer s H vs Q E hr h => ?_)
  · obtain ⟨p, mk, scs, sv, s, lp, lz, rfl, _⟩ := h
    rfl
  obtain ⟨p, mk, scs, sv, st, lp, lz, rfl, rfl, rfl, Pt, he, hil, hw, hsz, ft, q⟩ := h
  have GH := hold_all (P := P) (w := w) (base := base) ml T S DA' DS DH 19
  refine ⟨_, (pss_cons (ps_set (i := 2) scPL.nd rfl (Or.inl rfl) pe_int)
      (pss_cons (ps_while (passes_of rfl) (pt_cmpR op_le (pv 2) (pe_fld (pv 0) rfl) (nomark _)) (pss_cons (ps_set (i := 3) scPL.nd rfl (Or.inl rfl) (pe_len ml.len (pe_fld (pv 0) rfl)))
      (pss_cons (ps_if (pw_and (pt_cmpR op_eq (pe_ix ix_tup (pv 1) pe_int (fun _ _ => rfl)) pe_str (nomark _)) (pw_and1 (pt_not (pt_truth (pe_mtX DH T.cl GH (hr.mono (by omega)) (passes_call (takes_of rfl rfl rfl rfl) fun _ _ _ _ h => h) (pv 0) (pa_cons (pe_ix ix_tup (pv 1) pe_int (fun _ _ => rfl)) pa_nil)) (fun _ => rfl))))).pt (pss_one (ps_ret pe_non)) pss_nil)
      (pss_cons (ps_set (i := 4) scPL.nd rfl (Or.inl rfl) (pe_mtX DB T.cl GB (hr.mono (by omega)) (passes_call (takes_of rfl rfl rfl rfl) fun _ _ _ _ h => h) (pv 0) (pa_cons (pe_ix ix_tup (pv 1) (pe_un un_neg pe_int) (fun _ _ => rfl)) pa_nil)))
      (pss_cons (ps_if (pt_cmp (pc_notN (pv 4))) (pss_cons (ps_if (pw_or (pt_cmpR op_eq (pe_ix ix_tup (pv 4) pe_int (fun _ _ => rfl)) pe_str (nomark _)) (pw_or1 (pw_and (pt_cmp (pc_notN (pe_ix ix_tup (pv 4) pe_int (fun _ _ => rfl)))) (pw_and1 (pt_cmpR op_ne (pe_ix ix_tup (pv 4) pe_int (fun _ _ => rfl)) (pe_ix ix_tup (pv 1) pe_int (fun _ _ => rfl)) (nomark _)))).pt)).pt (pss_one (ps_ret (pv 4))) pss_nil)
      (pss_one (ps_if (pt_cmpR op_eq (pe_ix ix_tup (pv 4) pe_int (fun _ _ => rfl)) pe_str (nomark _)) (pss_one (ps_ret pe_non)) pss_nil))) pss_nil)
      (pss_cons (ps_aug (i := 2) scPL.nd rfl (Or.inl rfl) pe_int ip_add)
      (pss_one (ps_if (pt_cmpR op_gt (pe_len ml.len (pe_fld (pv 0) rfl)) (pv 3) (nomark _)) (pss_one (ps_set (i := 2) scPL.nd rfl (Or.inl rfl) pe_int)) pss_nil))))))))
      (pss_cons (ps_expr (pe_bm PySem.F.plainAttrs_list PySem.F.slot_list_append PySem.F.type_list_append mt_append (pe_fld (pv 0) rfl) (pa_cons pe_str pa_nil)))
      (pss_one (ps_raise rfl (takes_of rfl rfl rfl rfl) (pmk_own PySem.F.excBase_ValueError S.x S.g S.k (raises_own S.b S.t) rfl)))))), ?_⟩
  have na : ∀ {m : Str}, (m == ("given" : Str)) = false → (m == ("rounds" : Str)) = false → (m == ("events" : Str)) = false → (m == ("scopes" : Str)) = false → (jP p.ga p.R p.ea p.sa).lookup m = none := fun a b c d => jP_no a b c d
  have hm := ft.m
  have hl4 : (nms (flat scs)).length ≤ 4 ∧ 2 ^ (nms (flat scs)).length ≤ p.R + 1 := by
    obtain ⟨L, h1, h2, h3⟩ := ft.l
    rw [nms_len]
    exact ⟨by omega, Nat.le_trans (Nat.pow_le_pow_right (by decide) (by omega)) h2⟩
  obtain ⟨l, b, tst, a0, vs, p1, ps, rfl, h0, hv1, hvm, h2, h3, hwb, ez, el, er, hgr, htst⟩ := loop_parts (as := p.as) he hil hw
  rw [er] at q
  obtain ⟨g, hgd⟩ : ∃ g, g = rndW l tst (exB p.as b) := ⟨_, rfl⟩
  have hg : FineG p.as (nms (flat scs)) g := by
    rw [hgd]
    exact rndW_fine hgr fun f m hf => by rw [← hf]; exact exB_fine p.as b f m
  rw [← hgd] at q
  obtain ⟨i0, pl0⟩ := loop_pl0 hg hl4.2 hl4.1 ft.a (flat scs) mk rfl hm
  generalize loopL g rounds [] (flat scs) mk = res at q pl0
  clear er hg hil he hw
  repeat ac_rfl
  refine ⟨LW K p a0 g res scs H, ⟨i0, 0, mk, scs, _, _, rfl, pl0, Pt, .refl, Fr.refl, hm⟩, ?_⟩
  clear pl0 hm
  rintro i σ H1 ⟨k, m, scs1, o3, o4, rfl, pl, P1, l1, f1, hm1⟩
  have k1 := Pt.tk f1
  have h0' := k1 _ _ h0
  have hl1 := like_len l1
  have hn1 := l1.nms
  have hf1 := flat_len hn1
  have hs5 := ft.s
  have ha4 := ft.a
  repeat ac_rfl
  refine fld_self P1.r T.cl T.n2 jP_rounds rfl ?_
  repeat ac_rfl
  by_cases hk : k ≤ p.R
  · refine ifb_yes (decide_eq_true (by omega)) ?_
    refine ⟨fun σ' H' => ∃ m', m' < i ∧ LW K p a0 g res scs H m' σ' H', fun _ _ h => h, ?_⟩
    refine seq_cut (fun σ' H' => σ' = [some (.ref p.r), some (.ref a0), some (.int (k : Nat)), some (.int (m.length : Nat)), o4] ∧ H' = H1) ?_ ?_
    rotate_left
    · intro N hN
      repeat ac_rfl
      refine fld_self P1.r T.cl T.n3 jP_events rfl ?_
      repeat ac_rfl
      refine ⟨p.ea, _, rfl, .inl (.inl (.inl P1.e)), ?_⟩
      repeat ac_rfl
      exact hN _ _ ⟨by rw [List.length_map]; rfl, rfl⟩
    rintro _ _ ⟨rfl, rfl⟩
    refine seq_cut (fun σ' H' => σ' = [some (.ref p.r), some (.ref a0), some (.int (k : Nat)), some (.int (m.length : Nat)), o4] ∧ ∃ m1, p.At K H' m1 scs1 ∧ Fr (PM p.ea p.sa scs) H H' ∧ m1.length ≤ p.as.length ∧ tst (flat scs1) m = (some true, m1)) ?_ ?_
    rotate_left
    · intro N hN
      refine st_if ?_
      rcases htst with ⟨cd, u, hv0, hv2, h1, hwc, hsc, ht⟩ | ⟨hv0, ht⟩
      · repeat ac_rfl
        refine st_ixt h0' hv0 ?_
        repeat ac_rfl
        refine ⟨_, rfl, p.r, p.dx, _, rfl, P1.r, na (by decide +kernel) (by decide +kernel) (by decide +kernel) (by decide +kernel), ?_⟩
        repeat ac_rfl
        refine st_ixt h0' hv2 ?_
        repeat ac_rfl
        refine ⟨p.r, p.dx, p.ga, p.ea, p.sa, p.R, p.as, m, scs1, u, cd, rfl, P1, EncC.mono k1 cd h1, by rw [hn1]; exact hwc, by omega, hm1, ha4, by omega, fun tb m1 hb H2 f' P' => ⟨tb, rfl, ?_⟩, fun m1 hb => ?_⟩
        · have hm1' := evC_len p.as _ hm1 hb
          have F2 : Fr (PM p.ea p.sa scs) H H2 := f1.trans (by rw [← l1.pm]; exact f')
          cases tb with
          | false =>
            have e9 := pl_exit pl hk (o := .next (flat scs1)) (m1 := m1) (by rw [hgd]; simp only [rndW, ht, hb])
            repeat ac_rfl
            exact q.1 _ m1 e9 H2 scs1 F2 P' l1 rfl
          | true =>
            repeat ac_rfl
            exact hN _ _ ⟨rfl, m1, P', F2, hm1', by rw [ht, hb]⟩
        · have e9 := pl_exit pl hk (o := .wait) (m1 := m1) (by rw [hgd]; simp only [rndW, ht, hb])
          intro H3 g3 ee
          rw [l1.pm] at g3
          exact q.2.2.1 m1 e9 H3 (f1.trans g3) ee
      · repeat ac_rfl
        refine st_ixt h0' hv0 ?_
        repeat ac_rfl
        exact hN _ _ ⟨rfl, m, P1, f1, hm1, by rw [ht]⟩
    rintro _ H2 ⟨rfl, m1, P', F2, hm1', ht⟩
    have h0'' := (Pt.tk F2) _ _ h0
    have k2 := Pt.tk F2
    have eg : ∀ r, exB p.as b (flat scs1) m1 = r → g (flat scs1) m = bodyRO l r := fun r e => by
      rw [hgd]; simp only [rndW, ht, e]
    refine seq_cut (fun σ' H' => ∃ v m2 scs2, σ' = [some (.ref p.r), some (.ref a0), some (.int (k : Nat)), some (.int (m.length : Nat)), some v] ∧ p.At K H' m2 scs2 ∧ Fr (PM p.ea p.sa scs) H H' ∧ Like scs2 scs [] ∧ m2.length ≤ p.as.length ∧ ((v = .non ∧ g (flat scs1) m = (.again (flat scs2), m2)) ∨ ∃ j, EncJ K H' j v ∧ g (flat scs1) m = (jumpRO l j (flat scs2), m2))) ?_ ?_
    rotate_left
    · intro N hN
      repeat ac_rfl
      refine ⟨_, rfl, p.r, p.dx, _, rfl, P'.r, na (by decide +kernel) (by decide +kernel) (by decide +kernel) (by decide +kernel), ?_⟩
      repeat ac_rfl
      refine ⟨1, rfl, a0, _, _, _, rfl, rfl, h0'', hvm, ?_⟩
      refine ⟨p, m1, scs1, _, b, lp + 1, lz, rfl, rfl, rfl, P', ⟨p1, ps, rfl, k2 _ _ h2, EncX.mono k2 b h3⟩, by rw [hn1]; exact hwb, by omega, ft.sub hm1' (by omega) (by omega), fun f2 m2 e2 H3 scs2 g2 P2 l2 ef2 => ?_, fun j f2 m2 e2 H3 scs2 v g2 P2 l2 ef2 ev => ?_, fun m2 e2 => ?_, fun m2 e2 => ?_⟩
      · rw [l1.pm] at g2
        subst ef2
        have hm2 := ((exB_len p.as hm1').1 e2).1
        repeat ac_rfl
        exact hN _ _ ⟨_, m2, scs2, rfl, P2, F2.trans g2, l2.trans0 l1, hm2, .inl ⟨rfl, eg _ e2⟩⟩
      · rw [l1.pm] at g2
        subst ef2
        have hm2 := ((exB_len p.as hm1').2 j e2).1
        repeat ac_rfl
        exact hN _ _ ⟨_, m2, scs2, rfl, P2, F2.trans g2, l2.trans0 l1, hm2, .inr ⟨j, ev, eg _ e2⟩⟩
      · have e9 := pl_exit pl hk (o := .wait) (m1 := m2) (eg _ e2)
        intro H4 g4 ee
        rw [l1.pm] at g4
        exact q.2.2.1 m2 e9 H4 (F2.trans g4) ee
      · have e9 := pl_exit pl hk (o := .hang) (m1 := m2) (eg _ e2)
        intro H4 g4 ee
        rw [l1.pm] at g4
        exact q.2.2.2 m2 e9 H4 (F2.trans g4) ee
    clear eg ht P' F2 hm1' k2 h0'' h0'
    rintro _ H3 ⟨v, m2, scs2, rfl, P2, F3, l2, hm2, hv⟩
    have h03 := (Pt.tk F3) _ _ h0
    refine seq_cut (fun σ' H' => H' = H3 ∧ σ' = [some (.ref p.r), some (.ref a0), some (.int (k : Nat)), some (.int (m.length : Nat)), some v] ∧ ∃ i', i' < i ∧ PL g p.R i' (if m.length < m2.length then 0 else k + 1) (flat scs2) m2 res) ?_ ?_
    · rintro _ _ ⟨rfl, rfl, i', hi, pl'⟩
      repeat ac_rfl
      refine ⟨_, rfl, ?_⟩
      repeat ac_rfl
      refine ⟨_, _, rfl, rfl, ?_⟩
      repeat ac_rfl
      refine fld_self P2.r T.cl T.n3 jP_events rfl ?_
      repeat ac_rfl
      refine ⟨p.ea, _, rfl, .inl (.inl (.inl P2.e)), ?_⟩
      repeat ac_rfl
      rw [List.length_map]
      by_cases hc : m.length < m2.length
      · refine ifb_yes (decide_eq_true (by omega)) ?_
        rw [if_pos hc] at pl'
        repeat ac_rfl
        exact ⟨i', hi, 0, m2, scs2, _, _, rfl, pl', P2, l2, F3, hm2⟩
      · refine ifb_no (decide_eq_false (by omega)) ?_
        rw [if_neg hc] at pl'
        repeat ac_rfl
        exact ⟨i', hi, k + 1, m2, scs2, _, _, rfl, pl', P2, l2, F3, hm2⟩
    · intro N hN
      rcases hv with ⟨rfl, e2⟩ | ⟨j, ev, e2⟩
      · have := pl_again pl hk e2
        repeat ac_rfl
        exact hN _ _ ⟨rfl, rfl, this⟩
      have ev0 := ev
      have inn : ∀ {f1}, jumpRO l j (flat scs2) = .again f1 → f1 = flat scs2 → N [some (.ref p.r), some (.ref a0), some (.int (k : Nat)), some (.int (m.length : Nat)), some v] H3 := fun e ee => by
        subst ee
        exact hN _ _ ⟨rfl, rfl, pl_again pl hk (e2.trans (by rw [e]))⟩
      have out : jumpRO l j (flat scs2) = .exit (.jump j (flat scs2)) → Q v H3 := fun e => q.2.1 _ _ m2 (pl_exit pl hk (e2.trans (by rw [e]))) H3 scs2 _ F3 P2 l2 rfl ev0
      have brk : jumpRO l j (flat scs2) = .exit (.next (flat scs2)) → Q .non H3 := fun e => q.1 _ m2 (pl_exit pl hk (e2.trans (by rw [e]))) H3 scs2 F3 P2 l2 rfl
      clear q hN e2 pl hgd
      cases j with
      | ret nn =>
        obtain ⟨aj, rfl, hj⟩ := ev
        repeat ac_rfl
        refine ifn_no ne_non_ref ?_
        repeat ac_rfl
        exact out rfl
      | brk lj =>
        obtain ⟨aj, rfl, hj⟩ := ev
        repeat ac_rfl
        refine ifn_no ne_non_ref ?_
        repeat ac_rfl
        cases lj with
        | none =>
          refine ifn_yes rfl ?_
          repeat ac_rfl
          exact brk rfl
        | some x =>
          refine ifn_no (fun z => by cases z) ?_
          repeat ac_rfl
          refine st_ixt h03 hv1 ?_
          cases l with
          | none =>
            repeat ac_rfl
            refine ifn_no (fun z => by cases z) ?_
            repeat ac_rfl
            exact out (by simp [jumpRO])
          | some y =>
            repeat ac_rfl
            by_cases hxy : x = y
            · subst hxy
              refine ifn_yes rfl ?_
              repeat ac_rfl
              exact brk (by simp [jumpRO])
            · refine ifn_no (fun z => hxy (by injection z)) ?_
              repeat ac_rfl
              exact out (by simp [jumpRO, hxy])
      | cont lj =>
        obtain ⟨aj, rfl, hj⟩ := ev
        repeat ac_rfl
        refine ifn_no ne_non_ref ?_
        repeat ac_rfl
        cases lj with
        | none =>
          refine ifn_yes rfl ?_
          repeat ac_rfl
          exact inn rfl rfl
        | some x =>
          refine ifn_no (fun z => by cases z) ?_
          repeat ac_rfl
          refine st_ixt h03 hv1 ?_
          cases l with
          | none =>
            repeat ac_rfl
            refine ifn_no (fun z => by cases z) ?_
            repeat ac_rfl
            exact out (by simp [jumpRO])
          | some y =>
            repeat ac_rfl
            by_cases hxy : x = y
            · subst hxy
              refine ifn_yes rfl ?_
              repeat ac_rfl
              exact inn (by simp [jumpRO]) rfl
            · refine ifn_no (fun z => hxy (by injection z)) ?_
              repeat ac_rfl
              exact out (by simp [jumpRO, hxy])
  · refine ifb_no (decide_eq_false (by omega)) ?_
    have er := pl_end pl (by omega)
    subst er
    repeat ac_rfl
    refine fld_self P1.r T.cl T.n3 jP_events rfl ?_
    repeat ac_rfl
    refine ⟨.inl ⟨rfl, _, .inl (.inl P1.e)⟩, ?_⟩
    repeat ac_rfl
    refine ⟨p.ea, _, _, rfl, rfl, P1.e, small_lt (by rw [List.length_map]; omega), ?_⟩
    exact q.2.2.2 m rfl _ (f1.trans (Fr.refl.upd (.inl (.inl rfl)))) upd_same
end
end K23
namespace K23
open PySem PySem.Spec PyProof.Rows L2 Fl RT
local macro_rules | `(tactic| ac_rfl) => `(tactic| (
  first
    | with_reducible refine Stp.go ?_
    | with_reducible refine st_var (by with_unfolding_all exact rfl) ?_
    | with_reducible refine st_ixt (by with_unfolding_all assumption) (by with_unfolding_all exact rfl) ?_
    | with_reducible refine st_ixl (by with_unfolding_all assumption) (by with_unfolding_all exact rfl) ?_
    | with_reducible refine st_eq (by with_unfolding_all exact rfl) ?_
    | with_reducible refine st_bl ?_
    | with_reducible refine ifb_t ?_
    | with_reducible refine ifb_f ?_
    | with_reducible refine ifs_no (by decide +kernel) ?_
    | with_reducible refine ifs_yes rfl ?_
    | with_reducible refine ifs_yes lab_rfl ?_
    | with_reducible refine ifs_yes num_rfl ?_
    | with_reducible refine ifn_no (by decide +kernel) ?_
    | with_reducible refine ifn_yes rfl ?_
    | with_reducible refine ifnb_t ?_
    | with_reducible refine ifnb_f ?_
    | with_reducible refine st_ne (by with_unfolding_all exact rfl) ?_
    | with_reducible refine st_ix0 (by with_unfolding_all assumption) ?_))
theorem PAt.push {K : PySem.W.Frag} {C : Addr} {H : Hp} {r dx ga ea sa d : Addr} {R : Nat} {as : List Bool} {mk : Fl.Made} {scs : Scs} (P : PAt K C H r dx ga ea sa R as mk scs) (hd : H d = none) :
    PAt K C (upd (upd H d (.dK [])) sa (.lst (scs.map (fun p => V.ref p.1) ++ [.ref d]))) r dx ga ea sa R as mk (scs ++ [(d, [])]) ∧ Fr (PM ea sa scs) H (upd (upd H d (.dK [])) sa (.lst (scs.map (fun p => V.ref p.1) ++ [.ref d]))) := by
  have s1 : Same H (upd H d (.dK [])) := same_new hd _
  have P1 := P.same s1
  have ed : (upd H d (.dK [])) d = some (.dK []) := upd_same
  generalize upd H d (.dK []) = H1 at s1 P1 ed
  have nds : d ≠ sa := fun z => by rw [z, P.s] at hd; cases hd
  refine ⟨⟨?_, ?_, ?_, ?_, fun p hp => ?_, ?_, fun p hp => ?_, P.ne⟩, (Fr.of_same s1).upd (.inl (.inr (.inl rfl)))⟩
  · rw [upd_ne fun z => P1.ne_r (.inr (.inl z))]; exact P1.r
  · exact (TK.put _ P1.s (fun _ z => (by cases z)) fun _ _ z => (by cases z)) _ _ P1.g
  · rw [upd_ne P.ne]; exact P1.e
  · rw [upd_same, List.map_append]; rfl
  · rcases List.mem_append.mp hp with h | h
    · rw [upd_ne fun z => by have := P1.d p h; rw [z, P1.s] at this; cases this]
      exact P1.d p h
    · rw [List.mem_singleton.mp h, upd_ne nds]; exact ed
  · rw [List.map_append]
    refine List.nodup_append.mpr ⟨P.nd, by simp, fun a ha b hb z => ?_⟩
    obtain ⟨p, hp, e⟩ := List.mem_map.mp ha
    have e2 : b = d := List.mem_singleton.mp hb
    have := P.d p hp
    rw [e, z, e2, hd] at this; cases this
  · rcases List.mem_append.mp hp with h | h
    · exact P.nn p h
    · rw [List.mem_singleton.mp h]; exact List.nodup_nil
theorem PAt.pop {K : PySem.W.Frag} {C : Addr} {H : Hp} {r dx ga ea sa : Addr} {R : Nat} {as : List Bool} {mk : Fl.Made} {a : Scs} {q : Addr × Flg} (P : PAt K C H r dx ga ea sa R as mk (a ++ [q])) :
    PAt K C (upd H sa (.lst (a.map (fun p => V.ref p.1)))) r dx ga ea sa R as mk a ∧ Fr (PM ea sa a) H (upd H sa (.lst (a.map (fun p => V.ref p.1)))) := by
  refine ⟨⟨?_, ?_, ?_, ?_, fun p hp => ?_, ?_, fun p hp => P.nn p (List.mem_append_left _ hp), P.ne⟩, Fr.refl.upd (.inl (.inr (.inl rfl)))⟩
  · rw [upd_ne fun z => P.ne_r (.inr (.inl z))]; exact P.r
  · exact (TK.put _ P.s (fun _ z => (by cases z)) fun _ _ z => (by cases z)) _ _ P.g
  · rw [upd_ne P.ne]; exact P.e
  · rw [upd_same]
  · have h := P.d p (List.mem_append_left _ hp)
    rw [upd_ne fun z => by rw [z, P.s] at h; cases h]
    exact h
  · have := P.nd
    rw [List.map_append] at this
    exact (List.nodup_append.mp this).1
theorem PM_snoc {ea sa d : Addr} {scs : Scs} {f : Flg} {H H1 H2 : Hp} (a : Fr (PM ea sa scs) H H1) (hd : H d = none) (b : Fr (PM ea sa (scs ++ [(d, f)])) H1 H2) : Fr (PM ea sa scs) H H2 := fun x u q n => b x u (a x u q n) fun z => n (by
  rcases z with z | z | z
  · exact .inl z
  · exact .inr (.inl z)
  · rw [List.map_append] at z
    rcases List.mem_append.mp z with z | z
    · exact .inr (.inr z)
    · rw [List.mem_singleton.mp z] at q
      have q' : H d = some u := q
      rw [hd] at q'; cases q')
theorem exR_step {as : List Bool} {ss : Stms} {i : Nat} {s : Stm} {f : Flg} {m : Fl.Made} (h : getR ss i = some s) : exR as (dropR ss i) f m = andThen (exS as s f m) (fun f m => exR as (dropR ss (i + 1)) f m) := by
  rw [dropR_get h]; simp only [exR]
theorem Like.snoc2 {scs' a : Scs} {d : Addr} {f : Flg} {ad : List Nm} (h : Like scs' (a ++ [(d, f)]) ad) : ∃ a' f', scs' = a' ++ [(d, f')] ∧ Like a' a [] ∧ Fl.nms f' = Fl.nms f ++ ad := h.snoc
section
variable {P : Program} {w : World} {K : PySem.W.Frag} {mg : Str → Option Value} {base : Heap} {C CS fi fA fS fH fB fT fL : Addr} {di dA dS dH dB dT dL : FuncData}
theorem ok_PB {n : Nat} (ml : BN mg) (T : PCls K mg C fi) (DT : DM K C "statement" "Player.statement" (inClass (top 24) 5) ["self", "statement"] fT dT)
    (D : DM K C "body" "Player.body" (inClass (top 24) 4) ["self", "body"] fB dB)
    (GT : FnOk P w K mg base (L2.CX P w) (3 * n + 27) fT dT ["self", "statement"] (spPS K C CS (n + 1))) :
    FnOk P w K mg base (L2.CX P w) (3 * n + 28) fB dB ["self", "body"] (spPB K C CS (n + 1)) := by
  refine D.F.okX scPB (fun vs H Q E h => ?_) (fun cdv A outer s H vs Q E hr h => ?_)
  · obtain ⟨p, mk, scs, bv, ss, lp, lz, rfl, _⟩ := h
    rfl
  obtain ⟨p, mk, scs, bv, ss, lp, lz, rfl, rfl, rfl, Pt, ⟨pb, bs, rfl, hS, hx⟩, hw, hsz, ft, q⟩ := h
  refine ⟨_, (pss_cons (ps_expr (pe_bm PySem.F.plainAttrs_list PySem.F.slot_list_append PySem.F.type_list_append mt_append (pe_fld (pv 0) rfl) (pa_cons pe_dnewK pa_nil)))
      (pss_cons (ps_set (i := 2) scPB.nd rfl (Or.inl rfl) pe_non)
      (pss_cons (ps_for (passes_of rfl) rfl (pi_tup (pv 1)) (pg_name (i := 3) scPB.nd rfl (Or.inl rfl)) (pss_cons (ps_set (i := 2) scPB.nd rfl (Or.inl rfl) (pe_mtX DT T.cl GT (hr.mono (by omega)) (passes_call (takes_of rfl rfl rfl rfl) fun _ _ _ _ h => h) (pv 0) (pa_cons (pv 3) pa_nil)))
      (pss_one (ps_if (pt_cmp (pc_notN (pv 2))) (pss_one ps_break) pss_nil))))
      (pss_cons (ps_expr (pe_bm0 PySem.F.plainAttrs_list PySem.F.slot_list_pop PySem.F.type_list_pop mt_pop (pe_fld (pv 0) rfl)))
      (pss_one (ps_ret (pv 2))))))), ?_⟩
  have na : ∀ {m : Str}, (m == ("given" : Str)) = false → (m == ("rounds" : Str)) = false → (m == ("events" : Str)) = false → (m == ("scopes" : Str)) = false → (jP p.ga p.R p.ea p.sa).lookup m = none := fun a b c d => jP_no a b c d
  have hm := ft.m
  have ha4 := ft.a
  have hs5 := ft.s
  have hlr := lenR_le ss
  have hbs := hx.len
  refine seq_cut (fun σ' H' => σ' = [some (.ref p.r), some (.ref pb), none, none] ∧ ∃ d, H d = none ∧ p.At K H' mk (scs ++ [(d, [])]) ∧ Fr (PM p.ea p.sa scs) H H') ?_ ?_
  rotate_left
  · intro N hN
    repeat ac_rfl
    refine fld_self Pt.r T.cl T.n4 jP_scopes rfl ?_
    refine ⟨.inl ⟨rfl, _, .inl (.inl Pt.s)⟩, ?_⟩
    repeat ac_rfl
    intro d hd
    repeat ac_rfl
    have nds : p.sa ≠ d := fun z => by rw [← z, Pt.s] at hd; cases hd
    refine ⟨p.sa, _, _, rfl, rfl, by rw [upd_ne nds]; exact Pt.s, small_lt (by rw [List.length_map]; omega), ?_⟩
    obtain ⟨P1, f1⟩ := Pt.push hd
    exact hN _ _ ⟨rfl, d, hd, P1, f1⟩
  rintro _ H1 ⟨rfl, d, hd, P1, f1⟩
  have k1 := Pt.tk f1
  refine st_seq ?_
  refine st_asg ?_
  refine st_c ?_
  refine st_name ?_
  with_reducible refine seq_cut (fun σ' H' => ∃ v o3 m scs' ads, σ' = [some (.ref p.r), some (.ref pb), some v, o3] ∧ p.At K H' m scs' ∧ Like scs' (scs ++ [(d, [])]) ads ∧ Fr (PM p.ea p.sa scs) H H' ∧ m.length ≤ p.as.length ∧
    ((v = .non ∧ exR p.as ss (flat scs) mk = (.next (flat scs'), m)) ∨ ∃ j, EncJ K H' j v ∧ exR p.as ss (flat scs) mk = (.jump j (flat scs'), m))) ?_ ?_
  · rintro _ H2 ⟨v, o3, m, scs', ads, rfl, P2, l2, f2, hm2, hv⟩
    obtain ⟨a, f', rfl, la, hnf⟩ := l2.snoc2
    obtain ⟨P3, f3⟩ := P2.pop
    have e1 : (flat (a ++ [(d, f')])).take (flat scs).length = flat a := by
      rw [flat_app, ← flat_len la.nms, List.take_left]
    repeat ac_rfl
    refine fld_self P2.r T.cl T.n4 jP_scopes rfl ?_
    refine ⟨.inl ⟨rfl, _, .inl (.inl P2.s)⟩, ?_⟩
    refine ⟨p.sa, _, .ref d, rfl, rfl, P2.s, ?_, ?_⟩
    · rw [List.map_append, List.length_append, List.length_map]
      show (_ ++ [V.ref d])[_]? = _
      rw [List.getElem?_append_right (by rw [List.length_map]; simp)]
      simp
    rw [List.map_append, List.map_singleton, List.dropLast_concat]
    have F3 : Fr (PM p.ea p.sa scs) H (upd H2 p.sa (.lst (a.map fun p => V.ref p.1))) := f2.trans (by rw [← la.pm]; exact f3)
    repeat ac_rfl
    rcases hv with ⟨rfl, e2⟩ | ⟨j, ev, e2⟩
    · exact q.1 (flat a) m (by unfold exB; rw [e2]; simp only [cut, e1]) _ a F3 P3 la rfl
    · exact q.2.1 j (flat a) m (by unfold exB; rw [e2]; simp only [cut, e1]) _ a v F3 P3 la rfl (ev.mono (P2.tk (f3.weak fun b u hb z => by
        rcases z with z | z | z
        · exact .inl z
        · exact .inr (.inl z)
        · exact .inr (.inr (by rw [List.map_append]; exact List.mem_append_left _ z)))))
  intro N hN
  refine ⟨_, rfl, pb, rfl, ⟨bs, k1 _ _ hS⟩, for_tup (K := K) (a := pb) (xs := bs) (fun i σ H' => ∃ o3 m scs' ads, σ = [some (.ref p.r), some (.ref pb), some .non, o3] ∧ p.At K H' m scs' ∧ Like scs' (scs ++ [(d, [])]) ads ∧ Fr (PM p.ea p.sa scs) H H' ∧ m.length ≤ p.as.length ∧
    exR p.as ss (flat scs) mk = exR p.as (dropR ss i) (flat scs') m ∧ wfR (nms (flat scs')) ads lp lz (dropR ss i) ∧ (flat scs').length + letsR (dropR ss i) ≤ (flat scs).length + letsR ss) ⟨none, mk, scs ++ [(d, [])], [], rfl, P1, .refl, f1, hm, ?_, ?_, ?_⟩ (fun i σ H' _ ⟨_, _, _, _, _, P', _, f', _⟩ => (Pt.tk f') _ _ hS) ?_ ?_⟩
  · have e : dropR ss 0 = ss := by cases ss <;> rfl
    rw [e, flat_app]
    show _ = exR p.as ss (flat scs ++ []) mk
    rw [List.append_nil]
  · have e : dropR ss 0 = ss := by cases ss <;> rfl
    rw [e, flat_app]
    show wfR (nms (flat scs ++ [])) _ _ _ _
    rw [List.append_nil]; exact hw
  · have e : dropR ss 0 = ss := by cases ss <;> rfl
    rw [e, flat_app]
    show (flat scs ++ []).length + _ ≤ _
    rw [List.append_nil]; exact Nat.le_refl _
  · rintro i u σ H2 hi ⟨o3, m, scs', ads, rfl, P2, l2, f2, hm2, ee, hw2, hl2⟩
    obtain ⟨st, hst, hse⟩ := hx.at hi
    have hse' := EncS.mono (Pt.tk f2) st hse
    have hszs : szS st ≤ szR ss := szR_get hst
    have hd2 := dropR_get hst
    rw [exR_step hst] at ee
    rw [hd2] at hw2 hl2
    obtain ⟨hws, hwr⟩ := wfR_cons.mp hw2
    have elt : letsR (.cons st (dropR ss (i + 1))) = letsS st + letsR (dropR ss (i + 1)) := rfl
    rw [elt] at hl2
    obtain ⟨a, f', rfl, la, hnf⟩ := l2.snoc2
    have hnf' : nms f' = ads := hnf.trans (List.nil_append _)
    have hla : a.length = scs.length := like_len la
    have ft2 : Fit p m (a ++ [(d, f')]) (letsS st) (szS st) := by
      obtain ⟨L, h1, h2, h3⟩ := ft.l
      exact ⟨hm2, ha4, by rw [List.length_append]; show a.length + 1 + _ ≤ _; omega, L, h1, h2, by omega⟩
    repeat ac_rfl
    refine ⟨_, rfl, p.r, p.dx, _, rfl, P2.r, na (by decide +kernel) (by decide +kernel) (by decide +kernel) (by decide +kernel), ?_⟩
    repeat ac_rfl
    have fr2 : ∀ {H3}, Fr (PM p.ea p.sa (a ++ [(d, f')])) H2 H3 → Fr (PM p.ea p.sa scs) H H3 := fun g => PM_snoc (f := f') f2 hd (by
      have : PM p.ea p.sa (scs ++ [(d, f')]) = PM p.ea p.sa (a ++ [(d, f')]) := (Like.mk_snoc la (f := f') (f' := f') (ad := []) (by rw [List.append_nil])).pm.symm
      rw [this]; exact g)
    refine ⟨p, m, a, d, f', u, st, lp, lz, rfl, rfl, rfl, P2, hse', by rw [hnf']; exact hws, by omega, ft2, fun f3 m3 e3 H3 scs3 g3 P3 l3 ef3 => ?_, fun j f3 m3 e3 H3 scs3 v g3 P3 l3 ef3 ev => ?_, fun m3 e3 => ?_, fun m3 e3 => ?_⟩
    · subst ef3
      have hx3 := exS_fin p.as st (flat (a ++ [(d, f')])) m
      rw [e3] at ee hx3
      obtain ⟨a3, f3', rfl, la3, hnf3⟩ := l3.snoc2
      have l4 : Like (a3 ++ [(d, f3')]) (scs ++ [(d, [])]) (ads ++ addsS st) := Like.mk_snoc (la3.trans0 la) (by rw [hnf3, hnf']; rfl)
      have en : nms (flat (a3 ++ [(d, f3')])) = nms (flat (a ++ [(d, f')])) ++ addsS st := by
        rw [flat_app, flat_app, nms_app, nms_app, la3.nms]
        show _ ++ nms (f3' ++ []) = _ ++ nms (f' ++ []) ++ _
        rw [List.append_nil, List.append_nil, hnf3, List.append_assoc]
      repeat ac_rfl
      refine ⟨_, m3, _, _, rfl, P3, l4, fr2 g3, ?_, by rw [ee]; rfl, by rw [en]; exact hwr, ?_⟩
      · exact (hx3.gr.2 hm2).1 rfl
      · have := congrArg List.length en
        rw [nms_len, List.length_append, nms_len] at this
        have hla2 := letsI_adds st
        omega
    · subst ef3
      have hx3 := exS_fin p.as st (flat (a ++ [(d, f')])) m
      rw [e3] at ee hx3
      repeat ac_rfl
      refine ifn_no ev.not_non ?_
      repeat ac_rfl
      have l4 : Like scs3 (scs ++ [(d, [])]) ads := l3.trans1 l2
      exact hN _ _ ⟨v, _, m3, scs3, ads, rfl, P3, l4, fr2 g3, (hx3.gr.2 hm2).1 rfl, .inr ⟨j, ev, by rw [ee]; rfl⟩⟩
    · intro H3 g3 e4
      rw [e3] at ee
      exact q.2.2.1 m3 (by unfold exB; rw [ee]; rfl) H3 (fr2 g3) e4
    · intro H3 g3 e4
      rw [e3] at ee
      exact q.2.2.2 m3 (by unfold exB; rw [ee]; rfl) H3 (fr2 g3) e4
  · rintro σ H2 ⟨o3, m, scs', ads, rfl, P2, l2, f2, hm2, ee, hw2, hl2⟩
    have e : dropR ss bs.length = .nil := dropR_end (by rw [hbs]; exact Nat.le_refl _)
    rw [e] at ee
    exact hN _ _ ⟨_, _, m, scs', ads, rfl, P2, l2, f2, hm2, .inl ⟨rfl, ee⟩⟩
end
end K23
namespace K23
open PySem PySem.Spec PyProof.Rows L2 Fl RT
local macro_rules | `(tactic| ac_rfl) => `(tactic| (
  first
    | with_reducible refine Stp.go ?_
    | with_reducible refine st_var (by with_unfolding_all exact rfl) ?_
    | with_reducible refine st_ixt (by with_unfolding_all assumption) (by with_unfolding_all exact rfl) ?_
    | with_reducible refine st_ixl (by with_unfolding_all assumption) (by with_unfolding_all exact rfl) ?_
    | with_reducible refine st_eq (by with_unfolding_all exact rfl) ?_
    | with_reducible refine st_bl ?_
    | with_reducible refine ifb_t ?_
    | with_reducible refine ifb_f ?_
    | with_reducible refine ifs_no (by decide +kernel) ?_
    | with_reducible refine ifs_yes rfl ?_
    | with_reducible refine ifs_yes lab_rfl ?_
    | with_reducible refine ifs_yes num_rfl ?_
    | with_reducible refine ifn_no (by decide +kernel) ?_
    | with_reducible refine ifn_yes rfl ?_
    | with_reducible refine ifnb_t ?_
    | with_reducible refine ifnb_f ?_
    | with_reducible refine st_ne (by with_unfolding_all exact rfl) ?_
    | with_reducible refine st_ix0 (by with_unfolding_all assumption) ?_))
section
variable {P : Program} {w : World} {K : PySem.W.Frag} {mg : Str → Option Value} {base : Heap} {C CS fi fA fS fH fB fT fL f25 : Addr} {di dA dS dH dB dT dL d25 : FuncData}
theorem player_all (ml : BN mg) (T : PCls K mg C fi) (S : StopC K mg CS) (DA' : DM K C "ask" "Player.ask" (inClass (top 24) 1) ["self", "name"] fA dA) (DS : DM K C "scope_of" "Player.scope_of" (inClass (top 24) 2) ["self", "name"] fS dS)
    (DH : DM K C "holds" "Player.holds" (inClass (top 24) 3) ["self", "condition"] fH dH) (DB : DM K C "body" "Player.body" (inClass (top 24) 4) ["self", "body"] fB dB) (DT : DM K C "statement" "Player.statement" (inClass (top 24) 5) ["self", "statement"] fT dT)
    (DL : DM K C "loop" "Player.loop" (inClass (top 24) 6) ["self", "loop"] fL dL) : ∀ n : Nat, FnOk P w K mg base (L2.CX P w) (3 * n + 25) fB dB ["self", "body"] (spPB K C CS n)
  | 0 => fn_none fun vs H Q E ⟨_, _, _, _, _, _, _, _, _, _, _, _, _, h, _⟩ => absurd h (Nat.not_lt_zero _)
  | n + 1 => by
    have GB := player_all ml T S DA' DS DH DB DT DL n
    have GL := ok_PL ml T S DA' DS DH DB DL GB
    have GT := ok_PS ml T S DA' DS DH DB DL DT GB GL
    have q := ok_PB ml T DT DB GT
    have e : 3 * (n + 1) + 25 = 3 * n + 28 := by omega
    rw [e]
    exact q
abbrev j1P (ga : Addr) : List (Str × V) := [("given", .ref ga)]
abbrev j2P (ga : Addr) (R : Int) : List (Str × V) := [("given", .ref ga), ("rounds", .int R)]
abbrev j3P (ga : Addr) (R : Int) (ea : Addr) : List (Str × V) := [("given", .ref ga), ("rounds", .int R), ("events", .ref ea)]
def spPI (C : Addr) : Sp := fun vs H Q _ => ∃ (p dx ga : Addr) (R : Int), vs = [.ref p, .ref ga, .int R] ∧ H p = some (.ins C dx []) ∧
  ∀ (ea sa : Addr) (H' : Hp), H ea = none → H sa = none → ea ≠ sa → H' p = some (.ins C dx (jP ga R ea sa)) → H' ea = some (.lst []) → H' sa = some (.lst []) → (∀ b o, H b = some o → b ≠ p → H' b = some o) → Q .non H'
theorem scPI : FnScope ["self", "given", "rounds"] ["self", "given", "rounds"] (defScope (inClass (top 24) 0)) := ⟨rfl, rfl, rfl, by decide +kernel, rfl, by decide +kernel, by decide +kernel⟩
theorem ok_PI (T : PCls K mg C fi) (D : DM K C "__init__" "Player.__init__" (inClass (top 24) 0) ["self", "given", "rounds"] fi di) : FnOk P w K mg base CX0 1 fi di ["self", "given", "rounds"] (spPI C) := by
  refine D.F.ok scPI (fun vs H Q E h => ?_) (fun cdv A outer s H vs Q E hr h => ?_)
  · obtain ⟨p, dx, ga, R, rfl, _⟩ := h
    rfl
  obtain ⟨p, dx, ga, R, rfl, hp, q⟩ := h
  refine ⟨_, (pss_cons (ps_fld (pv 0) (pv 1) rfl)
      (pss_cons (ps_fld (pv 0) (pv 2) rfl)
      (pss_cons (ps_fld (pv 0) (pe_lst pa_nil) rfl)
      (pss_one (ps_fld (pv 0) (pe_lst pa_nil) rfl))))), ?_⟩
  repeat ac_rfl
  refine ⟨_, rfl, _, rfl, p, C, dx, [], rfl, hp, T.cl, T.n1, (by show 0 < 1000; decide), ?_⟩
  have e1 : (upd H p (.ins C dx (putF ("given" : Str) (.ref ga) []))) p = some (.ins C dx (j1P ga)) := by rw [upd_same]; rfl
  have k1 : ∀ b, b ≠ p → (upd H p (.ins C dx (putF ("given" : Str) (.ref ga) []))) b = H b := fun b hb => upd_ne hb
  generalize upd H p (.ins C dx (putF ("given" : Str) (.ref ga) [])) = H1 at e1 k1
  repeat ac_rfl
  refine ⟨_, rfl, _, rfl, p, C, dx, _, rfl, e1, T.cl, T.n2, (by show 1 < 1000; decide), ?_⟩
  have p2 : putF ("rounds" : Str) (.int R) (j1P ga) = (j2P ga R) := by rw [put_by (by decide +kernel)]; rfl
  rw [p2]
  have e2 : (upd H1 p (.ins C dx (j2P ga R))) p = some (.ins C dx (j2P ga R)) := upd_same
  have k2 : ∀ b, b ≠ p → (upd H1 p (.ins C dx (j2P ga R))) b = H b := fun b hb => (upd_ne hb).trans (k1 b hb)
  generalize upd H1 p (.ins C dx (j2P ga R)) = H2 at e2 k2
  repeat ac_rfl
  refine ⟨small3 (Nat.zero_le _), fun ea hea => ?_⟩
  have nep : p ≠ ea := fun z => by rw [← z, e2] at hea; cases hea
  refine ⟨_, rfl, p, C, dx, _, rfl, by rw [upd_ne nep]; exact e2, T.cl, T.n3, (by show 2 < 1000; decide), ?_⟩
  have p3 : putF ("events" : Str) (.ref ea) (j2P ga R) = (j3P ga R ea) := by rw [put_by (by decide +kernel), put_by (by decide +kernel)]; rfl
  rw [p3]
  have e3 : (upd (upd H2 ea (.lst [])) p (.ins C dx (j3P ga R ea))) p = some (.ins C dx (j3P ga R ea)) := upd_same
  have l3 : (upd (upd H2 ea (.lst [])) p (.ins C dx (j3P ga R ea))) ea = some (.lst []) := by rw [upd_ne (Ne.symm nep)]; exact upd_same
  have k3 : ∀ b, b ≠ p → b ≠ ea → (upd (upd H2 ea (.lst [])) p (.ins C dx (j3P ga R ea))) b = H b := fun b h1 h2 => (upd_ne h1).trans ((upd_ne h2).trans (k2 b h1))
  generalize upd (upd H2 ea (.lst [])) p (.ins C dx (j3P ga R ea)) = H3 at e3 l3 k3
  have hea0 : H ea = none := by rw [← k2 ea (Ne.symm nep)]; exact hea
  repeat ac_rfl
  refine ⟨small3 (Nat.zero_le _), fun sa hsa => ?_⟩
  have nsp : p ≠ sa := fun z => by rw [← z, e3] at hsa; cases hsa
  have nse : ea ≠ sa := fun z => by rw [← z, l3] at hsa; cases hsa
  refine ⟨_, rfl, p, C, dx, _, rfl, by rw [upd_ne nsp]; exact e3, T.cl, T.n4, (by show 3 < 1000; decide), ?_⟩
  have p4 : putF ("scopes" : Str) (.ref sa) (j3P ga R ea) = jP ga R ea sa := by rw [put_by (by decide +kernel), put_by (by decide +kernel), put_by (by decide +kernel)]; rfl
  rw [p4]
  have hsa0 : H sa = none := by rw [← k3 sa (Ne.symm nsp) (Ne.symm nse)]; exact hsa
  refine q ea sa _ hea0 hsa0 nse upd_same ?_ ?_ fun b o hb hn => ?_
  · rw [upd_ne (Ne.symm nep), upd_ne nse]; exact l3
  · rw [upd_ne (Ne.symm nsp)]; exact upd_same
  · have n1 : b ≠ sa := fun z => by rw [z, hsa0] at hb; cases hb
    have n2 : b ≠ ea := fun z => by rw [z, hea0] at hb; cases hb
    rw [upd_ne hn, upd_ne n1, k3 b hn n2]; exact hb
def spOut (K : PySem.W.Frag) : Sp := fun vs H Q _ => ∃ (v : V) (o : Out) (t : Str), vs = [v] ∧ outTxt o = some t ∧ (((∃ f, o = .next f) ∧ v = .non) ∨ ∃ j f, o = .jump j f ∧ EncJ K H j v ∧ (∀ n, j = .ret (some n) → 0 ≤ n ∧ n < 100) ∧ ∀ l, (j = .brk (some l) ∨ j = .cont (some l)) → nmOk l) ∧ Q (.str t) H
theorem scOut : FnScope ["done"] ["done"] (defScope (top 25)) := ⟨rfl, rfl, rfl, by decide +kernel, rfl, by decide +kernel, by decide +kernel⟩
theorem call_str_si {X : Cx} : CallR X (.type "str") (fun xs H Q => (∃ i, xs = [.int i] ∧ i.natAbs.log2 < 1920 ∧ Q (.str (toString i)) H) ∨ ∃ a, xs = [.str a] ∧ Q (.str a) H) := by
  intro pins s σ H xs us Q I r h
  rcases h with h | h
  · exact call_str_int pins s σ H xs us Q I r h
  · exact SkE.call_str_str pins s σ H xs us Q I r h
theorem ok_out (ml : BN mg) (D : DA K mg "outcome_of" (top 25) ["done"] f25 d25) : FnOk P w K mg base CX0 1 f25 d25 ["done"] (spOut K) := by
  refine D.F.ok scOut (fun vs H Q E h => ?_) (fun cdv A outer s H vs Q E hr h => ?_)
  · obtain ⟨v, o, t, rfl, _⟩ := h
    rfl
  obtain ⟨v, o, t, rfl, ht, hv, q⟩ := h
  refine ⟨_, (pss_cons (ps_if (pt_cmp (pc_isN (pv 0))) (pss_one (ps_ret pe_str)) pss_nil)
      (pss_cons (ps_if (pt_cmp (pc_isN (pe_ix ix_tup (pv 0) pe_int (fun _ _ => rfl)))) (pss_one (ps_ret (pe_ix ix_tup (pv 0) pe_int (fun _ _ => rfl)))) pss_nil)
      (pss_one (ps_ret (pe_op op_add_str (pe_op op_add_str (pe_ix ix_tup (pv 0) pe_int (fun _ _ => rfl)) pe_str) (pe_callTy call_str_si (by rfl) ml.str (by decide +kernel) (pa_cons (pe_ix ix_tup (pv 0) pe_int (fun _ _ => rfl)) pa_nil))))))), ?_⟩
  rcases hv with ⟨⟨f, rfl⟩, rfl⟩ | ⟨j, f, rfl, hj, hn, hl⟩
  · cases ht
    repeat ac_rfl
    exact q
  cases j with
  | ret n =>
    obtain ⟨aj, rfl, hj⟩ := hj
    cases n with
    | none =>
      cases ht
      repeat ac_rfl
      refine ifs_no ne_non_ref ?_
      repeat ac_rfl
      exact q
    | some n =>
      cases ht
      obtain ⟨h0, h1⟩ := hn n rfl
      obtain ⟨hz, hzl⟩ := num_small h0 h1
      repeat ac_rfl
      refine ifs_no ne_non_ref ?_
      repeat ac_rfl
      refine ifs_no (fun z => by cases z) ?_
      repeat ac_rfl
      refine ⟨_, _, rfl, rfl, small3 (by decide +kernel), ?_⟩
      repeat ac_rfl
      refine .inl ⟨n, rfl, hz, ?_⟩
      exact ⟨_, _, rfl, rfl, small3 (by have e : ((("return" : Str) ++ (" " : Str)).length) = 7 := by decide +kernel
                                        rw [e]; omega), q⟩
  | brk l =>
    obtain ⟨aj, rfl, hj⟩ := hj
    cases l with
    | none =>
      cases ht
      repeat ac_rfl
      refine ifs_no ne_non_ref ?_
      repeat ac_rfl
      exact q
    | some n =>
      cases ht
      have hl := hl n (.inl rfl)
      repeat ac_rfl
      refine ifs_no ne_non_ref ?_
      repeat ac_rfl
      refine ifs_no (fun z => by cases z) ?_
      repeat ac_rfl
      refine ⟨_, _, rfl, rfl, small3 (by decide +kernel), ?_⟩
      repeat ac_rfl
      refine .inr ⟨n, rfl, ?_⟩
      have hl' : n.length ≤ 60 := hl.1
      exact ⟨_, _, rfl, rfl, small3 (by have e : ((("break" : Str) ++ (" " : Str)).length) = 6 := by decide +kernel
                                        rw [e]; omega), q⟩
  | cont l =>
    obtain ⟨aj, rfl, hj⟩ := hj
    cases l with
    | none =>
      cases ht
      repeat ac_rfl
      refine ifs_no ne_non_ref ?_
      repeat ac_rfl
      exact q
    | some n =>
      cases ht
      have hl := hl n (.inr rfl)
      repeat ac_rfl
      refine ifs_no ne_non_ref ?_
      repeat ac_rfl
      refine ifs_no (fun z => by cases z) ?_
      repeat ac_rfl
      refine ⟨_, _, rfl, rfl, small3 (by decide +kernel), ?_⟩
      repeat ac_rfl
      refine .inr ⟨n, rfl, ?_⟩
      have hl' : n.length ≤ 60 := hl.1
      exact ⟨_, _, rfl, rfl, small3 (by have e : ((("continue" : Str) ++ (" " : Str)).length) = 9 := by decide +kernel
                                        rw [e]; omega), q⟩
end
end K23
namespace K23
open PySem PySem.Spec PyProof.Rows L2 Fl RT
local macro_rules | `(tactic| ac_rfl) => `(tactic| (
  first
    | with_reducible refine Stp.go ?_
    | with_reducible refine st_var (by with_unfolding_all exact rfl) ?_
    | with_reducible refine st_ixt (by with_unfolding_all assumption) (by with_unfolding_all exact rfl) ?_
    | with_reducible refine st_ixl (by with_unfolding_all assumption) (by with_unfolding_all exact rfl) ?_
    | with_reducible refine st_eq (by with_unfolding_all exact rfl) ?_
    | with_reducible refine st_bl ?_
    | with_reducible refine ifb_t ?_
    | with_reducible refine ifb_f ?_
    | with_reducible refine ifs_no (by decide +kernel) ?_
    | with_reducible refine ifs_yes rfl ?_
    | with_reducible refine ifs_yes lab_rfl ?_
    | with_reducible refine ifs_yes num_rfl ?_
    | with_reducible refine ifn_no (by decide +kernel) ?_
    | with_reducible refine ifn_yes rfl ?_
    | with_reducible refine ifnb_t ?_
    | with_reducible refine ifnb_f ?_
    | with_reducible refine st_ne (by with_unfolding_all exact rfl) ?_
    | with_reducible refine st_ix0 (by with_unfolding_all assumption) ?_))
/-- a method whose exceptions are wished of by the slots -/
def tMethS (C : Addr) (m : Str) (sp : Sp) (E : L2.St → XK) (ta : TE) (t : TA) : TE := fun σ H Q => tMeth C m sp [] (E σ) ta t σ H Q
theorem pe_mtS {X : Cx} {C : Addr} {m qual : Str} {st : Stmt} {ps : List Str} {f : Addr} {fd : FuncData} {sp : Sp} {k : Nat} {pos apos : Pos} {o e : Expr} {es : List Expr} {ta : TE} {t : TA} {E : L2.St → XK} {pl : Sem Bool} (D : DM X.K C m qual st ps f fd) (c : Cls X.K C) (G : FnOk X.prog X.w X.K X.mg X.base (L2.CX X.prog X.w) k f fd ps sp) (hr : Room k X.A)
    (hx : ∀ σ, L2.PassesAt (L2.CX X.prog X.w) X σ (E σ)) (ho : PE X o ta) (ha : PA X (e :: es) t)
    (h1 : starEach (e :: es) X.env = (false, eval e X.env) :: starEach es X.env := by rfl) (h2 : (backTo pos (starEach es X.env)).any (·.1) = false := by rfl)
    (h3 : eval (.Call (.Attribute o m apos) (e :: es) [] pos) X.env = (do
      let ov ← eval o X.env
      standAt apos.atName
      let (f, first) ← holding [ov] (getMethod ov m pl)
      callWith pos f first (backTo pos (starEach (e :: es) X.env)) (backToKw pos (keywordEach [] X.env))) := by rfl) : PE X (.Call (.Attribute o m apos) (e :: es) [] pos) (tMethS C m sp E ta t) :=
  ⟨fun pins s0 σ H0 Q I0 rd => PySem.W.methodCall_KW (pl := pl) (thn (ho.run pins s0 σ H0 _ I0 rd) fun u s1 ⟨x, H1, I1, rx, a, dx, fs, ex, ea, l, rd1⟩ => by
    subst ex
    obtain rfl : u = Value.ref a := rx
    refine getmeth_ok I1 ea c D.M l (PySem.W.callWith_K (first := [.ref a]) (h₀ := X.base) I1.ok.mod.kin D.M.kp (thn (ha.run pos pins s1 σ H1 _ I1 rd1) fun us s2 ⟨vs, H2, I2, rv, rd2⟩ => ⟨I2.kIn, ?_⟩) h1 h2)
    exact L2.run_fnS (us := .ref a :: us) (vs := .ref a :: vs) G hr D.b (hx σ) I2 (.cons rfl rv) (by
      have rd3 : sp (V.ref a :: (vs ++ [])) H2 Q (E σ) := rd2
      rwa [List.append_nil] at rd3)) h3⟩
theorem st_make {C : Addr} {sp : Sp} {E : XK} {t : TA} {σ : L2.St} {H : Hp} {Q : VK} (h : t σ H fun vs H1 => ∀ x dx, H1 x = none → H1 dx = none → dx ≠ x → sp (.ref x :: (vs ++ [])) (upd (upd H1 dx (.own x)) x (.ins C dx [])) (fun v H2 => v = .non ∧ Q (.ref x) H2) E) : tMake C sp [] E t σ H Q := h
theorem st_mthS {C : Addr} {m : Str} {sp : Sp} {E : L2.St → XK} {ta : TE} {t : TA} {σ : L2.St} {H : Hp} {Q : VK} (h : tMeth C m sp [] (E σ) ta t σ H Q) : tMethS C m sp E ta t σ H Q := h
theorem exm_self {K : PySem.W.Frag} {mg : Str → Option Value} {CS : Addr} (S : StopC K mg CS) : PySem.W.exmOne K (.ref CS) (.ref CS) = some true := by
  unfold PySem.W.exmOne
  rw [S.b]
  have hi := S.i
  unfold PySem.W.isClsIn at hi
  simp [PySem.W.kitCls, hi, S.s, S.t]
/-- return tuple(player.events) -/
abbrev tTold (K : PySem.W.Frag) : TS := tRet (tCB (fun xs H Q => ∃ p ys, xs = [V.ref p] ∧ ((SqL K H p ys ∧ ∀ l, H l = none → Q (.ref l) (upd H l (.tup ys))) ∨ (SqT K H p ys ∧ Q (.ref p) H))) (tCons (tFld K (tVar 3) ("events" : Str)) tNil))
def spPlay (K : PySem.W.Frag) : Sp := fun vs H Q _ => ∃ (v : V) (ga : Addr) (p : Stms) (as : List Bool), vs = [v, .ref ga] ∧ EncR K H p v ∧ SqT K H ga (as.map V.bl) ∧ wfR [] [] 0 false p ∧ szR p < 40 ∧ letsR p ≤ 4 ∧ as.length ≤ 400 ∧
  ∀ t H', Same H H' → SqT K H' t ((Fl.run as p).map V.str) → Q (.ref t) H'
theorem scPlay : FnScope ["program", "answers", "declarations", "player", "done"] ["program", "answers"] (defScope (top 26)) := ⟨rfl, rfl, rfl, by decide +kernel, rfl, by decide +kernel, by decide +kernel⟩
theorem scRun : FnScope ["program", "answers"] ["program", "answers"] (defScope (top 27)) := ⟨rfl, rfl, rfl, by decide +kernel, rfl, by decide +kernel, by decide +kernel⟩
section
variable {P : Program} {w : World} {K : PySem.W.Frag} {mg : Str → Option Value} {base : Heap} {C CS fi fB f25 f26 ra : Addr} {di dB d25 d26 : FuncData} {fW fb : Addr} {fdW fdb : FuncData} {cdv0 : Value}
theorem ok_play (ml : BN mg) (T : PCls K mg C fi) (S : StopC K mg CS) (TW : WT P w K mg base fW fdW cdv0 fb fdb) (Di : DM K C "__init__" "Player.__init__" (inClass (top 24) 0) ["self", "given", "rounds"] fi di) (DB : DM K C "body" "Player.body" (inClass (top 24) 4) ["self", "body"] fB dB)
    (D25 : DA K mg "outcome_of" (top 25) ["done"] f25 d25) (D : DA K mg "play" (top 26) ["program", "answers"] f26 d26) (hR : mg "ROUNDS" = some (.ref ra)) (hRo : ∀ H : Hp, SqT K H ra [.int 1, .int 2, .int 4, .int 8, .int 16])
    (GB : FnOk P w K mg base (L2.CX P w) 145 fB dB ["self", "body"] (spPB K C CS 40)) : FnOk P w K mg base CX0 146 f26 d26 ["program", "answers"] (spPlay K) := by
  refine D.F.ok scPlay (fun vs H Q E h => ?_) (fun cdv A outer s H vs Q E hr h => ?_)
  · obtain ⟨v, ga, p, as, rfl, _⟩ := h
    rfl
  obtain ⟨v, ga, p, as, rfl, he, hg, hw, hsz, hl, ha, q⟩ := h
  have GO := ok_out (P := P) (w := w) (base := base) ml D25
  refine ⟨_, (pss_cons (ps_lets (i := 2) (m := 40) TW (hr.mono (by omega)) (by omega) rfl scPlay.nd rfl rfl rfl (Or.inl rfl) (by rfl) rfl (by decide +kernel) rfl rfl (sw_true rfl rfl rfl (by decide +kernel)))
    (pss_cons (ps_set (i := 3) scPlay.nd rfl (Or.inl rfl) (pe_make T.mk_ (ok_PI T Di) (hr.mono (by omega)) rfl T.g Di.b .nil pass0 (pa_cons (pv 1) (pa_cons (pe_ix ix_tup (pe_glob (v := .ref ra) rfl hR rfl) (pe_len ml.len (pv 2)) (fun _ _ => rfl)) pa_nil))))
    (pss_cons (ps_try_only (X := (cxOf CX0 P w K mg base ["program", "answers", "declarations", "player", "done"] "play" (defScope (top 26)) f26 cdv A outer s H E).nox) (c := .ref CS) (ts := fun _ _ _ => tTold K) rfl rfl ⟨rfl, by decide, .inl S.g⟩ takes0
        (fun W pn xe tk _ => pss_one (ps_set (i := 4) scPlay.nd rfl (Or.inl rfl) (pe_mtS (E := L2.WE W) DB T.cl GB (hr.mono (by omega)) (fun σ => L2.passAt tk σ) (pv 3) (pa_cons (pv 0) pa_nil))))
        (fun a oe cls d pn _ _ => pss_one (ps_ret (pe_callTy call_tuple_of (by rfl) ml.tuple (by decide +kernel) (pa_cons (pe_fld (pv 3) rfl) pa_nil)))))
      (pss_one (ps_ret (pe_op op_catA (pe_callTy call_tuple_of (by rfl) ml.tuple (by decide +kernel) (pa_cons (pe_fld (pv 3) rfl) pa_nil)) (pe_tup (pa_cons (pe_cl D25 GO (hr.mono (by omega)) (pa_cons (pv 4) pa_nil)) pa_nil)))))))), ?_⟩
  refine st_seq ?_
  refine ⟨v, p, rfl, he, by omega, fun d xs hd hx => ?_⟩
  have s1 : Same H (upd H d (.lst xs)) := same_new hd _
  have ed : (upd H d (.lst xs)) d = some (.lst xs) := upd_same
  generalize upd H d (.lst xs) = H1 at s1 ed
  have k1 : TK K H H1 := TK.of_same s1
  repeat ac_rfl
  have hl2 : xs.length < 5 := by omega
  have hat : atI [V.int 1, .int 2, .int 4, .int 8, .int 16] ((xs.length : Nat) : Int) = some (.int ((2 ^ letsR p : Nat) : Int)) := by
    rw [hx]
    refine atI_nat ?_
    have h5 : letsR p < 5 := by omega
    generalize letsR p = n at h5
    have : ∀ n : _root_.Fin 5, [V.int 1, V.int 2, V.int 4, V.int 8, V.int 16][n.val]? = some (V.int ((2 ^ n.val : Nat) : Int)) := by decide +kernel
    exact this ⟨n, h5⟩
  refine st_make ?_
  repeat ac_rfl
  refine ⟨d, xs, rfl, .inl (.inl (.inl ed)), ?_⟩
  refine st_ixt (hRo _) hat ?_
  repeat ac_rfl
  intro x dx nx nd ndx
  refine ⟨x, dx, ga, _, rfl, upd_same, fun ea sa H2 nea nsa nes er ee es kp => ⟨rfl, ?_⟩⟩
  have s2 : Same H1 H2 := Same.made nx nd kp
  have k2 : TK K H H2 := k1.trans (TK.of_same s2)
  have P0 : PAt K C H2 x dx ga ea sa (2 ^ letsR p) as [] [] := ⟨er, k2 _ _ hg, ee, es, fun q hq => absurd hq List.not_mem_nil, List.nodup_nil, fun q hq => absurd hq List.not_mem_nil, nes⟩
  have nH : H ea = none ∧ H sa = none := by
    have h1 : H1 ea = none := by
      by_cases z : ea = x
      · rw [z]; exact nx
      · rw [upd_ne z] at nea
        by_cases z2 : ea = dx
        · rw [z2]; exact nd
        · rw [upd_ne z2] at nea; exact nea
    have h2 : H1 sa = none := by
      by_cases z : sa = x
      · rw [z]; exact nx
      · rw [upd_ne z] at nsa
        by_cases z2 : sa = dx
        · rw [z2]; exact nd
        · rw [upd_ne z2] at nsa; exact nsa
    constructor
    · cases e : H ea with
      | none => rfl
      | some u => have := s1 _ _ e; rw [h1] at this; cases this
    · cases e : H sa with
      | none => rfl
      | some u => have := s1 _ _ e; rw [h2] at this; cases this
  have s3 : Same H H2 := s1.trans s2
  clear s1 s2 nea nsa kp er ee es nx nd ndx ed hd
  repeat ac_rfl
  refine st_mthS ?_
  have na : ∀ {m : Str}, (m == ("given" : Str)) = false → (m == ("rounds" : Str)) = false → (m == ("events" : Str)) = false → (m == ("scopes" : Str)) = false → (jP ga ((2 ^ letsR p : Nat) : Int) ea sa).lookup m = none := fun a b c d => jP_no a b c d
  refine ⟨_, rfl, x, dx, _, rfl, P0.r, na (by decide +kernel) (by decide +kernel) (by decide +kernel) (by decide +kernel), ?_⟩
  repeat ac_rfl
  have frs : ∀ {H3}, Fr (PM ea sa []) H2 H3 → Same H H3 := fun g b u hb => g b u (s3 _ _ hb) fun z => by
    rcases z with z | z | z
    · rw [z, nH.1] at hb; cases hb
    · rw [z, nH.2] at hb; cases hb
    · exact absurd z List.not_mem_nil
  refine ⟨⟨C, CS, x, dx, ga, ea, sa, 2 ^ letsR p, as⟩, [], [], v, p, 0, false, rfl, rfl, rfl, P0, EncR.mono k2 p he, hw, hsz, ⟨Nat.zero_le _, ha, by show 0 + _ ≤ _; omega, ⟨letsR p, hl, Nat.le_succ _, by show 0 + _ ≤ _; omega⟩⟩, fun f m e2 H3 scs3 g3 P3 l3 ef3 => ?_, fun j f m e2 H3 scs3 v3 g3 P3 l3 ef3 ev => ?_, fun m e2 H3 g3 e3 => ?_, fun m e2 H3 g3 e3 => ?_⟩
  · have er : Fl.run as p = m.map evName ++ [("end" : Str)] := by
      show events (exB as p (flat []) []) = _
      rw [e2]; rfl
    have hm3 : m.length ≤ as.length := ((exB_len as (Nat.zero_le _)).1 e2).1
    repeat ac_rfl
    refine ⟨_, rfl, x, C, dx, _, _, rfl, P3.r, T.cl, T.n3, jP_events, ?_⟩
    repeat ac_rfl
    refine ⟨ea, _, rfl, .inl ⟨.inl (.inl P3.e), fun t1 ht1 => ?_⟩⟩
    have s4 : Same H (upd H3 t1 (.tup (m.map evV))) := (frs g3).trans (same_new ht1 _)
    have k4 : TK K H3 (upd H3 t1 (.tup (m.map evV))) := TK.new ht1 _
    have et1 : SqT K (upd H3 t1 (.tup (m.map evV))) t1 (m.map evV) := .inl (.inl upd_same)
    generalize upd H3 t1 (.tup (m.map evV)) = H4 at s4 k4 et1
    repeat ac_rfl
    refine ⟨.non, .next f, _, rfl, rfl, .inl ⟨⟨f, rfl⟩, rfl⟩, ?_⟩
    repeat ac_rfl
    refine ⟨small3 (by show 1 ≤ _; omega), fun t2 ht2 => ?_⟩
    have s5 := s4.trans (same_new ht2 (.tup [V.str ("end" : Str)]))
    have k5 := TK.new (K := K) ht2 (.tup [V.str ("end" : Str)])
    have et2 : SqT K (upd H4 t2 (.tup [V.str ("end" : Str)])) t2 [V.str ("end" : Str)] := .inl (.inl upd_same)
    have et3 := k5 _ _ et1
    generalize upd H4 t2 (.tup [V.str ("end" : Str)]) = H5 at s5 et2 et3
    have em : (Fl.run as p).map V.str = m.map evV ++ [V.str ("end" : Str)] := by rw [er, List.map_append, List.map_map]; rfl
    refine ⟨t1, t2, _, _, rfl, rfl, et3, et2, small3 (by rw [List.length_map]; show m.length + 1 ≤ _; omega), fun hz => ?_, fun _ hz => (by cases hz), fun _ _ t3 ht3 => ?_⟩
    · refine q t2 H5 s5 ?_
      rw [em, hz]; exact et2
    · refine q t3 _ (s5.trans (same_new ht3 _)) ?_
      rw [em]; exact .inl (.inl upd_same)
  · obtain ⟨t0, ht0⟩ : ∃ t0, outTxt (.jump j f) = some t0 := by
      rcases j with (_ | l) | (_ | l) | (_ | n) <;> exact ⟨_, rfl⟩
    have er : Fl.run as p = m.map evName ++ [t0] := by
      show events (exB as p (flat []) []) = _
      rw [e2]; show _ ++ (outTxt _).toList = _; rw [ht0]; rfl
    have hm3 : m.length ≤ as.length := ((exB_len as (Nat.zero_le _)).2 j e2).1
    have hjo := oOk_B (as := as) hw (flat []) [] j f (by rw [e2])
    repeat ac_rfl
    refine ⟨_, rfl, x, C, dx, _, _, rfl, P3.r, T.cl, T.n3, jP_events, ?_⟩
    repeat ac_rfl
    refine ⟨ea, _, rfl, .inl ⟨.inl (.inl P3.e), fun t1 ht1 => ?_⟩⟩
    have s4 : Same H (upd H3 t1 (.tup (m.map evV))) := (frs g3).trans (same_new ht1 _)
    have k4 : TK K H3 (upd H3 t1 (.tup (m.map evV))) := TK.new ht1 _
    have et1 : SqT K (upd H3 t1 (.tup (m.map evV))) t1 (m.map evV) := .inl (.inl upd_same)
    generalize upd H3 t1 (.tup (m.map evV)) = H4 at s4 k4 et1
    repeat ac_rfl
    refine ⟨v3, .jump j f, t0, rfl, ht0, .inr ⟨j, f, rfl, EncJ.mono k4 ev, hjo.1, hjo.2⟩, ?_⟩
    repeat ac_rfl
    refine ⟨small3 (by show 1 ≤ _; omega), fun t2 ht2 => ?_⟩
    have s5 := s4.trans (same_new ht2 (.tup [V.str t0]))
    have k5 := TK.new (K := K) ht2 (.tup [V.str t0])
    have et2 : SqT K (upd H4 t2 (.tup [V.str t0])) t2 [V.str t0] := .inl (.inl upd_same)
    have et3 := k5 _ _ et1
    generalize upd H4 t2 (.tup [V.str t0]) = H5 at s5 et2 et3
    have em : (Fl.run as p).map V.str = m.map evV ++ [V.str t0] := by rw [er, List.map_append, List.map_map]; rfl
    refine ⟨t1, t2, _, _, rfl, rfl, et3, et2, small3 (by rw [List.length_map]; show m.length + 1 ≤ _; omega), fun hz => ?_, fun _ hz => (by cases hz), fun _ _ t3 ht3 => ?_⟩
    · refine q t2 H5 s5 ?_
      rw [em, hz]; exact et2
    · refine q t3 _ (s5.trans (same_new ht3 _)) ?_
      rw [em]; exact .inl (.inl upd_same)
  · refine ⟨true, exm_self S, fun _ a _ => ?_, fun z => nomatch z⟩
    have er : (Fl.run as p).map V.str = m.map evV := by
      show (events (exB as p (flat []) [])).map V.str = _
      rw [e2]; show (_ ++ (outTxt .wait).toList).map V.str = _
      rw [List.map_append, List.map_map]
      show _ ++ [] = _
      rw [List.append_nil]; rfl
    refine ⟨_, rfl, x, C, dx, _, _, rfl, g3 _ _ P0.r P0.ne_r, T.cl, T.n3, jP_events, ?_⟩
    refine ⟨ea, _, rfl, .inl ⟨.inl (.inl e3), fun t1 ht1 => ?_⟩⟩
    refine q t1 _ ((frs g3).trans (same_new ht1 _)) ?_
    rw [er]; exact .inl (.inl upd_same)
  · refine ⟨true, exm_self S, fun _ a _ => ?_, fun z => nomatch z⟩
    have er : (Fl.run as p).map V.str = m.map evV ++ [V.str "hang"] := by
      show (events (exB as p (flat []) [])).map V.str = _
      rw [e2]; show (_ ++ (outTxt .hang).toList).map V.str = _
      rw [List.map_append, List.map_map]; rfl
    refine ⟨_, rfl, x, C, dx, _, _, rfl, g3 _ _ P0.r P0.ne_r, T.cl, T.n3, jP_events, ?_⟩
    refine ⟨ea, _, rfl, .inl ⟨.inl (.inl e3), fun t1 ht1 => ?_⟩⟩
    refine q t1 _ ((frs g3).trans (same_new ht1 _)) ?_
    rw [er]; exact .inl (.inl upd_same)
theorem ok_run {fr fe : Addr} {dr de : FuncData} (Dr : DA K mg "resolve" (top 18) ["program"] fr dr) (Gr : FnOk P w K mg base CX0 146 fr dr ["program"] (spResolve K)) (D26 : DA K mg "play" (top 26) ["program", "answers"] f26 d26) (Gp : FnOk P w K mg base CX0 146 f26 d26 ["program", "answers"] (spPlay K))
    (D : DA K mg "run" (top 27) ["program", "answers"] fe de) : FnOk P w K mg base CX0 147 fe de ["program", "answers"] (spPlay K) := by
  refine D.F.ok scRun (fun vs H Q E h => ?_) (fun cdv A outer s H vs Q E hr h => ?_)
  · obtain ⟨v, ga, p, as, rfl, _⟩ := h
    rfl
  obtain ⟨v, ga, p, as, rfl, he, hg, hw, hsz, hl, ha, q⟩ := h
  refine ⟨_, (pss_cons (ps_expr (pe_cl Dr Gr (hr.mono (by omega)) (pa_cons (pv 0) pa_nil)))
      (pss_one (ps_ret (pe_cl D26 Gp (hr.mono (by omega)) (pa_cons (pv 0) (pa_cons (pv 1) pa_nil)))))), ?_⟩
  repeat ac_rfl
  refine ⟨v, p, rfl, he, hw, hsz, hl, fun u H1 s1 => ?_⟩
  have k1 : TK K H H1 := TK.of_same s1
  repeat ac_rfl
  exact ⟨v, ga, p, as, rfl, EncR.mono k1 p he, k1 _ _ hg, hw, hsz, hl, ha, fun t H2 s2 ht => q t H2 (s1.trans s2) ht⟩
end
end K23
namespace K23
open PySem PySem.Spec PyProof.Rows L2 Fl RT
local macro_rules | `(tactic| ac_rfl) => `(tactic| (
  first
    | with_reducible refine Stp.go ?_
    | with_reducible refine st_var (by with_unfolding_all exact rfl) ?_
    | with_reducible refine st_ixt (by with_unfolding_all assumption) (by with_unfolding_all exact rfl) ?_
    | with_reducible refine st_ixl (by with_unfolding_all assumption) (by with_unfolding_all exact rfl) ?_
    | with_reducible refine st_eq (by with_unfolding_all exact rfl) ?_
    | with_reducible refine st_bl ?_
    | with_reducible refine ifb_t ?_
    | with_reducible refine ifb_f ?_
    | with_reducible refine ifs_no (by decide +kernel) ?_
    | with_reducible refine ifs_yes rfl ?_
    | with_reducible refine ifs_yes lab_rfl ?_
    | with_reducible refine ifs_yes num_rfl ?_
    | with_reducible refine ifn_no (by decide +kernel) ?_
    | with_reducible refine ifn_yes rfl ?_
    | with_reducible refine ifnb_t ?_
    | with_reducible refine ifnb_f ?_
    | with_reducible refine st_ne (by with_unfolding_all exact rfl) ?_
    | with_reducible refine st_ix0 (by with_unfolding_all assumption) ?_))
def spLB (K : PySem.W.Frag) : Sp := fun vs H Q _ => ∃ (v : V) (s : Stm), vs = [v] ∧ EncS K H s v ∧
  ∀ (t : Addr) (us : List V) (H' : Hp), Same H H' → H t = none → H' t = some (.lst us) → EncBs K H (bodsS s) us → Q (.ref t) H'
theorem scLB : FnScope ["_law_statement_here"] ["_law_statement_here"] (defScope (top 50)) := ⟨rfl, rfl, rfl, by decide +kernel, rfl, by decide +kernel, by decide +kernel⟩
/-- the rows of a body: pairs of a path and a statement -/
def EncPs (K : PySem.W.Frag) (H : Hp) : List Stm → List V → Prop
  | [], us => us = []
  | s :: r, us => ∃ a pv sv t, us = .ref a :: t ∧ SqT K H a [pv, sv] ∧ EncS K H s sv ∧ EncPs K H r t
theorem EncPs.mono {K : PySem.W.Frag} {H H' : Hp} (k : TK K H H') : ∀ {bs : List Stm} {us : List V}, EncPs K H bs us → EncPs K H' bs us
  | [], _, h => h
  | s :: r, _, ⟨a, pv, sv, t, e, h1, h2, h3⟩ => ⟨a, pv, sv, t, e, k _ _ h1, EncS.mono k s h2, EncPs.mono k h3⟩
theorem EncPs.app {K : PySem.W.Frag} {H : Hp} : ∀ {as bs : List Stm} {us ws : List V}, EncPs K H as us → EncPs K H bs ws → EncPs K H (as ++ bs) (us ++ ws)
  | [], _, _, _, h, q => by cases (show _ = _ from h); exact q
  | s :: r, _, _, _, ⟨a, pv, sv, t, e, h1, h2, h3⟩, q => by subst e; exact ⟨a, pv, sv, _, rfl, h1, h2, EncPs.app h3 q⟩
theorem EncPs.len {K : PySem.W.Frag} {H : Hp} : ∀ {as : List Stm} {us : List V}, EncPs K H as us → us.length = as.length
  | [], _, h => by cases (show _ = _ from h); rfl
  | s :: r, _, ⟨a, pv, sv, t, e, h1, h2, h3⟩ => by subst e; rw [List.length_cons, List.length_cons, EncPs.len h3]
theorem EncPs.at {K : PySem.W.Frag} {H : Hp} : ∀ {as : List Stm} {us : List V} {i : Nat} {u : V}, EncPs K H as us → us[i]? = some u → ∃ s a pv sv, as[i]? = some s ∧ u = .ref a ∧ SqT K H a [pv, sv] ∧ EncS K H s sv
  | [], _, i, u, h, e => by cases (show _ = _ from h); simp at e
  | s :: r, _, 0, u, ⟨a, pv, sv, t, z, h1, h2, h3⟩, e => by subst z; cases (show some _ = some _ from e); exact ⟨s, a, pv, sv, rfl, rfl, h1, h2⟩
  | s :: r, _, i + 1, u, ⟨a, pv, sv, t, z, h1, h2, h3⟩, e => by subst z; exact EncPs.at h3 (i := i) (show t[i]? = some u from e)
def spLP (K : PySem.W.Frag) (n : Nat) : Sp := fun vs H Q _ => ∃ (v : V) (ss : Stms) (pa : Addr) (ys : List V), vs = [v, .ref pa] ∧ EncR K H ss v ∧ SqT K H pa ys ∧ szR ss < n ∧ ys.length + 2 * szR ss ≤ 300 ∧
  ∀ (t : Addr) (us : List V) (H' : Hp), Same H H' → H t = none → H' t = some (.lst us) → EncPs K H' (allR ss) us → Q (.ref t) H'
theorem scLP : FnScope ["_law_body_here", "_law_path", "_law_rows", "_law_k", "_law_here", "_law_bodies_here", "_law_j"] ["_law_body_here", "_law_path"] (defScope (top 51)) := ⟨rfl, rfl, rfl, by decide +kernel, rfl, by decide +kernel, by decide +kernel⟩
def spLL (K : PySem.W.Frag) : Sp := fun vs H Q _ => ∃ (v : V) (ss : Stms), vs = [v] ∧ EncR K H ss v ∧ szR ss < 40 ∧ ∀ H', Same H H' → Q (.int (letsR ss : Nat)) H'
theorem scLL : FnScope ["_law_program_here", "_law_row_here"] ["_law_program_here"] (defScope (top 52)) := ⟨rfl, rfl, rfl, by decide +kernel, rfl, by decide +kernel, by decide +kernel⟩
mutual
theorem subS_len : ∀ s : Stm, (subS s).length + 1 = szS s
  | .ite _ a b => by
    have h1 := allR_len a
    have h2 := allR_len b
    show (allR a ++ allR b).length + 1 = szR a + szR b + 1
    rw [List.length_append]; omega
  | .whl _ _ a => by
    have h1 := allR_len a
    show (allR a).length + 1 = szR a + 1
    omega
  | .forl _ a => by
    have h1 := allR_len a
    show (allR a).length + 1 = szR a + 1
    omega
  | .tryf a b => by
    have h1 := allR_len a
    have h2 := allR_len b
    show (allR a ++ allR b).length + 1 = szR a + szR b + 1
    rw [List.length_append]; omega
  | .block a => by
    have h1 := allR_len a
    show (allR a).length + 1 = szR a + 1
    omega
  | .call _ => rfl
  | .letf _ _ => rfl
  | .setf _ _ => rfl
  | .brk _ => rfl
  | .cont _ => rfl
  | .ret _ => rfl
theorem allR_len : ∀ ss : Stms, (allR ss).length = szR ss
  | .nil => rfl
  | .cons s r => by
    have h1 := subS_len s
    have h2 := allR_len r
    show (s :: (subS s ++ allR r)).length = szS s + szR r
    rw [List.length_cons, List.length_append]; omega
end
theorem cat_one {K : PySem.W.Frag} {H : Hp} {pa : Addr} {ys : List V} {kv : V} {Q : VK} (h : SqT K H pa ys) (hl : ys.length ≤ 1000) (q : ∀ t H2, Same H H2 → SqT K H2 t (ys ++ [kv]) → Q (.ref t) H2) :
    [kv].length ≤ sizeLine ∧ ∀ p, H p = none → rCatA K (.ref pa) (.ref p) (upd H p (.tup [kv])) Q := by
  refine ⟨small3 (by show 1 ≤ _; omega), fun p hp => ?_⟩
  have s1 : Same H (upd H p (.tup [kv])) := same_new hp _
  have h1 := TK.of_same s1 _ _ h
  have e1 : SqT K (upd H p (.tup [kv])) p [kv] := .inl (.inl upd_same)
  refine ⟨pa, p, _, _, rfl, rfl, h1, e1, small3 (by show _ + 1 ≤ _; omega), fun hz => q p _ s1 (by rw [hz]; exact e1), fun _ z => (by cases z), fun _ _ t ht => q t _ (s1.trans (same_new ht _)) (.inl (.inl upd_same))⟩
section
variable {P : Program} {w : World} {K : PySem.W.Frag} {mg : Str → Option Value} {base : Heap} {f f50 f51 : Addr} {fd d50 d51 : FuncData}
theorem ok_LB (ml : BN mg) (D : DA K mg "_law_bodies" (top 50) ["_law_statement_here"] f fd) : FnOk P w K mg base CX0 1 f fd ["_law_statement_here"] (spLB K) := by
  refine D.F.ok scLB (fun vs H Q E h => ?_) (fun cdv A outer s H vs Q E hr h => ?_)
  · obtain ⟨v, s, rfl, _⟩ := h
    rfl
  obtain ⟨v, st, rfl, he, q⟩ := h
  refine ⟨_, (pss_cons (ps_if (pt_cmpR op_eq (pe_ix ix_tup (pv 0) pe_int (fun _ _ => rfl)) pe_str (nomark _)) (pss_one (ps_ret (pe_lst (pa_cons (pe_ix ix_tup (pv 0) pe_int (fun _ _ => rfl)) (pa_cons (pe_ix ix_tup (pv 0) pe_int (fun _ _ => rfl)) pa_nil))))) pss_nil)
      (pss_cons (ps_if (pt_cmpR op_eq (pe_ix ix_tup (pv 0) pe_int (fun _ _ => rfl)) pe_str (nomark _)) (pss_one (ps_ret (pe_lst (pa_cons (pe_ix ix_tup (pv 0) pe_int (fun _ _ => rfl)) (pa_cons (pe_ix ix_tup (pv 0) pe_int (fun _ _ => rfl)) pa_nil))))) pss_nil)
      (pss_cons (ps_if (pw_or (pt_cmpR op_eq (pe_ix ix_tup (pv 0) pe_int (fun _ _ => rfl)) pe_str (nomark _)) (pw_or (pt_cmpR op_eq (pe_ix ix_tup (pv 0) pe_int (fun _ _ => rfl)) pe_str (nomark _)) (pw_or1 (pt_cmpR op_eq (pe_ix ix_tup (pv 0) pe_int (fun _ _ => rfl)) pe_str (nomark _))))).pt (pss_one (ps_ret (pe_lst (pa_cons (pe_ix ix_tup (pv 0) (pe_op op_sub (pe_len ml.len (pv 0)) pe_int) (fun _ _ => rfl)) pa_nil)))) pss_nil)
      (pss_one (ps_ret (pe_lst pa_nil)))))), ?_⟩
  have fin : ∀ (us : List V), us.length ≤ 2 → EncBs K H (bodsS st) us → us.length ≤ sizeLine ∧ ∀ p, H p = none → Q (.ref p) (upd H p (.lst us)) := fun us hl hb => ⟨small3 (by omega), fun p hp => q p us _ (same_new hp _) hp upd_same hb⟩
  cases st with
  | ite c a b =>
    obtain ⟨u, p1, p2, ps, qs, ⟨a0, rfl, h0⟩, h1, h2, h3, h4, h5⟩ := he
    repeat ac_rfl
    exact fin [.ref p1, .ref p2] (Nat.le_refl 2) ⟨_, _, rfl, ⟨p1, ps, rfl, h2, h3⟩, _, _, rfl, ⟨p2, qs, rfl, h4, h5⟩, rfl⟩
  | whl l c a =>
    obtain ⟨u, p1, ps, ⟨a0, rfl, h0⟩, h1, h2, h3⟩ := he
    repeat ac_rfl
    refine ⟨a0, _, rfl, .inr h0, ?_⟩
    repeat ac_rfl
    exact fin [.ref p1] (Nat.le_succ 1) ⟨_, _, rfl, ⟨p1, ps, rfl, h2, h3⟩, rfl⟩
  | forl l a =>
    obtain ⟨p1, ps, ⟨a0, rfl, h0⟩, h2, h3⟩ := he
    repeat ac_rfl
    refine ⟨a0, _, rfl, .inr h0, ?_⟩
    repeat ac_rfl
    exact fin [.ref p1] (Nat.le_succ 1) ⟨_, _, rfl, ⟨p1, ps, rfl, h2, h3⟩, rfl⟩
  | tryf a b =>
    obtain ⟨p1, p2, ps, qs, ⟨a0, rfl, h0⟩, h2, h3, h4, h5⟩ := he
    repeat ac_rfl
    exact fin [.ref p1, .ref p2] (Nat.le_refl 2) ⟨_, _, rfl, ⟨p1, ps, rfl, h2, h3⟩, _, _, rfl, ⟨p2, qs, rfl, h4, h5⟩, rfl⟩
  | block a =>
    obtain ⟨p1, ps, ⟨a0, rfl, h0⟩, h2, h3⟩ := he
    repeat ac_rfl
    refine ⟨a0, _, rfl, .inr h0, ?_⟩
    repeat ac_rfl
    exact fin [.ref p1] (Nat.le_succ 1) ⟨_, _, rfl, ⟨p1, ps, rfl, h2, h3⟩, rfl⟩
  | _ =>
    obtain ⟨a0, rfl, h0⟩ := he
    repeat ac_rfl
    exact fin [] (by decide) rfl
theorem ok_LP {n : Nat} (ml : BN mg) (D50 : DA K mg "_law_bodies" (top 50) ["_law_statement_here"] f50 d50) (D : DA K mg "_law_paths" (top 51) ["_law_body_here", "_law_path"] f51 d51)
    (G : FnOk P w K mg base CX0 (n + 1) f51 d51 ["_law_body_here", "_law_path"] (spLP K n)) : FnOk P w K mg base CX0 (n + 2) f51 d51 ["_law_body_here", "_law_path"] (spLP K (n + 1)) := by
  refine D.F.ok scLP (fun vs H Q E h => ?_) (fun cdv A outer s H vs Q E hr h => ?_)
  · obtain ⟨v, ss, pa, ys, rfl, _⟩ := h
    rfl
  obtain ⟨v, ss, pa, ys, rfl, ⟨pb, bs, rfl, hS, hx⟩, hpa, hsz, hy, q⟩ := h
  have GB := ok_LB (P := P) (w := w) (base := base) ml D50
  refine ⟨_, (pss_cons (ps_set (i := 2) scLP.nd rfl (Or.inl rfl) (pe_lst pa_nil))
      (pss_cons (ps_for PassesOwn.never rfl (pi_range1 rfl ml.range (pa_cons (pe_len ml.len (pv 0)) pa_nil)) (pg_name (i := 3) scLP.nd rfl (Or.inl rfl)) (pss_cons (ps_set (i := 4) scLP.nd rfl (Or.inl rfl) (pe_op op_catA (pv 1) (pe_tup (pa_cons (pv 3) pa_nil))))
      (pss_cons (ps_expr (pe_bm PySem.F.plainAttrs_list PySem.F.slot_list_append PySem.F.type_list_append mt_append (pv 2) (pa_cons (pe_tup (pa_cons (pv 4) (pa_cons (pe_ix ix_tup (pv 0) (pv 3) (fun _ _ => rfl)) pa_nil))) pa_nil)))
      (pss_cons (ps_set (i := 5) scLP.nd rfl (Or.inl rfl) (pe_cl D50 GB (hr.mono (by omega)) (pa_cons (pe_ix ix_tup (pv 0) (pv 3) (fun _ _ => rfl)) pa_nil)))
      (pss_one (ps_for PassesOwn.never rfl (pi_range1 rfl ml.range (pa_cons (pe_len ml.len (pv 5)) pa_nil)) (pg_name (i := 6) scLP.nd rfl (Or.inl rfl)) (pss_one (ps_set (i := 2) scLP.nd rfl (Or.inl rfl) (pe_op op_cat (pv 2) (pe_cl D G (hr.mono (by omega)) (pa_cons (pe_ix ix_list (pv 5) (pv 6) (fun _ _ => rfl)) (pa_cons (pe_op op_catA (pv 4) (pe_tup (pa_cons (pv 6) pa_nil))) pa_nil))))))))))))
      (pss_one (ps_ret (pv 2))))), ?_⟩
  have hlen := hx.len
  have hlr := lenR_le ss
  have hall := allR_len ss
  repeat ac_rfl
  refine ⟨small3 (Nat.zero_le _), fun rl hrl => ?_⟩
  have s1 : Same H (upd H rl (.lst [])) := same_new hrl _
  have e1 : (upd H rl (.lst [])) rl = some (.lst []) := upd_same
  generalize upd H rl (.lst []) = H1 at s1 e1
  refine st_name ?_
  with_reducible refine seq_cut (fun σ' H' => ∃ rl us o3 o4 o5 o6, σ' = [some (.ref pb), some (.ref pa), some (.ref rl), o3, o4, o5, o6] ∧ Same H H' ∧ H rl = none ∧ H' rl = some (.lst us) ∧ EncPs K H' (allR ss) us) ?_ ?_
  · rintro _ H2 ⟨rl, us, o3, o4, o5, o6, rfl, s2, n2, e2, hp⟩
    repeat ac_rfl
    exact q rl us H2 s2 n2 e2 hp
  intro N hN
  have k1 : TK K H H1 := TK.of_same s1
  refine ⟨_, rfl, pb, _, rfl, .inr (k1 _ _ hS), _, rfl, by omega, by omega, for_range (n := bs.length) (fun i σ H' => ∃ rl us o3 o4 o5 o6 pre, σ = [some (.ref pb), some (.ref pa), some (.ref rl), o3, o4, o5, o6] ∧ Same H H' ∧ H rl = none ∧ H' rl = some (.lst us) ∧ EncPs K H' pre us ∧ allR ss = pre ++ allR (dropR ss i)) ⟨rl, [], none, none, none, none, [], rfl, s1, hrl, e1, rfl, ?_⟩ ?_ ?_⟩
  · have e : dropR ss 0 = ss := by cases ss <;> rfl
    rw [e]; rfl
  · rintro i σ H2 hi ⟨rl, us, o3, o4, o5, o6, pre, rfl, s2, n2, e2, hp, hpre⟩
    have k2 : TK K H H2 := TK.of_same s2
    have hb2 := k2 _ _ hS
    have hp2 := k2 _ _ hpa
    have hgi : bs[i]? = some bs[i] := List.getElem?_eq_getElem hi
    obtain ⟨st, hst, hse⟩ := hx.at hgi
    have hszs : szS st ≤ szR ss := szR_get hst
    rw [dropR_get hst] at hpre
    rw [Int.zero_add]
    have hat : atI bs ((i : Nat) : Int) = some bs[i] := atI_nat hgi
    have hpl : pre.length ≤ 300 := by
      have := congrArg List.length hpre
      rw [List.length_append] at this
      omega
    have hul : us.length ≤ 300 := by rw [hp.len]; exact hpl
    repeat ac_rfl
    refine cat_one hp2 (by omega) fun wa H3 s3 hw3 => ?_
    have s13 : Same H H3 := s2.trans s3
    have hb3 := (TK.of_same s13) _ _ hS
    have e3 := s3 _ _ e2
    repeat ac_rfl
    refine ⟨.inl ⟨rfl, _, .inl (.inl e3)⟩, ?_⟩
    repeat ac_rfl
    refine st_ixt hb3 hat ?_
    repeat ac_rfl
    refine ⟨small3 (by show 2 ≤ _; omega), fun t2 ht2 => ?_⟩
    have nrt : rl ≠ t2 := fun z => by rw [← z, e3] at ht2; cases ht2
    refine ⟨rl, _, _, rfl, rfl, by rw [upd_ne nrt]; exact e3, small_lt (by omega), ?_⟩
    have s14 : Same H (upd (upd H3 t2 (.tup [.ref wa, bs[i]])) rl (.lst (us ++ [.ref t2]))) := fun b u hb => by
      rw [upd_ne (ne_of_none hb n2)]
      exact (s13.trans (same_new ht2 _)) b u hb
    have e4 : (upd (upd H3 t2 (.tup [.ref wa, bs[i]])) rl (.lst (us ++ [.ref t2]))) rl = some (.lst (us ++ [.ref t2])) := upd_same
    have k4 : TK K H3 (upd (upd H3 t2 (.tup [.ref wa, bs[i]])) rl (.lst (us ++ [.ref t2]))) := (TK.new ht2 _).trans (TK.put _ (by rw [upd_ne nrt]; exact e3) (fun _ z => (by cases z)) fun _ _ z => (by cases z))
    have et2 : SqT K (upd (upd H3 t2 (.tup [.ref wa, bs[i]])) rl (.lst (us ++ [.ref t2]))) t2 [.ref wa, bs[i]] := .inl (.inl (by rw [upd_ne (Ne.symm nrt)]; exact upd_same))
    generalize upd (upd H3 t2 (.tup [.ref wa, bs[i]])) rl (.lst (us ++ [.ref t2])) = H4 at s14 e4 k4 et2
    have hw4 := k4 _ _ hw3
    have kk4 : TK K H H4 := TK.of_same s14
    have hse4 := EncS.mono kk4 st hse
    have hp4 : EncPs K H4 (pre ++ [st]) (us ++ [.ref t2]) := EncPs.app (EncPs.mono ((TK.of_same s3).trans k4) hp) ⟨t2, .ref wa, bs[i], [], rfl, et2, hse4, rfl⟩
    repeat ac_rfl
    refine st_ixt (kk4 _ _ hS) hat ?_
    repeat ac_rfl
    refine ⟨bs[i], st, rfl, hse4, fun tb bus H5 s5 htb0 htb hbs => ?_⟩
    have hbl := hbs.len
    have hbl2 : (bodsS st).length ≤ 2 := by cases st <;> simp [bodsS]
    have s15 := s14.trans s5
    have nbr : tb ≠ rl := fun z => by rw [z, e4] at htb0; cases htb0
    repeat ac_rfl
    refine ⟨_, rfl, tb, _, rfl, .inl (.inl (.inl htb)), _, rfl, by omega, by omega, for_range (n := bus.length) (fun j σ H' => ∃ rl us o6, σ = [some (.ref pb), some (.ref pa), some (.ref rl), some (.int (i : Nat)), some (.ref wa), some (.ref tb), o6] ∧ Same H H' ∧ Same H5 H' ∧ H rl = none ∧ H' rl = some (.lst us) ∧ EncPs K H' (pre ++ [st] ++ ((bodsS st).take j).flatMap allR) us) ⟨rl, _, _, rfl, s15, fun _ _ z => z, n2, s5 _ _ e4, ?_⟩ ?_ ?_⟩
    · rw [List.take_zero, List.flatMap_nil, List.append_nil]
      exact EncPs.mono (TK.of_same s5) hp4
    · rintro j σ H6 hj ⟨rl6, us6, o6, rfl, s6, s56, n6, e6, hp6⟩
      have hgj : bus[j]? = some bus[j] := List.getElem?_eq_getElem hj
      obtain ⟨b, hb, hbe⟩ := hbs.at hgj
      have hmem := List.mem_of_getElem? hb
      have hzb := szS_bods hmem
      have htb6 := s56 _ _ htb
      have hw6 := TK.of_same (s5.trans s56) _ _ hw4
      rw [Int.zero_add]
      have hat6 : atI bus ((j : Nat) : Int) = some bus[j] := atI_nat hgj
      repeat ac_rfl
      refine st_ixl (.inl (.inl htb6)) hat6 ?_
      repeat ac_rfl
      refine cat_one hw6 (by rw [List.length_append]; show _ + 1 ≤ _; omega) fun wb H7 s7 hw7 => ?_
      repeat ac_rfl
      refine ⟨bus[j], b, wb, _, rfl, EncR.mono (TK.of_same ((s5.trans s56).trans s7)) b hbe, hw7, by omega, by rw [List.length_append, List.length_append]; show _ + 1 + 1 + _ ≤ _; omega, fun tr rus H8 s8 htr0 htr hrs => ?_⟩
      have e8 := s8 _ _ (s7 _ _ e6)
      have hlen6 : us6.length + rus.length ≤ 1000 := by
        rw [hp6.len, hrs.len]
        have a1 := allR_len b
        have a2 := subS_len st
        have a3 : (((bodsS st).take j).flatMap allR).length ≤ (subS st).length := by
          rw [subS_bods]
          have := congrArg (fun l => (l.flatMap allR).length) (List.take_append_drop j (bodsS st))
          simp only [List.flatMap_append, List.length_append] at this
          omega
        rw [List.length_append, List.length_append, List.length_singleton]
        omega
      refine ⟨rl6, tr, _, _, rfl, rfl, e8, htr, small3 (by omega), fun rn hrn => ?_⟩
      have s9 := ((s6.trans s7).trans s8).trans (same_new hrn (.lst (us6 ++ rus)))
      have nn : H rn = none := by
        cases e : H rn with
        | none => rfl
        | some u => have := ((s6.trans s7).trans s8) _ _ e; rw [hrn] at this; cases this
      repeat ac_rfl
      refine ⟨rn, _, _, rfl, s9, ((s56.trans s7).trans s8).trans (same_new hrn _), nn, upd_same, ?_⟩
      have e9 : pre ++ [st] ++ ((bodsS st).take (j + 1)).flatMap allR = (pre ++ [st] ++ ((bodsS st).take j).flatMap allR) ++ allR b := by
        rw [List.take_add_one, hb, List.flatMap_append]
        simp
      rw [e9]
      exact EncPs.app (EncPs.mono (TK.of_same ((s7.trans s8).trans (same_new hrn _))) hp6) (EncPs.mono (TK.of_same (same_new hrn _)) hrs)
    · rintro σ H6 ⟨rl6, us6, o6, rfl, s6, s56, n6, e6, hp6⟩
      rw [hbl, List.take_length, ← subS_bods] at hp6
      exact ⟨rl6, us6, _, _, _, _, _, rfl, s6, n6, e6, hp6, by rw [hpre, List.append_assoc, List.append_assoc]; rfl⟩
  · rintro σ H2 ⟨rl, us, o3, o4, o5, o6, pre, rfl, s2, n2, e2, hp, hpre⟩
    rw [dropR_end (by rw [hlen]; exact Nat.le_refl _)] at hpre
    have e : allR ss = pre := by rw [hpre]; exact List.append_nil _
    exact hN _ _ ⟨rl, us, o3, o4, o5, o6, rfl, s2, n2, e2, by rw [e]; exact hp⟩
end
end K23
namespace K23
open PySem PySem.Spec PyProof.Rows L2 Fl RT
local macro_rules | `(tactic| ac_rfl) => `(tactic| (
  first
    | with_reducible refine Stp.go ?_
    | with_reducible refine st_var (by with_unfolding_all exact rfl) ?_
    | with_reducible refine st_ixt (by with_unfolding_all assumption) (by with_unfolding_all exact rfl) ?_
    | with_reducible refine st_ixl (by with_unfolding_all assumption) (by with_unfolding_all exact rfl) ?_
    | with_reducible refine st_eq (by with_unfolding_all exact rfl) ?_
    | with_reducible refine st_bl ?_
    | with_reducible refine ifb_t ?_
    | with_reducible refine ifb_f ?_
    | with_reducible refine ifs_no (by decide +kernel) ?_
    | with_reducible refine ifs_yes rfl ?_
    | with_reducible refine ifs_yes lab_rfl ?_
    | with_reducible refine ifs_yes num_rfl ?_
    | with_reducible refine ifn_no (by decide +kernel) ?_
    | with_reducible refine ifn_yes rfl ?_
    | with_reducible refine ifnb_t ?_
    | with_reducible refine ifnb_f ?_
    | with_reducible refine st_ne (by with_unfolding_all exact rfl) ?_
    | with_reducible refine st_ix0 (by with_unfolding_all assumption) ?_))
section
variable {P : Program} {w : World} {K : PySem.W.Frag} {mg : Str → Option Value} {base : Heap} {f f50 f51 : Addr} {fd d50 d51 : FuncData}
theorem isLet_dec (s : Stm) : decide (V.str (kindS s) = V.str ("let" : Str)) = isLet s := by
  rw [← isLet_kind]
  generalize kindS s = a
  generalize ("let" : Str) = b
  by_cases h : a = b
  · subst h; simp
  · have h2 : ¬ V.str a = V.str b := fun z => h (by injection z)
    rw [decide_eq_false h2]
    exact (beq_eq_false_iff_ne.mpr h).symm
theorem LP_all (ml : BN mg) (D50 : DA K mg "_law_bodies" (top 50) ["_law_statement_here"] f50 d50) (D : DA K mg "_law_paths" (top 51) ["_law_body_here", "_law_path"] f51 d51) : ∀ n : Nat, FnOk P w K mg base CX0 (n + 1) f51 d51 ["_law_body_here", "_law_path"] (spLP K n)
  | 0 => fn_none fun vs H Q E ⟨_, _, _, _, _, _, _, h, _⟩ => absurd h (Nat.not_lt_zero _)
  | n + 1 => ok_LP ml D50 D (LP_all ml D50 D n)
theorem ok_LL (ml : BN mg) (D51 : DA K mg "_law_paths" (top 51) ["_law_body_here", "_law_path"] f51 d51) (GP : FnOk P w K mg base CX0 41 f51 d51 ["_law_body_here", "_law_path"] (spLP K 40)) (D : DA K mg "_law_lets" (top 52) ["_law_program_here"] f fd) : FnOk P w K mg base CX0 42 f fd ["_law_program_here"] (spLL K) := by
  refine D.F.ok scLL (fun vs H Q E h => ?_) (fun cdv A outer s H vs Q E hr h => ?_)
  · obtain ⟨v, ss, rfl, _⟩ := h
    rfl
  obtain ⟨v, ss, rfl, he, hsz, q⟩ := h
  refine ⟨_, pss_one (ps_ret (pe_len ml.len (pe_lc (own := [("_law_row_here", 1)]) (g := gName 1) (tt := tTest (tOp rEq (tOp (rIxT K) (tOp (rIxT K) (tVar 1) (tC (.int 1))) (tC (.int 0))) (tC (.str ("let" : Str))))) rfl scLL.nd
      (pi_list (pe_cl D51 GP (hr.mono (by omega)) (pa_cons (pv 0) (pa_cons (pe_tup pa_nil) pa_nil)))) (blkOk_by (N := ["_law_program_here", "_law_row_here"]) (sc := defScope (top 52)) (by decide +kernel)) (fun _ _ _ _ _ => pg_name (i := 1) scLL.nd rfl (Or.inl rfl))
      (fun _ _ _ _ _ => pts_one (pt_cmpR op_eq (pe_ix ix_tup (pe_ix ix_tup (pv 1) pe_int (fun _ _ => rfl)) pe_int (fun _ _ => rfl)) pe_str (nomark _))) (fun _ _ _ _ _ => pv 1)))), ?_⟩
  have hall := allR_len ss
  repeat ac_rfl
  refine ⟨_, rfl, small3 (Nat.zero_le _), fun p1 hp1 => ?_⟩
  have s1 : Same H (upd H p1 (.tup [])) := same_new hp1 _
  have ep : SqT K (upd H p1 (.tup [])) p1 [] := .inl (.inl upd_same)
  repeat ac_rfl
  refine ⟨v, ss, p1, [], rfl, EncR.mono (TK.of_same s1) ss he, ep, hsz, by show 0 + _ ≤ _; omega, fun t us H2 s2 ht0 ht hps => ⟨t, rfl, ⟨us, .inl (.inl ht)⟩, fun d hd => ?_⟩⟩
  have hul := hps.len
  refine lc_list (K := K) (a := t) (xs := us) (fun i H' => Same H2 H' ∧ ∃ ac, H' d = some (.lst ac) ∧ ac.length = cntL ((allR ss).take i)) ⟨same_new hd _, [], upd_same, by rw [List.take_zero]; rfl⟩ (fun i H' _ ⟨z, _⟩ => .inl (.inl (z _ _ ht))) ?_ ?_
  · rintro i x H' hi ⟨s3, ac, ed, hac⟩
    obtain ⟨st, a, pv, sv, hst, rfl, h1, h2⟩ := hps.at hi
    have k3 : TK K H2 H' := TK.of_same s3
    have h1' := k3 _ _ h1
    obtain ⟨a0, r0, rfl, h0⟩ := h2.kind
    have h0' := k3 _ _ h0
    have e1 : cntL ((allR ss).take (i + 1)) = cntL ((allR ss).take i) + (if isLet st = true then 1 else 0) := by
      rw [List.take_add_one, hst, cntL_app]
      show _ + cntL [st] = _
      rw [cntL_cons]; rfl
    have hil : i < (allR ss).length := (List.getElem?_eq_some_iff.mp hst).1
    have hle : cntL ((allR ss).take i) ≤ 40 := Nat.le_trans (List.length_filter_le _ _) (by rw [List.length_take]; omega)
    refine ⟨rfl, ?_⟩
    repeat ac_rfl
    rw [isLet_dec]
    refine ifb (fun k1 => ?_) (fun k1 => ?_)
    · repeat ac_rfl
      refine ⟨ac, ed, small_lt (by omega), fun b u hb => ?_, _, upd_same, ?_⟩
      · rw [upd_ne (ne_of_none hb hd)]; exact s3 b u hb
      · rw [List.length_append, List.length_singleton, hac, e1, if_pos k1]
    · rw [k1] at e1
      exact ⟨s3, ac, ed, by rw [hac, e1]; rfl⟩
  · rintro H' ⟨s3, ac, ed, hac⟩
    refine ⟨d, ac, rfl, .inl (.inl (.inl ed)), ?_⟩
    rw [hul, List.take_length, cnt_allR] at hac
    rw [hac]
    exact q _ ((s1.trans s2).trans s3)
end
end K23
namespace K23
open PySem PySem.Spec PyProof.Rows L2 Fl RT
/-- what a row ends with -/
abbrev Dr := Option Jmp
def EncD (K : PySem.W.Frag) (H : Hp) : Dr → V → Prop
  | none, v => Tp K H v [.str "normal"]
  | some j, v => EncJ K H j v
theorem EncD.mono {K : PySem.W.Frag} {H H' : Hp} (k : TK K H H') : ∀ {d : Dr} {v : V}, EncD K H d v → EncD K H' d v
  | none, _, h => Tp.mono k h
  | some _, _, h => EncJ.mono k h
def EncDs (K : PySem.W.Frag) (H : Hp) : List Dr → List V → Prop
  | [], us => us = []
  | d :: r, us => ∃ u t, us = u :: t ∧ EncD K H d u ∧ EncDs K H r t
theorem EncDs.mono {K : PySem.W.Frag} {H H' : Hp} (k : TK K H H') : ∀ {ds : List Dr} {us : List V}, EncDs K H ds us → EncDs K H' ds us
  | [], _, h => h
  | d :: r, _, ⟨u, t, e, h1, h2⟩ => ⟨u, t, e, EncD.mono k h1, EncDs.mono k h2⟩
theorem EncDs.snoc {K : PySem.W.Frag} {H : Hp} : ∀ {ds : List Dr} {us : List V} {d : Dr} {u : V}, EncDs K H ds us → EncD K H d u → EncDs K H (ds ++ [d]) (us ++ [u])
  | [], _, _, _, h, q => by cases (show _ = _ from h); exact ⟨_, _, rfl, q, rfl⟩
  | d :: r, _, _, _, ⟨u, t, e, h1, h2⟩, q => by subst e; exact ⟨u, _, rfl, h1, EncDs.snoc h2 q⟩
theorem EncDs.len {K : PySem.W.Frag} {H : Hp} : ∀ {ds : List Dr} {us : List V}, EncDs K H ds us → us.length = ds.length
  | [], _, h => by cases (show _ = _ from h); rfl
  | d :: r, _, ⟨u, t, e, h1, h2⟩ => by subst e; rw [List.length_cons, List.length_cons, EncDs.len h2]
/-- the flags' lists -/
def Rows (H : Hp) : Flg → List Addr → Prop
  | [], rs => rs = []
  | x :: r, rs => ∃ a t, rs = a :: t ∧ H a = some (.lst [.str x.1, .bl x.2]) ∧ Rows H r t
theorem Rows.len {H : Hp} : ∀ {fl : Flg} {rs : List Addr}, Rows H fl rs → rs.length = fl.length
  | [], _, h => by cases (show _ = _ from h); rfl
  | x :: r, _, ⟨a, t, e, h1, h2⟩ => by subst e; rw [List.length_cons, List.length_cons, Rows.len h2]
theorem Rows.keep {H H' : Hp} : ∀ {fl : Flg} {rs : List Addr}, Rows H fl rs → (∀ a ∈ rs, H' a = H a) → Rows H' fl rs
  | [], _, h, _ => h
  | x :: r, _, ⟨a, t, e, h1, h2⟩, k => by
    subst e
    exact ⟨a, t, rfl, by rw [k a List.mem_cons_self]; exact h1, Rows.keep h2 fun b hb => k b (List.mem_cons_of_mem _ hb)⟩
theorem Rows.mem {H : Hp} : ∀ {fl : Flg} {rs : List Addr} {a : Addr}, Rows H fl rs → a ∈ rs → ∃ vs, H a = some (.lst vs)
  | [], _, _, h, m => by cases (show _ = _ from h); exact absurd m List.not_mem_nil
  | x :: r, _, _, ⟨b, t, e, h1, h2⟩, m => by
    subst e
    rcases List.mem_cons.mp m with z | z
    · subst z; exact ⟨_, h1⟩
    · exact Rows.mem h2 z
theorem Rows.app {H : Hp} : ∀ {fl gl : Flg} {rs qs : List Addr}, Rows H fl rs → Rows H gl qs → Rows H (fl ++ gl) (rs ++ qs)
  | [], _, _, _, h, q => by cases (show _ = _ from h); exact q
  | x :: r, _, _, _, ⟨a, t, e, h1, h2⟩, q => by subst e; exact ⟨a, _, rfl, h1, Rows.app h2 q⟩
theorem Rows.at {H : Hp} : ∀ {fl : Flg} {rs : List Addr} {i : Nat} {a : Addr}, Rows H fl rs → rs[i]? = some a → ∃ x, fl[i]? = some x ∧ H a = some (.lst [.str x.1, .bl x.2])
  | [], _, i, a, h, m => by cases (show _ = _ from h); simp at m
  | x :: r, _, 0, a, ⟨b, t, e, h1, h2⟩, m => by subst e; cases (show some _ = some _ from m); exact ⟨x, rfl, h1⟩
  | x :: r, _, i + 1, a, ⟨b, t, e, h1, h2⟩, m => by subst e; exact Rows.at h2 (i := i) (show t[i]? = some a from m)
theorem Rows.take {H : Hp} : ∀ {fl : Flg} {rs : List Addr} (n : Nat), Rows H fl rs → Rows H (fl.take n) (rs.take n)
  | fl, rs, 0, _ => rfl
  | [], _, n + 1, h => by cases (show _ = _ from h); exact rfl
  | x :: r, _, n + 1, ⟨a, t, e, h1, h2⟩ => by subst e; exact ⟨a, _, rfl, h1, Rows.take n h2⟩
structure LE0 where
  fa : Addr
  la : Addr
  aa : Addr
  ea : Addr
  pa : Addr
  da : Addr
  as : List Bool
def LE0.six (p : LE0) : List Addr := [p.fa, p.la, p.aa, p.ea, p.pa, p.da]
abbrev natV (n : Nat) : V := .int (n : Nat)
/-- live and flags -/
structure LAt (K : PySem.W.Frag) (p : LE0) (H : Hp) (fl : Flg) (mk : Fl.Made) (pt : List Nat) (dn : List Dr) (rs : List Addr) : Prop where
  l : H p.la = some (.lst [.ref p.aa, .ref p.ea, .ref p.pa, .ref p.da])
  a : H p.aa = some (.lst (p.as.map V.bl))
  e : H p.ea = some (.lst (mk.map V.str))
  t : H p.pa = some (.lst (pt.map natV))
  d : ∃ ds, H p.da = some (.lst ds) ∧ EncDs K H dn ds
  f : H p.fa = some (.lst (rs.map V.ref))
  r : Rows H fl rs
  nd : (p.six ++ rs).Nodup
/-- what may change -/
def LM (p : LE0) (rs : List Addr) : Addr → Prop := fun b => b = p.fa ∨ b = p.ea ∨ b = p.pa ∨ b = p.da ∨ b ∈ rs
section
variable {K : PySem.W.Frag} {p : LE0} {H H' : Hp} {fl : Flg} {mk : Fl.Made} {pt : List Nat} {dn : List Dr} {rs : List Addr}
theorem LAt.isL (L : LAt K p H fl mk pt dn rs) {b : Addr} (h : b ∈ p.six ++ rs) : ∃ vs, H b = some (.lst vs) := by
  rcases List.mem_append.mp h with h | h
  · simp only [LE0.six, List.mem_cons, List.not_mem_nil, or_false] at h
    obtain ⟨ds, hd, _⟩ := L.d
    rcases h with h | h | h | h | h | h <;> subst h
    · exact ⟨_, L.f⟩
    · exact ⟨_, L.l⟩
    · exact ⟨_, L.a⟩
    · exact ⟨_, L.e⟩
    · exact ⟨_, L.t⟩
    · exact ⟨_, hd⟩
  · exact L.r.mem h
theorem LM.mem {b : Addr} (h : LM p rs b) : b ∈ p.six ++ rs := by
  rcases h with h | h | h | h | h
  · subst h; simp [LE0.six]
  · subst h; simp [LE0.six]
  · subst h; simp [LE0.six]
  · subst h; simp [LE0.six]
  · exact List.mem_append_right _ h
theorem LAt.tk (L : LAt K p H fl mk pt dn rs) (f : Fr (LM p rs) H H') : TK K H H' :=
  f.tk fun b z => by
    obtain ⟨vs, e⟩ := L.isL z.mem
    rw [e]
    exact ⟨fun xs e => (by cases e), fun o u e => (by cases e)⟩
theorem LAt.same (L : LAt K p H fl mk pt dn rs) (s : Same H H') : LAt K p H' fl mk pt dn rs :=
  ⟨s _ _ L.l, s _ _ L.a, s _ _ L.e, s _ _ L.t, let ⟨ds, h1, h2⟩ := L.d; ⟨ds, s _ _ h1, EncDs.mono (TK.of_same s) h2⟩, s _ _ L.f, L.r.keep fun a ha => by
    obtain ⟨vs, e⟩ := L.r.mem ha
    rw [e]; exact s _ _ e, L.nd⟩
/-- a list of it is written anew -/
theorem LAt.put (L : LAt K p H fl mk pt dn rs) {b : Addr} (hb : b ∈ p.six ++ rs) (vs : List V) : TK K H (upd H b (.lst vs)) := by
  obtain ⟨ws, e⟩ := L.isL hb
  exact TK.put _ e (fun _ z => (by cases z)) fun _ _ z => (by cases z)
theorem nd_ne {l : List Addr} (nd : l.Nodup) {i j : Nat} {a b : Addr} (hi : l[i]? = some a) (hj : l[j]? = some b) (h : i ≠ j) : a ≠ b := fun z => by
  subst z
  have hl : i < l.length := (List.getElem?_eq_some_iff.mp hi).1
  exact h ((List.getElem?_inj hl nd).mp (hi.trans hj.symm))
theorem LAt.ne (L : LAt K p H fl mk pt dn rs) {x a : Addr} (hx : x ∈ p.six) (ha : a ∈ rs) : x ≠ a := (List.nodup_append.mp L.nd).2.2 x hx a ha
/-- a call is asked for -/
theorem LAt.ev (L : LAt K p H fl mk pt dn rs) (n : Nm) : LAt K p (upd H p.ea (.lst (mk.map V.str ++ [.str n]))) fl (mk ++ [n]) pt dn rs ∧ Fr (LM p rs) H (upd H p.ea (.lst (mk.map V.str ++ [.str n]))) := by
  have k := L.put (b := p.ea) (by simp [LE0.six]) (mk.map V.str ++ [.str n])
  obtain ⟨ds, h1, h2⟩ := L.d
  refine ⟨⟨?_, ?_, ?_, ?_, ⟨ds, ?_, EncDs.mono k h2⟩, ?_, L.r.keep fun a ha => upd_ne (Ne.symm (L.ne (x := p.ea) (by simp [LE0.six]) ha)), L.nd⟩, Fr.refl.upd (.inl (.inr (.inl rfl)))⟩
  · rw [upd_ne (nd_ne L.nd (i := 1) (j := 3) rfl rfl (by decide))]; exact L.l
  · rw [upd_ne (nd_ne L.nd (i := 2) (j := 3) rfl rfl (by decide))]; exact L.a
  · rw [upd_same, List.map_append]; rfl
  · rw [upd_ne (nd_ne L.nd (i := 4) (j := 3) rfl rfl (by decide))]; exact L.t
  · rw [upd_ne (nd_ne L.nd (i := 5) (j := 3) rfl rfl (by decide))]; exact h1
  · rw [upd_ne (nd_ne L.nd (i := 0) (j := 3) rfl rfl (by decide))]; exact L.f
/-- the path changes -/
theorem LAt.pth (L : LAt K p H fl mk pt dn rs) (pt' : List Nat) : LAt K p (upd H p.pa (.lst (pt'.map natV))) fl mk pt' dn rs ∧ Fr (LM p rs) H (upd H p.pa (.lst (pt'.map natV))) := by
  have k := L.put (b := p.pa) (by simp [LE0.six]) (pt'.map natV)
  obtain ⟨ds, h1, h2⟩ := L.d
  refine ⟨⟨?_, ?_, ?_, ?_, ⟨ds, ?_, EncDs.mono k h2⟩, ?_, L.r.keep fun a ha => upd_ne (Ne.symm (L.ne (x := p.pa) (by simp [LE0.six]) ha)), L.nd⟩, Fr.refl.upd (.inl (.inr (.inr (.inl rfl))))⟩
  · rw [upd_ne (nd_ne L.nd (i := 1) (j := 4) rfl rfl (by decide))]; exact L.l
  · rw [upd_ne (nd_ne L.nd (i := 2) (j := 4) rfl rfl (by decide))]; exact L.a
  · rw [upd_ne (nd_ne L.nd (i := 3) (j := 4) rfl rfl (by decide))]; exact L.e
  · rw [upd_same]
  · rw [upd_ne (nd_ne L.nd (i := 5) (j := 4) rfl rfl (by decide))]; exact h1
  · rw [upd_ne (nd_ne L.nd (i := 0) (j := 4) rfl rfl (by decide))]; exact L.f
/-- what was done before changes -/
theorem LAt.dne (L : LAt K p H fl mk pt dn rs) {dn' : List Dr} {ds' : List V} (h : EncDs K H dn' ds') : LAt K p (upd H p.da (.lst ds')) fl mk pt dn' rs ∧ Fr (LM p rs) H (upd H p.da (.lst ds')) := by
  have k := L.put (b := p.da) (by simp [LE0.six]) ds'
  refine ⟨⟨?_, ?_, ?_, ?_, ⟨ds', upd_same, EncDs.mono k h⟩, ?_, L.r.keep fun a ha => upd_ne (Ne.symm (L.ne (x := p.da) (by simp [LE0.six]) ha)), L.nd⟩, Fr.refl.upd (.inl (.inr (.inr (.inr (.inl rfl)))))⟩
  · rw [upd_ne (nd_ne L.nd (i := 1) (j := 5) rfl rfl (by decide))]; exact L.l
  · rw [upd_ne (nd_ne L.nd (i := 2) (j := 5) rfl rfl (by decide))]; exact L.a
  · rw [upd_ne (nd_ne L.nd (i := 3) (j := 5) rfl rfl (by decide))]; exact L.e
  · rw [upd_ne (nd_ne L.nd (i := 4) (j := 5) rfl rfl (by decide))]; exact L.t
  · rw [upd_ne (nd_ne L.nd (i := 0) (j := 5) rfl rfl (by decide))]; exact L.f
/-- the flags' row changes: rs' are its new lists -/
theorem LAt.flg (L : LAt K p H fl mk pt dn rs) {fl' : Flg} {rs' : List Addr} (h : Rows H fl' rs') (nd : (p.six ++ rs').Nodup) : LAt K p (upd H p.fa (.lst (rs'.map V.ref))) fl' mk pt dn rs' ∧ Fr (LM p rs) H (upd H p.fa (.lst (rs'.map V.ref))) := by
  have k := L.put (b := p.fa) (by simp [LE0.six]) (rs'.map V.ref)
  obtain ⟨ds, h1, h2⟩ := L.d
  refine ⟨⟨?_, ?_, ?_, ?_, ⟨ds, ?_, EncDs.mono k h2⟩, upd_same, h.keep fun a ha => upd_ne fun z => (List.nodup_append.mp nd).2.2 p.fa (by simp [LE0.six]) a ha z.symm, nd⟩, Fr.refl.upd (.inl (.inl rfl))⟩
  · rw [upd_ne (nd_ne L.nd (i := 1) (j := 0) rfl rfl (by decide))]; exact L.l
  · rw [upd_ne (nd_ne L.nd (i := 2) (j := 0) rfl rfl (by decide))]; exact L.a
  · rw [upd_ne (nd_ne L.nd (i := 3) (j := 0) rfl rfl (by decide))]; exact L.e
  · rw [upd_ne (nd_ne L.nd (i := 4) (j := 0) rfl rfl (by decide))]; exact L.t
  · rw [upd_ne (nd_ne L.nd (i := 5) (j := 0) rfl rfl (by decide))]; exact h1
/-- a flag is written -/
theorem Rows.set {H : Hp} : ∀ {fl : Flg} {rs : List Addr} {i : Nat} {a : Addr} {x : Nm × Bool}, Rows H fl rs → rs.Nodup → rs[i]? = some a → Rows (upd H a (.lst [.str x.1, .bl x.2])) (fl.set i x) rs
  | [], _, i, a, x, h, _, m => by cases (show _ = _ from h); simp at m
  | y :: r, _, 0, a, x, ⟨b, t, e, h1, h2⟩, nd, m => by
    subst e
    have e : b = a := Option.some.inj m
    subst e
    exact ⟨b, t, rfl, upd_same, h2.keep fun c hc => upd_ne fun z => (List.nodup_cons.mp nd).1 (by rw [← z]; exact hc)⟩
  | y :: r, _, i + 1, a, x, ⟨b, t, e, h1, h2⟩, nd, m => by
    subst e
    have m' : t[i]? = some a := m
    have hm := List.mem_of_getElem? m'
    refine ⟨b, t, rfl, ?_, Rows.set h2 (List.nodup_cons.mp nd).2 m'⟩
    rw [upd_ne fun z => (List.nodup_cons.mp nd).1 (by rw [z]; exact hm)]; exact h1
theorem LAt.setR (L : LAt K p H fl mk pt dn rs) {i : Nat} {a : Addr} {x : Nm × Bool} (h : rs[i]? = some a) : LAt K p (upd H a (.lst [.str x.1, .bl x.2])) (fl.set i x) mk pt dn rs ∧ Fr (LM p rs) H (upd H a (.lst [.str x.1, .bl x.2])) := by
  have ha := List.mem_of_getElem? h
  have k := L.put (b := a) (List.mem_append_right _ ha) [.str x.1, .bl x.2]
  obtain ⟨ds, h1, h2⟩ := L.d
  have n : ∀ y ∈ p.six, y ≠ a := fun y hy => L.ne hy ha
  refine ⟨⟨?_, ?_, ?_, ?_, ⟨ds, ?_, EncDs.mono k h2⟩, ?_, L.r.set (List.nodup_append.mp L.nd).2.1 h, L.nd⟩, Fr.refl.upd (.inl (.inr (.inr (.inr (.inr ha)))))⟩
  · rw [upd_ne (n _ (by simp [LE0.six]))]; exact L.l
  · rw [upd_ne (n _ (by simp [LE0.six]))]; exact L.a
  · rw [upd_ne (n _ (by simp [LE0.six]))]; exact L.e
  · rw [upd_ne (n _ (by simp [LE0.six]))]; exact L.t
  · rw [upd_ne (n _ (by simp [LE0.six]))]; exact h1
  · rw [upd_ne (n _ (by simp [LE0.six]))]; exact L.f
end
end K23
namespace K23
open PySem PySem.Spec PyProof.Rows L2 Fl RT
local macro_rules | `(tactic| ac_rfl) => `(tactic| (
  first
    | with_reducible refine Stp.go ?_
    | with_reducible refine st_var (by with_unfolding_all exact rfl) ?_
    | with_reducible refine st_ixt (by with_unfolding_all assumption) (by with_unfolding_all exact rfl) ?_
    | with_reducible refine st_ixl (by with_unfolding_all assumption) (by with_unfolding_all exact rfl) ?_
    | with_reducible refine st_eq (by with_unfolding_all exact rfl) ?_
    | with_reducible refine st_bl ?_
    | with_reducible refine ifb_t ?_
    | with_reducible refine ifb_f ?_
    | with_reducible refine ifs_no (by decide +kernel) ?_
    | with_reducible refine ifs_yes rfl ?_
    | with_reducible refine ifs_yes lab_rfl ?_
    | with_reducible refine ifs_yes num_rfl ?_
    | with_reducible refine ifn_no (by decide +kernel) ?_
    | with_reducible refine ifn_yes rfl ?_
    | with_reducible refine ifnb_t ?_
    | with_reducible refine ifnb_f ?_
    | with_reducible refine st_ne (by with_unfolding_all exact rfl) ?_
    | with_reducible refine st_ix0 (by with_unfolding_all assumption) ?_))
/-- the lists of the flags of that name -/
def found : Flg → List Addr → Nm → List V
  | x :: r, a :: t, n => (if x.1 = n then [V.ref a] else []) ++ found r t n
  | _, _, _ => []
theorem found_app {n : Nm} : ∀ {f g : Flg} {rs qs : List Addr}, rs.length = f.length → found (f ++ g) (rs ++ qs) n = found f rs n ++ found g qs n
  | [], g, [], qs, _ => rfl
  | [], g, a :: t, qs, h => by simp at h
  | x :: r, g, [], qs, h => by simp at h
  | x :: r, g, a :: t, qs, h => by
    show (if x.1 = n then [V.ref a] else []) ++ found (r ++ g) (t ++ qs) n = ((if x.1 = n then [V.ref a] else []) ++ found r t n) ++ found g qs n
    rw [found_app (by simpa using h), List.append_assoc]
theorem found_len {n : Nm} : ∀ {f : Flg} {rs : List Addr}, (found f rs n).length ≤ f.length
  | [], _ => Nat.zero_le _
  | x :: r, [] => Nat.zero_le _
  | x :: r, a :: t => by
    have ih := found_len (n := n) (f := r) (rs := t)
    show ((if x.1 = n then [V.ref a] else []) ++ found r t n).length ≤ r.length + 1
    rw [List.length_append]
    split <;> simp <;> omega
theorem found_none {n : Nm} : ∀ {f : Flg} {rs : List Addr}, n ∉ nms f → found f rs n = []
  | [], _, _ => rfl
  | x :: r, [], _ => rfl
  | x :: r, a :: t, h => by
    simp only [nms, List.map_cons, List.mem_cons, not_or] at h
    show (if x.1 = n then [V.ref a] else []) ++ found r t n = []
    rw [if_neg (Ne.symm h.1), found_none h.2]; rfl
theorem last_hit {n : Nm} : ∀ {f : Flg} {rs : List Addr}, rs.length = f.length → n ∈ nms f → ∃ (i : Nat) (a : Addr) (v : Bool), rs[i]? = some a ∧ f[i]? = some (n, v) ∧ lookF f n = some v ∧ (∀ b, setF f n b = f.set i (n, b)) ∧ (found f rs n)[(found f rs n).length - 1]? = some (.ref a) ∧ found f rs n ≠ []
  | [], _, _, h => by simp [nms] at h
  | x :: r, [], h, _ => by simp at h
  | (x, v) :: r, a :: t, h, m => by
    have ht : t.length = r.length := by simpa using h
    by_cases hr : n ∈ nms r
    · obtain ⟨i, b, w, h1, h2, h3, h4, h5, h6⟩ := last_hit ht hr
      refine ⟨i + 1, b, w, h1, h2, ?_, fun c => ?_, ?_, ?_⟩
      · unfold lookF; rw [h3]
      · unfold setF; rw [if_pos (by rw [h3]; rfl), h4 c]; rfl
      · show ((if x = n then [V.ref a] else []) ++ found r t n)[((if x = n then [V.ref a] else []) ++ found r t n).length - 1]? = _
        have hp : 0 < (found r t n).length := List.length_pos_iff.mpr h6
        rw [List.getElem?_append_right (by rw [List.length_append]; omega), List.length_append]
        rw [show (if x = n then [V.ref a] else []).length + (found r t n).length - 1 - (if x = n then [V.ref a] else []).length = (found r t n).length - 1 by omega]
        exact h5
      · show (if x = n then [V.ref a] else []) ++ found r t n ≠ []
        intro z
        exact h6 (List.append_eq_nil_iff.mp z).2
    · have hx : x = n := by
        simp only [nms, List.map_cons, List.mem_cons] at m
        rcases m with m | m
        · exact m.symm
        · exact absurd m hr
      subst hx
      have hf := found_none (rs := t) hr
      refine ⟨0, a, v, rfl, rfl, ?_, fun c => ?_, ?_, ?_⟩
      · unfold lookF; rw [lookF_none hr]; simp
      · unfold setF; rw [if_neg (by rw [lookF_none hr]; simp), if_pos rfl]; rfl
      · show ((if x = x then [V.ref a] else []) ++ found r t x)[((if x = x then [V.ref a] else []) ++ found r t x).length - 1]? = _
        rw [hf, if_pos rfl]; rfl
      · show (if x = x then [V.ref a] else []) ++ found r t x ≠ []
        rw [if_pos rfl]; simp
def PtOk (pt : List Nat) : Prop := ∀ k ∈ pt, k < 100
theorem PtOk.snoc {pt : List Nat} {k : Nat} (h : PtOk pt) (hk : k < 100) : PtOk (pt ++ [k]) := fun x hx => by
  rcases List.mem_append.mp hx with z | z
  · exact h x z
  · rw [List.mem_singleton.mp z]; exact hk
/-- what a condition gives to the law -/
def spLV (K : PySem.W.Frag) (n : Nat) : Sp := fun vs H Q _ => ∃ (p : LE0) (fl : Flg) (mk : Fl.Made) (pt : List Nat) (dn : List Dr) (rs : List Addr) (cv : V) (c : Cond), vs = [cv, .ref p.fa, .ref p.la] ∧ LAt K p H fl mk pt dn rs ∧ EncC K H c cv ∧ wfC (nms fl) c ∧ szC c < n ∧
  mk.length ≤ p.as.length ∧ p.as.length ≤ 400 ∧ fl.length ≤ 100 ∧ pt.length + szC c ≤ 450 ∧ szC c ≤ 50 ∧ PtOk pt ∧
  (∀ b m, evC p.as fl c mk = (some b, m) → ∀ H', Fr (LM p rs) H H' → LAt K p H' fl m pt dn rs → Q (.bl b) H') ∧
  (∀ m, evC p.as fl c mk = (none, m) → ∀ H' pt', Fr (LM p rs) H H' → LAt K p H' fl m pt' dn rs → PtOk pt' → pt'.length ≤ pt.length + szC c → Q .non H')
theorem scLV : FnScope ["_law_condition_here", "_law_flags", "_law_live", "_law_found", "_law_value_here", "_law_k", "_law_pair"] ["_law_condition_here", "_law_flags", "_law_live"] (defScope (top 41)) := ⟨rfl, rfl, rfl, by decide +kernel, rfl, by decide +kernel, by decide +kernel⟩
end K23
namespace K23
open PySem PySem.Spec PyProof.Rows L2 Fl RT
local macro_rules | `(tactic| ac_rfl) => `(tactic| (
  first
    | with_reducible refine Stp.go ?_
    | with_reducible refine st_var (by with_unfolding_all exact rfl) ?_
    | with_reducible refine st_ixt (by with_unfolding_all assumption) (by with_unfolding_all exact rfl) ?_
    | with_reducible refine st_ixl (by with_unfolding_all assumption) (by with_unfolding_all exact rfl) ?_
    | with_reducible refine st_eq (by with_unfolding_all exact rfl) ?_
    | with_reducible refine st_bl ?_
    | with_reducible refine ifb_t ?_
    | with_reducible refine ifb_f ?_
    | with_reducible refine ifs_no (by decide +kernel) ?_
    | with_reducible refine ifs_yes rfl ?_
    | with_reducible refine ifs_yes lab_rfl ?_
    | with_reducible refine ifs_yes num_rfl ?_
    | with_reducible refine ifn_no (by decide +kernel) ?_
    | with_reducible refine ifn_yes rfl ?_
    | with_reducible refine ifnb_t ?_
    | with_reducible refine ifnb_f ?_
    | with_reducible refine st_ne (by with_unfolding_all exact rfl) ?_
    | with_reducible refine st_ix0 (by with_unfolding_all assumption) ?_))
section
variable {P : Program} {w : World} {K : PySem.W.Frag} {mg : Str → Option Value} {base : Heap} {f : Addr} {fd : FuncData}
theorem found_lc {tl : TE} {i j : Nat} {σ : L2.St} {p : LE0} {H : Hp} {fl : Flg} {mk : Fl.Made} {pt : List Nat} {dn : List Dr} {rs : List Addr} {a0 : Addr} {vs : List V} {n : Nm} {Q : VK} (L : LAt K p H fl mk pt dn rs) (htl : ∀ R : VK, R (.ref p.fa) H → tl σ H R) (hj : σ[j]? = some (some (.ref a0))) (hij : i ≠ j) (hi : i < σ.length)
    (h0 : SqT K H a0 vs) (h1 : atI vs 1 = some (.str n)) (hfl : fl.length ≤ 100) (q : ∀ d H', Same H H' → H' d = some (.lst (found fl rs n)) → Q (.ref d) H') :
    tLc (iList K tl) (gName i) (tTest (tOp rEq (tOp (rIxL K) (tVar i) (tC (.int 0))) (tOp (rIxT K) (tVar j) (tC (.int 1))))) (tVar i) [i] σ H Q := by
  refine htl _ ⟨p.fa, rfl, ⟨_, .inl (.inl L.f)⟩, fun d hd => ?_⟩
  have hrl := L.r.len
  refine lc_list (K := K) (a := p.fa) (xs := rs.map V.ref) (fun k H' => Same H H' ∧ H' d = some (.lst (found (fl.take k) (rs.take k) n))) ⟨same_new hd _, upd_same⟩ (fun k H' _ ⟨z, _⟩ => .inl (.inl (z _ _ L.f))) ?_ ?_
  · rintro k x H' hk ⟨s1, ed⟩
    rw [List.getElem?_map] at hk
    obtain ⟨a, ha, rfl⟩ := Option.map_eq_some_iff.mp hk
    obtain ⟨y, hy, hya⟩ := L.r.at ha
    have e1 : found (fl.take (k + 1)) (rs.take (k + 1)) n = found (fl.take k) (rs.take k) n ++ (if y.1 = n then [V.ref a] else []) := by
      rw [List.take_add_one, List.take_add_one, hy, ha]
      rw [found_app (by rw [List.length_take, List.length_take, hrl])]
      show _ ++ ((if y.1 = n then [V.ref a] else []) ++ []) = _
      rw [List.append_nil]
    refine ⟨?_, ?_⟩
    · show (((σ.set i none).set i (some (.ref a))).set i none) = σ.set i none
      rw [List.set_set, List.set_set]
    have hself : ((wipe σ [i]).set i (some (.ref a)))[i]? = some (some (.ref a)) := List.getElem?_set_self (by rw [wipe_length]; exact hi)
    have hoth : ((wipe σ [i]).set i (some (.ref a)))[j]? = some (some (.ref a0)) := by
      show ((σ.set i none).set i (some (.ref a)))[j]? = _
      rw [List.set_set, List.getElem?_set_ne hij]; exact hj
    have hl3 : (found (fl.take k) (rs.take k) n).length ≤ 100 := Nat.le_trans found_len (by rw [List.length_take]; omega)
    refine ⟨_, hself, a, _, 0, .str y.1, rfl, rfl, .inl (.inl (s1 _ _ hya)), rfl, _, hoth, a0, vs, 1, .str n, rfl, rfl, (TK.of_same s1) _ _ h0, h1, ?_⟩
    refine st_eq (by with_unfolding_all exact rfl) ?_
    refine ⟨_, rfl, ?_⟩
    by_cases hc : y.1 = n
    · refine ifb_yes (decide_eq_true (by rw [hc])) ?_
      rw [if_pos hc] at e1
      refine ⟨_, hself, _, ed, small_lt (by omega), fun b u hb => ?_, ?_⟩
      · rw [upd_ne (ne_of_none hb hd)]; exact s1 b u hb
      · rw [upd_same, e1]
    · refine ifb_no (decide_eq_false (fun z => hc (by injection z))) ?_
      rw [if_neg hc, List.append_nil] at e1
      exact ⟨s1, by rw [e1]; exact ed⟩
  · rintro H' ⟨s1, ed⟩
    rw [List.length_map, hrl, List.take_length, ← hrl, List.take_length] at ed
    exact q d H' s1 ed
theorem szCs_len : ∀ cs : Conds, (toL cs).length ≤ szCs cs
  | .nil => Nat.le_refl _
  | .cons c r => by
    have ih := szCs_len r
    have h : 1 ≤ szC c := by cases c <;> simp [szC]
    show (toL r).length + 1 ≤ szC c + szCs r
    omega
theorem ok_LV {n : Nat} (ml : BN mg) (D : DA K mg "_law_value" (top 41) ["_law_condition_here", "_law_flags", "_law_live"] f fd) (G : FnOk P w K mg base CX0 (n + 1) f fd ["_law_condition_here", "_law_flags", "_law_live"] (spLV K n)) : FnOk P w K mg base CX0 (n + 2) f fd ["_law_condition_here", "_law_flags", "_law_live"] (spLV K (n + 1)) := by
  refine D.F.ok scLV (fun vs H Q E h => ?_) (fun cdv A outer s H vs Q E hr h => ?_)
  · obtain ⟨p, fl, mk, pt, dn, rs, cv, c, rfl, _⟩ := h
    rfl
  obtain ⟨p, fl, mk, pt, dn, rs, cv, c, rfl, L, he, hw, hsz, hm, ha, hfl, hpt, hsc, hpo, q1, q2⟩ := h
  refine ⟨_, (pss_cons (ps_if (pt_cmpR op_eq (pe_ix ix_tup (pv 0) pe_int (fun _ _ => rfl)) pe_str (nomark _)) (pss_cons (ps_expr (pe_bm PySem.F.plainAttrs_list PySem.F.slot_list_append PySem.F.type_list_append mt_append (pe_ix ix_list (pv 2) pe_int (fun _ _ => rfl)) (pa_cons (pe_ix ix_tup (pv 0) pe_int (fun _ _ => rfl)) pa_nil)))
      (pss_cons (ps_if (pt_cmpR op_gt (pe_len ml.len (pe_ix ix_list (pv 2) pe_int (fun _ _ => rfl))) (pe_len ml.len (pe_ix ix_list (pv 2) pe_int (fun _ _ => rfl))) (nomark _)) (pss_one (ps_ret pe_non)) pss_nil)
      (pss_one (ps_ret (pe_ix ix_list (pe_ix ix_list (pv 2) pe_int (fun _ _ => rfl)) (pe_op op_sub (pe_len ml.len (pe_ix ix_list (pv 2) pe_int (fun _ _ => rfl))) pe_int) (fun _ _ => rfl)))))) pss_nil)
      (pss_cons (ps_if (pt_cmpR op_eq (pe_ix ix_tup (pv 0) pe_int (fun _ _ => rfl)) pe_str (nomark _)) (pss_cons (ps_setLc (i := 3) (own := [("_law_pair", 6)]) (g := gName 6) (tt := tTest (tOp rEq (tOp (rIxL K) (tVar 6) (tC (.int 0))) (tOp (rIxT K) (tVar 0) (tC (.int 1))))) (te := tVar 6) rfl scLV.nd rfl rfl (sw_true rfl rfl rfl (by decide +kernel)) (pi_list (pv 1)) (blkOk_by (N := ["_law_condition_here", "_law_flags", "_law_live", "_law_found", "_law_value_here", "_law_k", "_law_pair"]) (sc := defScope (top 41)) (by decide +kernel)) (fun _ _ _ _ _ => pg_name (i := 6) scLV.nd rfl (Or.inl rfl)) (fun _ _ _ _ _ => pts_one (pt_cmpR op_eq (pe_ix ix_list (pv 6) pe_int (fun _ _ => rfl)) (pe_ix ix_tup (pv 0) pe_int (fun _ _ => rfl)) (nomark _))) (fun _ _ _ _ _ => pv 6))
      (pss_one (ps_ret (pe_ix ix_list (pe_ix ix_list (pv 3) (pe_op op_sub (pe_len ml.len (pv 3)) pe_int) (fun _ _ => rfl)) pe_int (fun _ _ => rfl))))) pss_nil)
      (pss_cons (ps_if (pt_cmpR op_eq (pe_ix ix_tup (pv 0) pe_int (fun _ _ => rfl)) pe_str (nomark _)) (pss_cons (ps_set (i := 4) scLV.nd rfl (Or.inl rfl) (pe_cl D G (hr.mono (by omega)) (pa_cons (pe_ix ix_tup (pv 0) pe_int (fun _ _ => rfl)) (pa_cons (pv 1) (pa_cons (pv 2) pa_nil)))))
      (pss_cons (ps_if (pt_cmp (pc_isN (pv 4))) (pss_one (ps_ret pe_non)) pss_nil)
      (pss_one (ps_ret (pe_not (pv 4)))))) pss_nil)
      (pss_cons (ps_for PassesOwn.never rfl (pi_range1 rfl ml.range (pa_cons (pe_len ml.len (pe_ix ix_tup (pv 0) pe_int (fun _ _ => rfl))) pa_nil)) (pg_name (i := 5) scLV.nd rfl (Or.inl rfl)) (pss_cons (ps_expr (pe_bm PySem.F.plainAttrs_list PySem.F.slot_list_append PySem.F.type_list_append mt_append (pe_ix ix_list (pv 2) pe_int (fun _ _ => rfl)) (pa_cons (pv 5) pa_nil)))
      (pss_cons (ps_set (i := 4) scLV.nd rfl (Or.inl rfl) (pe_cl D G (hr.mono (by omega)) (pa_cons (pe_ix ix_tup (pe_ix ix_tup (pv 0) pe_int (fun _ _ => rfl)) (pv 5) (fun _ _ => rfl)) (pa_cons (pv 1) (pa_cons (pv 2) pa_nil)))))
      (pss_cons (ps_if (pt_cmp (pc_isN (pv 4))) (pss_one (ps_ret pe_non)) pss_nil)
      (pss_cons (ps_expr (pe_bm0 PySem.F.plainAttrs_list PySem.F.slot_list_pop PySem.F.type_list_pop mt_pop (pe_ix ix_list (pv 2) pe_int (fun _ _ => rfl))))
      (pss_one (ps_if (pt_cmpR op_eq (pv 4) (pe_cmpR op_eq (pe_ix ix_tup (pv 0) pe_int (fun _ _ => rfl)) pe_str (nomark _)) (nomark _)) (pss_one (ps_ret (pv 4))) pss_nil)))))))
      (pss_one (ps_ret (pe_cmpR op_eq (pe_ix ix_tup (pv 0) pe_int (fun _ _ => rfl)) pe_str (nomark _)))))))), ?_⟩
  have hl : SqL K H p.la [.ref p.aa, .ref p.ea, .ref p.pa, .ref p.da] := .inl (.inl L.l)
  cases c with
  | call m =>
    obtain ⟨a0, rfl, h0⟩ := he
    repeat ac_rfl
    refine ⟨.inl ⟨rfl, _, .inl (.inl L.e)⟩, ?_⟩
    repeat ac_rfl
    refine ⟨p.ea, _, _, rfl, rfl, L.e, small_lt (by rw [List.length_map]; omega), ?_⟩
    obtain ⟨L2, f2⟩ := L.ev m
    generalize upd H p.ea (.lst (mk.map V.str ++ [.str m])) = H2 at L2 f2
    have hl2 : SqL K H2 p.la [.ref p.aa, .ref p.ea, .ref p.pa, .ref p.da] := .inl (.inl L2.l)
    repeat ac_rfl
    refine ⟨p.ea, _, rfl, .inl (.inl (.inl L2.e)), ?_⟩
    repeat ac_rfl
    refine ⟨p.aa, _, rfl, .inl (.inl (.inl L2.a)), ?_⟩
    repeat ac_rfl
    rw [List.length_map, List.length_map, List.length_append, List.length_singleton]
    have ec : evC p.as fl (.call m) mk = (p.as[mk.length]?, mk ++ [m]) := by simp only [evC]
    by_cases hlt : mk.length = p.as.length
    · refine ifb_yes (decide_eq_true (by omega)) ?_
      repeat ac_rfl
      exact q2 _ (by rw [ec, hlt, List.getElem?_eq_none (Nat.le_refl _)]) H2 pt f2 L2 hpo (Nat.le_add_right _ _)
    · have hlt2 : mk.length < p.as.length := by omega
      refine ifb_no (decide_eq_false (by omega)) ?_
      repeat ac_rfl
      refine ⟨p.ea, _, rfl, .inl (.inl (.inl L2.e)), ?_⟩
      repeat ac_rfl
      have e9 : (((List.map V.str (mk ++ [m])).length : Nat) : Int) - 1 = ((mk.length : Nat) : Int) := by
        rw [List.length_map, List.length_append, List.length_singleton]; omega
      rw [e9]
      refine st_ixl (.inl (.inl L2.a)) (atI_nat (by rw [List.getElem?_map, List.getElem?_eq_getElem hlt2]; rfl)) ?_
      repeat ac_rfl
      exact q1 p.as[mk.length] _ (by rw [ec, List.getElem?_eq_getElem hlt2]) H2 f2 L2
  | flag m =>
    obtain ⟨a0, rfl, h0⟩ := he
    repeat ac_rfl
    refine found_lc L (fun R h => ⟨_, rfl, h⟩) rfl (by decide) (by show 6 < 7; decide) h0 rfl hfl fun d H2 s2 ed => ?_
    have hw' : m ∈ nms fl := hw
    obtain ⟨i, a, v, h1, h2, h3, _, h5, h6⟩ := last_hit L.r.len hw'
    have L2 := L.same s2
    obtain ⟨y, hy, hya⟩ := L2.r.at h1
    rw [h2] at hy
    cases hy
    have hlp : 0 < (found fl rs m).length := List.length_pos_iff.mpr h6
    have hat : atI (found fl rs m) (((found fl rs m).length : Int) - 1) = some (.ref a) := by
      have e : (((found fl rs m).length : Int) - 1) = (((found fl rs m).length - 1 : Nat) : Int) := by omega
      rw [e]; exact atI_nat h5
    repeat ac_rfl
    refine ⟨d, _, rfl, .inl (.inl (.inl ed)), ?_⟩
    repeat ac_rfl
    refine st_ixl (.inl (.inl ed)) hat ?_
    repeat ac_rfl
    refine st_ixl (.inl (.inl hya)) rfl ?_
    repeat ac_rfl
    exact q1 v mk (by simp only [evC, h3]; rfl) H2 (Fr.of_same s2) L2
  | not d =>
    obtain ⟨u, ⟨a0, rfl, h0⟩, hd⟩ := he
    have ez : szC (.not d) = szC d + 1 := rfl
    rw [ez] at hsz hpt hsc q2
    repeat ac_rfl
    refine ⟨p, fl, mk, pt, dn, rs, u, d, rfl, L, hd, hw, by omega, hm, ha, hfl, by omega, by omega, hpo, fun b m hb H2 f2 L2 => ?_, fun m hb H2 pt' f2 L2 ho hle => ?_⟩
    · repeat ac_rfl
      refine ifs_no ne_non_bl ?_
      repeat ac_rfl
      refine ⟨_, rfl, b, rfl, ?_⟩
      exact q1 (!b) m (by simp only [evC, hb]) H2 f2 L2
    · repeat ac_rfl
      exact q2 m (by simp only [evC, hb]) H2 pt' f2 L2 ho (by omega)
  | and cs =>
    obtain ⟨b0, ws, ⟨a0, rfl, h0⟩, h1, h2⟩ := he
    have hz : szCs cs + 1 < n + 1 := hsz
    have ez : szC (.and cs) = szCs cs + 1 := rfl
    have hlen := h2.len
    have hcl := szCs_len cs
    repeat ac_rfl
    refine ⟨_, rfl, a0, _, (1 : Int), _, rfl, rfl, h0, rfl, b0, _, rfl, .inr h1, _, rfl, by omega, by omega, for_range (n := ws.length) (fun i σ H' => (∃ o4 o5, σ = [some (.ref a0), some (.ref p.fa), some (.ref p.la), none, o4, o5, none]) ∧ Fr (LM p rs) H H' ∧ ∃ m, LAt K p H' fl m pt dn rs ∧ m.length ≤ p.as.length ∧ evC p.as fl (.and cs) mk = evCs p.as fl false (dropC cs i) m) ⟨⟨none, none, rfl⟩, Fr.refl, mk, L, hm, by cases cs <;> rfl⟩ ?_ ?_⟩
    · rintro i σ H2 hi ⟨⟨o4, o5, rfl⟩, f2, m, L2, hm2, ee⟩
      have hgi : ws[i]? = some ws[i] := List.getElem?_eq_getElem hi
      obtain ⟨d, hd0, hde⟩ := h2.at hgi
      have hmem := List.mem_of_getElem? hd0
      rw [dropC_get hd0] at ee
      have k2 := L.tk f2
      have h02 := k2 _ _ h0
      have hl2 : SqL K H2 p.la [.ref p.aa, .ref p.ea, .ref p.pa, .ref p.da] := .inl (.inl L2.l)
      have hiz : i < 100 := by
        have := szCs_len cs
        omega
      have hszd : szC d ≤ szCs cs := szCs_mem hmem
      rw [Int.zero_add]
      repeat ac_rfl
      refine ⟨.inl ⟨rfl, _, .inl (.inl L2.t)⟩, ?_⟩
      repeat ac_rfl
      refine ⟨p.pa, _, _, rfl, rfl, L2.t, small_lt (by rw [List.length_map]; omega), ?_⟩
      have e1 : pt.map natV ++ [V.int ((i : Nat) : Int)] = (pt ++ [i]).map natV := by rw [List.map_append]; rfl
      rw [e1]
      obtain ⟨L3, f3⟩ := L2.pth (pt ++ [i])
      generalize upd H2 p.pa (.lst ((pt ++ [i]).map natV)) = H3 at L3 f3
      have k3 := k2.trans (L2.tk f3)
      have h03 := k3 _ _ h0
      repeat ac_rfl
      refine st_ixt (k3 _ _ h1) (atI_nat hgi) ?_
      repeat ac_rfl
      refine ⟨p, fl, m, pt ++ [i], dn, rs, ws[i], d, rfl, L3, EncC.mono k3 d hde, wfCs_mem hw hmem, by omega, hm2, ha, hfl, by rw [List.length_append, List.length_singleton]; omega, by omega, hpo.snoc hiz, fun b m2 hb H4 f4 L4 => ?_, fun m2 hb H4 pt' f4 L4 ho hle => ?_⟩
      · have e3 : evCs p.as fl false (.cons d (dropC cs (i + 1))) m = (if b = false then (some false, m2) else evCs p.as fl false (dropC cs (i + 1)) m2) := by
          show (match evC p.as fl d m with | (none, m) => _ | (some b, m) => if b = false then (some false, m) else evCs p.as fl false (dropC cs (i + 1)) m) = _
          rw [hb]
        rw [e3] at ee
        have hl4 : SqL K H4 p.la [.ref p.aa, .ref p.ea, .ref p.pa, .ref p.da] := .inl (.inl L4.l)
        have k4 := k3.trans (L3.tk f4)
        have h04 := k4 _ _ h0
        repeat ac_rfl
        refine ifs_no ne_non_bl ?_
        repeat ac_rfl
        refine ⟨.inl ⟨rfl, _, .inl (.inl L4.t)⟩, ?_⟩
        refine ⟨p.pa, _, natV i, rfl, rfl, L4.t, by rw [List.map_append, List.length_append]; show (_ ++ [natV i])[_]? = _; rw [List.getElem?_append_right (by simp)]; simp, ?_⟩
        have e5 : ((pt ++ [i]).map natV).dropLast = pt.map natV := by rw [List.map_append, List.map_singleton, List.dropLast_concat]
        rw [e5]
        obtain ⟨L5, f5⟩ := L4.pth pt
        generalize upd H4 p.pa (.lst (pt.map natV)) = H5 at L5 f5
        have k5 := k4.trans (L4.tk f5)
        have h05 := k5 _ _ h0
        have F5 := ((f2.trans f3).trans f4).trans f5
        repeat ac_rfl
        have e6 : decide (V.str ("and" : Str) = V.str ("or" : Str)) = false := by decide +kernel
        rw [e6]
        by_cases hb0 : b = false
        · subst hb0
          refine ifb_yes (decide_eq_true rfl) ?_
          repeat ac_rfl
          exact q1 false m2 (by rw [ee]; rfl) _ F5 L5
        · refine ifb_no (decide_eq_false (fun z => hb0 (by injection z))) ?_
          rw [if_neg hb0] at ee
          exact ⟨⟨_, _, rfl⟩, F5, m2, L5, evC_len p.as _ hm2 hb, ee⟩
      · repeat ac_rfl
        refine q2 m2 ?_ H4 pt' ((f2.trans f3).trans f4) L4 ho (by rw [List.length_append, List.length_singleton] at hle; omega)
        rw [ee]
        show (match evC p.as fl d m with | (none, m) => (none, m) | (some b, m) => if b = false then (some false, m) else evCs p.as fl false (dropC cs (i + 1)) m) = _
        rw [hb]
    · rintro σ H2 ⟨⟨o4, o5, rfl⟩, f2, m, L2, hm2, ee⟩
      have h02 := (L.tk f2) _ _ h0
      rw [dropC_end (by rw [hlen]; exact Nat.le_refl _)] at ee
      repeat ac_rfl
      have e4 : decide (V.str ("and" : Str) = V.str ("and" : Str)) = true := decide_eq_true rfl
      rw [e4]
      exact q1 true m ee _ f2 L2
  | or cs =>
    obtain ⟨b0, ws, ⟨a0, rfl, h0⟩, h1, h2⟩ := he
    have hz : szCs cs + 1 < n + 1 := hsz
    have ez : szC (.or cs) = szCs cs + 1 := rfl
    have hlen := h2.len
    have hcl := szCs_len cs
    repeat ac_rfl
    refine ⟨_, rfl, a0, _, (1 : Int), _, rfl, rfl, h0, rfl, b0, _, rfl, .inr h1, _, rfl, by omega, by omega, for_range (n := ws.length) (fun i σ H' => (∃ o4 o5, σ = [some (.ref a0), some (.ref p.fa), some (.ref p.la), none, o4, o5, none]) ∧ Fr (LM p rs) H H' ∧ ∃ m, LAt K p H' fl m pt dn rs ∧ m.length ≤ p.as.length ∧ evC p.as fl (.or cs) mk = evCs p.as fl true (dropC cs i) m) ⟨⟨none, none, rfl⟩, Fr.refl, mk, L, hm, by cases cs <;> rfl⟩ ?_ ?_⟩
    · rintro i σ H2 hi ⟨⟨o4, o5, rfl⟩, f2, m, L2, hm2, ee⟩
      have hgi : ws[i]? = some ws[i] := List.getElem?_eq_getElem hi
      obtain ⟨d, hd0, hde⟩ := h2.at hgi
      have hmem := List.mem_of_getElem? hd0
      rw [dropC_get hd0] at ee
      have k2 := L.tk f2
      have h02 := k2 _ _ h0
      have hl2 : SqL K H2 p.la [.ref p.aa, .ref p.ea, .ref p.pa, .ref p.da] := .inl (.inl L2.l)
      have hiz : i < 100 := by
        have := szCs_len cs
        omega
      have hszd : szC d ≤ szCs cs := szCs_mem hmem
      rw [Int.zero_add]
      repeat ac_rfl
      refine ⟨.inl ⟨rfl, _, .inl (.inl L2.t)⟩, ?_⟩
      repeat ac_rfl
      refine ⟨p.pa, _, _, rfl, rfl, L2.t, small_lt (by rw [List.length_map]; omega), ?_⟩
      have e1 : pt.map natV ++ [V.int ((i : Nat) : Int)] = (pt ++ [i]).map natV := by rw [List.map_append]; rfl
      rw [e1]
      obtain ⟨L3, f3⟩ := L2.pth (pt ++ [i])
      generalize upd H2 p.pa (.lst ((pt ++ [i]).map natV)) = H3 at L3 f3
      have k3 := k2.trans (L2.tk f3)
      have h03 := k3 _ _ h0
      repeat ac_rfl
      refine st_ixt (k3 _ _ h1) (atI_nat hgi) ?_
      repeat ac_rfl
      refine ⟨p, fl, m, pt ++ [i], dn, rs, ws[i], d, rfl, L3, EncC.mono k3 d hde, wfCs_mem hw hmem, by omega, hm2, ha, hfl, by rw [List.length_append, List.length_singleton]; omega, by omega, hpo.snoc hiz, fun b m2 hb H4 f4 L4 => ?_, fun m2 hb H4 pt' f4 L4 ho hle => ?_⟩
      · have e3 : evCs p.as fl true (.cons d (dropC cs (i + 1))) m = (if b = true then (some true, m2) else evCs p.as fl true (dropC cs (i + 1)) m2) := by
          show (match evC p.as fl d m with | (none, m) => _ | (some b, m) => if b = true then (some true, m) else evCs p.as fl true (dropC cs (i + 1)) m) = _
          rw [hb]
        rw [e3] at ee
        have hl4 : SqL K H4 p.la [.ref p.aa, .ref p.ea, .ref p.pa, .ref p.da] := .inl (.inl L4.l)
        have k4 := k3.trans (L3.tk f4)
        have h04 := k4 _ _ h0
        repeat ac_rfl
        refine ifs_no ne_non_bl ?_
        repeat ac_rfl
        refine ⟨.inl ⟨rfl, _, .inl (.inl L4.t)⟩, ?_⟩
        refine ⟨p.pa, _, natV i, rfl, rfl, L4.t, by rw [List.map_append, List.length_append]; show (_ ++ [natV i])[_]? = _; rw [List.getElem?_append_right (by simp)]; simp, ?_⟩
        have e5 : ((pt ++ [i]).map natV).dropLast = pt.map natV := by rw [List.map_append, List.map_singleton, List.dropLast_concat]
        rw [e5]
        obtain ⟨L5, f5⟩ := L4.pth pt
        generalize upd H4 p.pa (.lst (pt.map natV)) = H5 at L5 f5
        have k5 := k4.trans (L4.tk f5)
        have h05 := k5 _ _ h0
        have F5 := ((f2.trans f3).trans f4).trans f5
        repeat ac_rfl
        have e6 : decide (V.str ("or" : Str) = V.str ("or" : Str)) = true := decide_eq_true rfl
        rw [e6]
        by_cases hb0 : b = true
        · subst hb0
          refine ifb_yes (decide_eq_true rfl) ?_
          repeat ac_rfl
          exact q1 true m2 (by rw [ee]; rfl) _ F5 L5
        · refine ifb_no (decide_eq_false (fun z => hb0 (by injection z))) ?_
          rw [if_neg hb0] at ee
          exact ⟨⟨_, _, rfl⟩, F5, m2, L5, evC_len p.as _ hm2 hb, ee⟩
      · repeat ac_rfl
        refine q2 m2 ?_ H4 pt' ((f2.trans f3).trans f4) L4 ho (by rw [List.length_append, List.length_singleton] at hle; omega)
        rw [ee]
        show (match evC p.as fl d m with | (none, m) => (none, m) | (some b, m) => if b = true then (some true, m) else evCs p.as fl true (dropC cs (i + 1)) m) = _
        rw [hb]
    · rintro σ H2 ⟨⟨o4, o5, rfl⟩, f2, m, L2, hm2, ee⟩
      have h02 := (L.tk f2) _ _ h0
      rw [dropC_end (by rw [hlen]; exact Nat.le_refl _)] at ee
      repeat ac_rfl
      have e4 : decide (V.str ("or" : Str) = V.str ("and" : Str)) = false := by decide +kernel
      rw [e4]
      exact q1 false m ee _ f2 L2
theorem LV_all (ml : BN mg) (D : DA K mg "_law_value" (top 41) ["_law_condition_here", "_law_flags", "_law_live"] f fd) : ∀ n : Nat, FnOk P w K mg base CX0 (n + 1) f fd ["_law_condition_here", "_law_flags", "_law_live"] (spLV K n)
  | 0 => fn_none fun vs H Q E ⟨_, _, _, _, _, _, _, _, _, _, _, _, h, _⟩ => absurd h (Nat.not_lt_zero _)
  | n + 1 => ok_LV ml D (LV_all ml D n)
end
end K23
namespace K23
open PySem PySem.Spec PyProof.Rows L2 Fl RT
def itD (x : Nm × Bool) : PyData := .list [.str x.1, .bool x.2]
def dFl (fl : Flg) : PyData := .list (fl.map itD)
theorem dp_rows {K : PySem.W.Frag} {H : Hp} : ∀ {fl : Flg} {rs : List Addr}, Rows H fl rs → DpAll K H (rs.map V.ref) (fl.map itD)
  | [], _, h => by cases (show _ = _ from h); exact .nil
  | x :: r, _, ⟨a, t, e, h1, h2⟩ => by subst e; exact .cons (.lst (.inl (.inl h1)) (.cons (.str _) (.cons (.bl _) .nil))) (dp_rows h2)
theorem LAt.dp {K : PySem.W.Frag} {p : LE0} {H : Hp} {fl : Flg} {mk : Fl.Made} {pt : List Nat} {dn : List Dr} {rs : List Addr} (L : LAt K p H fl mk pt dn rs) : Dp K H (.ref p.fa) (dFl fl) := .lst (.inl (.inl L.f)) (dp_rows L.r)
/-- a text's signs -/
def cl (s : Str) : List Nat := s.cps.toList
theorem cl_app (a b : Str) : cl (a ++ b) = cl a ++ cl b := by
  show (a.cps ++ b.cps).toList = _
  exact Array.toList_append
def bodyL : Nat → List Str → List Nat
  | _, [] => []
  | k, t :: ts => cl (if k > 0 then ", " else "" : String) ++ cl t ++ bodyL (k + 1) ts
theorem textFrom_cl : ∀ (ts : List Str) (k : Nat) (acc : Str), cl (textFrom k acc ts) = cl acc ++ bodyL k ts
  | [], k, acc => by simp [textFrom, bodyL]
  | t :: ts, k, acc => by
    show cl (textFrom (k + 1) _ ts) = _
    rw [textFrom_cl ts, cl_app, cl_app]
    simp [bodyL, List.append_assoc]
theorem cl_inj {a b : Str} (h : cl a = cl b) : a = b := by
  obtain ⟨x⟩ := a
  obtain ⟨y⟩ := b
  have h' : x.toList = y.toList := h
  rw [Array.toList_inj.mp h']
theorem listText_cl (ts : List Str) : cl (listText ts) = cl "[" ++ bodyL 0 ts ++ cl "]" := by
  unfold listText
  rw [cl_app, textFrom_cl]
theorem shownAll_map (fl : Flg) : PyData.shownAll (fl.map itD) = fl.map fun x => (itD x).shown := by
  induction fl with
  | nil => rfl
  | cons x r ih => show _ :: PyData.shownAll (r.map itD) = _; rw [ih]; rfl
def btxt (b : Bool) : List Nat := if b then cl "True" else cl "False"
theorem item_cl (x : Nm × Bool) : cl (itD x).shown = cl "[" ++ cl (reprText x.1) ++ cl ", " ++ btxt x.2 ++ cl "]" := by
  show cl (listText [reprText x.1, if x.2 then "True" else "False"]) = _
  rw [listText_cl]
  simp only [bodyL]
  have e : cl (if x.2 then ("True" : Str) else "False") = btxt x.2 := by unfold btxt; split <;> rfl
  rw [e]
  have e0 : cl ("" : Str) = [] := by decide +kernel
  have e1 : cl (if 0 > 0 then ", " else "" : String) = [] := e0
  have e2 : cl (if 0 + 1 > 0 then ", " else "" : String) = cl ", " := rfl
  rw [e1, e2]
  simp [List.append_assoc]
theorem body_inj : ∀ (k : Nat) (f g : Flg) (u v : List Nat), nms f = nms g → bodyL k (f.map fun x => (itD x).shown) ++ u = bodyL k (g.map fun x => (itD x).shown) ++ v → f = g
  | _, [], [], _, _, _, _ => rfl
  | _, [], _ :: _, _, _, h, _ => by simp [nms] at h
  | _, _ :: _, [], _, _, h, _ => by simp [nms] at h
  | k, (n, b) :: r, (m, c) :: q, u, v, h, e => by
    have h' : n = m ∧ nms r = nms q := by simpa [nms] using h
    obtain ⟨rfl, h2⟩ := h'
    simp only [List.map_cons, bodyL, item_cl, List.append_assoc] at e
    have e1 := List.append_cancel_left e
    have e2 := List.append_cancel_left e1
    have e3 := List.append_cancel_left e2
    have e4 := List.append_cancel_left e3
    have hb : b = c := by
      cases b <;> cases c
      · rfl
      · have z := congrArg List.head? e4
        revert z
        show some 70 = some 84 → _
        intro z; cases z
      · have z := congrArg List.head? e4
        revert z
        show some 84 = some 70 → _
        intro z; cases z
      · rfl
    subst hb
    have e5 := List.append_cancel_left (List.append_cancel_left e4)
    rw [body_inj (k + 1) r q u v h2 e5]
theorem text_inj {f g : Flg} (h : nms f = nms g) (e : (dFl f).shown = (dFl g).shown) : f = g := by
  have e1 : cl (listText (PyData.shownAll (f.map itD))) = cl (listText (PyData.shownAll (g.map itD))) := congrArg cl e
  rw [listText_cl, listText_cl, shownAll_map, shownAll_map, List.append_assoc, List.append_assoc] at e1
  exact body_inj 0 f g _ _ h (List.append_cancel_left e1)
theorem cl_len (s : Str) : (cl s).length = s.length := by
  show s.cps.toList.length = s.cps.size
  simp
def NmsOk (fl : Flg) : Prop := ∀ x ∈ fl, nmOk x.1
theorem repr_len {n : Nm} (h : nmOk n) : (reprText n).length ≤ 602 := by
  have h1 := StrLaws.reprText_len n fun c hc => Nat.lt_trans (h.2 c (by simpa using hc)) (by decide)
  have h2 := h.1
  omega
theorem item_len {x : Nm × Bool} (h : nmOk x.1) : (cl (itD x).shown).length ≤ 620 := by
  rw [item_cl]
  have h1 := repr_len h
  have e1 : (cl "[").length = 1 := by decide +kernel
  have e2 : (cl "]").length = 1 := by decide +kernel
  have e3 : (cl ", ").length = 2 := by decide +kernel
  have e4 : (btxt x.2).length ≤ 5 := by cases x.2 <;> decide +kernel
  simp only [List.length_append, e1, e2, e3, cl_len (reprText x.1)]
  omega
theorem body_len : ∀ (k : Nat) (fl : Flg), NmsOk fl → (bodyL k (fl.map fun x => (itD x).shown)).length ≤ fl.length * 622
  | _, [], _ => Nat.zero_le _
  | k, x :: r, h => by
    have ih := body_len (k + 1) r fun y hy => h y (List.mem_cons_of_mem _ hy)
    have h1 := item_len (h x List.mem_cons_self)
    have e3 : (cl (if k > 0 then ", " else "" : String)).length ≤ 2 := by
      split
      · exact (by decide +kernel : (cl (", " : Str)).length ≤ 2)
      · exact (by decide +kernel : (cl ("" : Str)).length ≤ 2)
    simp only [List.map_cons, bodyL, List.length_append, List.length_cons]
    rw [Nat.add_mul]
    omega
theorem dFl_len {fl : Flg} (h : NmsOk fl) (hl : fl.length ≤ 100) : (dFl fl).shown.length ≤ 70000 := by
  rw [← cl_len]
  show (cl (listText (PyData.shownAll (fl.map itD)))).length ≤ _
  rw [listText_cl, shownAll_map, List.length_append, List.length_append]
  have h1 := body_len 0 fl h
  have e1 : (cl "[").length = 1 := by decide +kernel
  have e2 : (cl "]").length = 1 := by decide +kernel
  have : fl.length * 622 ≤ 100 * 622 := Nat.mul_le_mul_right _ hl
  omega
theorem show_all (fl : Flg) : PyData.showableAll (fl.map itD) = true := by
  induction fl with
  | nil => rfl
  | cons x r ih => show (PyData.showable (itD x) && PyData.showableAll (r.map itD)) = true; rw [ih]; rfl
theorem dFl_show (fl : Flg) : (dFl fl).showable = true := show_all fl
theorem nodict_all (fl : Flg) : PyData.hasDictAll (fl.map itD) = false := by
  induction fl with
  | nil => rfl
  | cons x r ih => show (PyData.hasDict (itD x) || PyData.hasDictAll (r.map itD)) = false; rw [ih]; rfl
theorem dFl_nodict (fl : Flg) : (dFl fl).hasDict = false := nodict_all fl
theorem depth_all (fl : Flg) : PyData.depthAll (fl.map itD) ≤ 1 := by
  induction fl with
  | nil => exact Nat.zero_le _
  | cons x r ih =>
    show max (PyData.depth (itD x)) (PyData.depthAll (r.map itD)) ≤ 1
    have e : PyData.depth (itD x) = 1 := rfl
    rw [e]; omega
theorem dFl_depth (fl : Flg) : (dFl fl).depth ≤ 60 := by
  have h := depth_all fl
  show PyData.depthAll (fl.map itD) + 1 ≤ 60
  omega
/-- repr(flags) -/
theorem st_reprF {K : PySem.W.Frag} {p : LE0} {H : Hp} {fl : Flg} {mk : Fl.Made} {pt : List Nat} {dn : List Dr} {rs : List Addr} {Q : VK} (L : LAt K p H fl mk pt dn rs) (h : NmsOk fl) (hl : fl.length ≤ 100) (q : Q (.str (dFl fl).shown) H) : rRepr K [.ref p.fa] H Q :=
  ⟨p.fa, dFl fl, rfl, L.dp, dFl_show fl, dFl_nodict fl, dFl_depth fl, small3 (Nat.le_trans (dFl_len h hl) (by decide)), q⟩
end K23
namespace K23
open PySem PySem.Spec PyProof.Rows L2 Fl RT
def drOk : Dr → Prop
  | none => True
  | some j => jOk j
def DnOk (dn : List Dr) : Prop := ∀ d ∈ dn, drOk d
theorem DnOk.snoc {dn : List Dr} {d : Dr} (h : DnOk dn) (hd : drOk d) : DnOk (dn ++ [d]) := fun x hx => by
  rcases List.mem_append.mp hx with z | z
  · exact h x z
  · rw [List.mem_singleton.mp z]; exact hd
/-- rows behind the old ones, all new -/
def RsExt (H : Hp) (rs rs' : List Addr) : Prop := ∃ ad, rs' = rs ++ ad ∧ ∀ a ∈ ad, H a = none
theorem RsExt.refl {H : Hp} {rs : List Addr} : RsExt H rs rs := ⟨[], (List.append_nil _).symm, fun a h => absurd h List.not_mem_nil⟩
/-- how it may stand where it waits or hangs -/
structure WOk (pt' : List Nat) (dn' : List Dr) (f' : Flg) : Prop where
  p : PtOk pt'
  le : pt'.length ≤ 500
  d : DnOk dn'
  dl : dn'.length ≤ 200
  n : NmsOk f'
  fl : f'.length ≤ 100
def okL (K : PySem.W.Frag) (p : LE0) (pt : List Nat) (dn : List Dr) (rs : List Addr) (res : Res) (H : Hp) (Q : VK) : Prop :=
  (∀ f m, res = (.next f, m) → ∀ H' rv rs', Fr (LM p rs) H H' → LAt K p H' f m pt dn rs' → RsExt H rs rs' → EncD K H' none rv → Q rv H') ∧
  (∀ j f m, res = (.jump j f, m) → ∀ H' rv rs', Fr (LM p rs) H H' → LAt K p H' f m pt dn rs' → RsExt H rs rs' → EncJ K H' j rv → Q rv H') ∧
  (∀ m, res = (.wait, m) → ∀ H' rv f' pt' dn' rs', Fr (LM p rs) H H' → LAt K p H' f' m pt' dn' rs' → WOk pt' dn' f' → Tp K H' rv [.str "wait"] → Q rv H') ∧
  (∀ m, res = (.hang, m) → ∀ H' rv f' pt' dn' rs', Fr (LM p rs) H H' → LAt K p H' f' m pt' dn' rs' → WOk pt' dn' f' → pt.length ≤ pt'.length → Tp K H' rv [.str "hang"] → Q rv H')
/-- what is asked for -/
structure LFit (p : LE0) (fl : Flg) (mk : Fl.Made) (pt : List Nat) (dn : List Dr) (size : Nat) : Prop where
  m : mk.length ≤ p.as.length
  a : p.as.length ≤ 400
  f : fl.length + size ≤ 100
  n : NmsOk fl
  t : pt.length + 3 * size ≤ 400
  tp : PtOk pt
  d : dn.length + size ≤ 200
  dk : DnOk dn
def spLR (K : PySem.W.Frag) (n : Nat) : Sp := fun vs H Q _ => ∃ (p : LE0) (fl : Flg) (mk : Fl.Made) (pt : List Nat) (dn : List Dr) (rs : List Addr) (bv : V) (ss : Stms) (lp : Nat) (la : Bool), vs = [bv, .ref p.fa, .ref p.la] ∧ LAt K p H fl mk pt dn rs ∧ EncR K H ss bv ∧ wfR (nms fl) [] lp la ss ∧ szR ss < n ∧
  LFit p fl mk pt dn (szR ss) ∧ pt.length + 3 * szR ss + 1 ≤ 400 ∧ okL K p pt dn rs (exB p.as ss fl mk) H Q
def spLS (K : PySem.W.Frag) (ck : Stm → Bool) (n : Nat) : Sp := fun vs H Q _ => ∃ (p : LE0) (fl : Flg) (mk : Fl.Made) (pt : List Nat) (dn : List Dr) (rs : List Addr) (sv : V) (s : Stm) (own : List Nm) (lp : Nat) (la : Bool), vs = [sv, .ref p.fa, .ref p.la] ∧ ck s = true ∧ LAt K p H fl mk pt dn rs ∧ EncS K H s sv ∧ wfS (nms fl) own lp la s ∧ szS s < n ∧
  LFit p fl mk pt dn (szS s) ∧ okL K p pt dn rs (exS p.as s fl mk) H Q
def anyS : Stm → Bool := fun _ => true
theorem scLR : FnScope ["_law_body_here", "_law_flags", "_law_live", "_law_size", "_law_k", "_law_done_here"] ["_law_body_here", "_law_flags", "_law_live"] (defScope (top 42)) := ⟨rfl, rfl, rfl, by decide +kernel, rfl, by decide +kernel, by decide +kernel⟩
theorem scLLp : FnScope ["_law_statement_here", "_law_flags", "_law_live", "_law_starts", "_law_k", "_law_made", "_law_value_here", "_law_done_here", "_law_ours"] ["_law_statement_here", "_law_flags", "_law_live"] (defScope (top 43)) := ⟨rfl, rfl, rfl, by decide +kernel, rfl, by decide +kernel, by decide +kernel⟩
theorem scLT : FnScope ["_law_statement_here", "_law_flags", "_law_live", "_law_done_here", "_law_ended"] ["_law_statement_here", "_law_flags", "_law_live"] (defScope (top 44)) := ⟨rfl, rfl, rfl, by decide +kernel, rfl, by decide +kernel, by decide +kernel⟩
theorem scLD : FnScope ["_law_statement_here", "_law_flags", "_law_live", "_law_kind", "_law_found", "_law_pair", "_law_value_here", "_law_done_here"] ["_law_statement_here", "_law_flags", "_law_live"] (defScope (top 45)) := ⟨rfl, rfl, rfl, by decide +kernel, rfl, by decide +kernel, by decide +kernel⟩
end K23
namespace K23
open PySem PySem.Spec PyProof.Rows L2 Fl RT
local macro_rules | `(tactic| ac_rfl) => `(tactic| (
  first
    | with_reducible refine Stp.go ?_
    | with_reducible refine st_var (by with_unfolding_all exact rfl) ?_
    | with_reducible refine st_ixt (by with_unfolding_all assumption) (by with_unfolding_all exact rfl) ?_
    | with_reducible refine st_ixl (by with_unfolding_all assumption) (by with_unfolding_all exact rfl) ?_
    | with_reducible refine st_eq (by with_unfolding_all exact rfl) ?_
    | with_reducible refine st_bl ?_
    | with_reducible refine ifb_t ?_
    | with_reducible refine ifb_f ?_
    | with_reducible refine ifs_no (by decide +kernel) ?_
    | with_reducible refine ifs_yes rfl ?_
    | with_reducible refine ifs_yes lab_rfl ?_
    | with_reducible refine ifs_yes num_rfl ?_
    | with_reducible refine ifn_no (by decide +kernel) ?_
    | with_reducible refine ifn_yes rfl ?_
    | with_reducible refine ifnb_t ?_
    | with_reducible refine ifnb_f ?_
    | with_reducible refine st_ne (by with_unfolding_all exact rfl) ?_
    | with_reducible refine st_ix0 (by with_unfolding_all assumption) ?_))
theorem seq_cut2 {a b c : TS} {D : Ends} {σ : L2.St} {H : Hp} (C : L2.St → Hp → Prop) (h2 : ∀ σ' H', C σ' H' → c D σ' H') (h1 : ∀ N : L2.St → Hp → Prop, (∀ σ' H', C σ' H' → N σ' H') → tSeq a b { D with nx := N } σ H) : tSeq a (tSeq b c) D σ H := h1 (c D) h2
theorem RsExt.same {H : Hp} {rs rs' : List Addr} (x : RsExt H rs rs') (h : rs'.length = rs.length) : rs' = rs := by
  obtain ⟨ad, rfl, _⟩ := x
  rw [List.length_append] at h
  have e : ad = [] := List.length_eq_zero_iff.mp (by omega)
  rw [e, List.append_nil]
/-- live[2].pop() -/
theorem st_ppop {K : PySem.W.Frag} {p : LE0} {H : Hp} {fl : Flg} {mk : Fl.Made} {pt : List Nat} {k : Nat} {dn : List Dr} {rs : List Addr} {Q : VK} (L : LAt K p H fl mk (pt ++ [k]) dn rs) (q : ∀ H', LAt K p H' fl mk pt dn rs → Fr (LM p rs) H H' → Q (natV k) H') : tyV K "list" (.ref p.pa) H ∧ rPop (.ref p.pa) [] H Q := by
  refine ⟨.inl ⟨rfl, _, .inl (.inl L.t)⟩, p.pa, _, natV k, rfl, rfl, L.t, ?_, ?_⟩
  · rw [List.map_append, List.length_append]
    show (_ ++ [natV k])[_]? = _
    rw [List.getElem?_append_right (by simp)]; simp
  · rw [List.map_append, List.map_singleton, List.dropLast_concat]
    obtain ⟨L2, f2⟩ := L.pth pt
    exact q _ L2 f2
/-- live[2].append(k) -/
theorem st_ppush {K : PySem.W.Frag} {p : LE0} {H : Hp} {fl : Flg} {mk : Fl.Made} {pt : List Nat} {k : Nat} {dn : List Dr} {rs : List Addr} {Q : VK} (L : LAt K p H fl mk pt dn rs) (hl : pt.length ≤ 1000) (q : ∀ H', LAt K p H' fl mk (pt ++ [k]) dn rs → Fr (LM p rs) H H' → Q .non H') : rAppend (.ref p.pa) [natV k] H Q := by
  refine ⟨p.pa, _, _, rfl, rfl, L.t, small_lt (by rw [List.length_map]; omega), ?_⟩
  have e1 : pt.map natV ++ [natV k] = (pt ++ [k]).map natV := by rw [List.map_append]; rfl
  rw [e1]
  obtain ⟨L2, f2⟩ := L.pth (pt ++ [k])
  exact q _ L2 f2
theorem EncDs.unsnoc {K : PySem.W.Frag} {H : Hp} : ∀ {ds : List Dr} {d : Dr} {us : List V}, EncDs K H (ds ++ [d]) us → ∃ ws u, us = ws ++ [u] ∧ EncDs K H ds ws ∧ EncD K H d u
  | [], d, _, ⟨u, t, e, h1, h2⟩ => by cases (show _ = _ from h2); exact ⟨[], u, e, rfl, h1⟩
  | x :: r, d, _, ⟨u, t, e, h1, h2⟩ => by
    obtain ⟨ws, u2, e2, h3, h4⟩ := EncDs.unsnoc (ds := r) h2
    exact ⟨u :: ws, u2, by rw [e, e2]; rfl, ⟨u, ws, rfl, h1, h3⟩, h4⟩
/-- live[3].pop() -/
theorem st_dpop {K : PySem.W.Frag} {p : LE0} {H : Hp} {fl : Flg} {mk : Fl.Made} {pt : List Nat} {dn : List Dr} {d : Dr} {rs : List Addr} {Q : VK} (L : LAt K p H fl mk pt (dn ++ [d]) rs) (q : ∀ u H', LAt K p H' fl mk pt dn rs → Fr (LM p rs) H H' → Q u H') : tyV K "list" (.ref p.da) H ∧ rPop (.ref p.da) [] H Q := by
  obtain ⟨ds, hds, hde⟩ := L.d
  obtain ⟨ws, u, rfl, h1, _⟩ := hde.unsnoc
  refine ⟨.inl ⟨rfl, _, .inl (.inl hds)⟩, p.da, _, u, rfl, rfl, hds, ?_, ?_⟩
  · rw [List.length_append]
    rw [List.getElem?_append_right (by simp)]; simp
  · rw [List.dropLast_concat]
    obtain ⟨L2, f2⟩ := L.dne h1
    exact q u _ L2 f2
theorem LFit.go {p : LE0} {fl fl' : Flg} {mk mk' : Fl.Made} {pt pt' : List Nat} {dn dn' : List Dr} {s s' : Nat} (h : LFit p fl mk pt dn s) (hm : mk'.length ≤ p.as.length) (hf : fl'.length + s' ≤ fl.length + s) (hn : NmsOk fl') (ht : pt'.length + 3 * s' ≤ pt.length + 3 * s) (hp : PtOk pt') (hd : dn'.length + s' ≤ dn.length + s) (hk : DnOk dn') : LFit p fl' mk' pt' dn' s' :=
  ⟨hm, h.a, Nat.le_trans hf h.f, hn, Nat.le_trans ht h.t, hp, Nat.le_trans hd h.d, hk⟩
theorem NmsOk.nms {f g : Flg} (h : NmsOk f) (e : Fl.nms g = Fl.nms f) : NmsOk g := fun x hx => by
  have : x.1 ∈ Fl.nms f := by rw [← e]; exact List.mem_map_of_mem hx
  obtain ⟨y, hy, z⟩ := List.mem_map.mp this
  have := h y hy
  rw [z] at this; exact this
section
variable {P : Program} {w : World} {K : PySem.W.Frag} {mg : Str → Option Value} {base : Heap} {f fr : Addr} {fd dr : FuncData}
theorem ok_LT {n k : Nat} (ml : BN mg) (DR : DA K mg "_law_row" (top 42) ["_law_body_here", "_law_flags", "_law_live"] fr dr) (GR : FnG P w K mg base k fr dr ["_law_body_here", "_law_flags", "_law_live"] (spLR K n)) (D : DA K mg "_law_tried" (top 44) ["_law_statement_here", "_law_flags", "_law_live"] f fd) :
    FnG P w K mg base (k + 1) f fd ["_law_statement_here", "_law_flags", "_law_live"] (spLS K isTry (n + 1)) := by
  refine okG D.F scLT (fun vs H Q E h => ?_) (fun cdv A outer s H vs Q E hgd hr h => ?_)
  · obtain ⟨p, fl, mk, pt, dn, rs, cv, c, own, lp, la, rfl, _⟩ := h
    rfl
  obtain ⟨p, fl, mk, pt, dn, rs, sv, st, own, lp, la, rfl, ht, L, he, hw, hsz, ft, q⟩ := h
  refine ⟨_, (pss_cons (ps_expr (pe_bm PySem.F.plainAttrs_list PySem.F.slot_list_append PySem.F.type_list_append mt_append (pe_ix ix_list (pv 2) pe_int (fun _ _ => rfl)) (pa_cons pe_int pa_nil)))
      (pss_cons (ps_set (i := 3) scLT.nd rfl (Or.inl rfl) (pe_clG DR GR hgd hr (pa_cons (pe_ix ix_tup (pv 0) pe_int (fun _ _ => rfl)) (pa_cons (pv 1) (pa_cons (pv 2) pa_nil)))))
      (pss_cons (ps_if (pw_or (pt_cmpR op_eq (pe_ix ix_tup (pv 3) pe_int (fun _ _ => rfl)) pe_str (nomark _)) (pw_or1 (pt_cmpR op_eq (pe_ix ix_tup (pv 3) pe_int (fun _ _ => rfl)) pe_str (nomark _)))).pt (pss_one (ps_ret (pv 3))) pss_nil)
      (pss_cons (ps_expr (pe_bm0 PySem.F.plainAttrs_list PySem.F.slot_list_pop PySem.F.type_list_pop mt_pop (pe_ix ix_list (pv 2) pe_int (fun _ _ => rfl))))
      (pss_cons (ps_expr (pe_bm PySem.F.plainAttrs_list PySem.F.slot_list_append PySem.F.type_list_append mt_append (pe_ix ix_list (pv 2) pe_int (fun _ _ => rfl)) (pa_cons pe_int pa_nil)))
      (pss_cons (ps_expr (pe_bm PySem.F.plainAttrs_list PySem.F.slot_list_append PySem.F.type_list_append mt_append (pe_ix ix_list (pv 2) pe_int (fun _ _ => rfl)) (pa_cons (pv 3) pa_nil)))
      (pss_cons (ps_set (i := 4) scLT.nd rfl (Or.inl rfl) (pe_clG DR GR hgd hr (pa_cons (pe_ix ix_tup (pv 0) pe_int (fun _ _ => rfl)) (pa_cons (pv 1) (pa_cons (pv 2) pa_nil)))))
      (pss_cons (ps_if (pw_or (pt_cmpR op_eq (pe_ix ix_tup (pv 4) pe_int (fun _ _ => rfl)) pe_str (nomark _)) (pw_or1 (pt_cmpR op_eq (pe_ix ix_tup (pv 4) pe_int (fun _ _ => rfl)) pe_str (nomark _)))).pt (pss_one (ps_ret (pv 4))) pss_nil)
      (pss_cons (ps_expr (pe_bm0 PySem.F.plainAttrs_list PySem.F.slot_list_pop PySem.F.type_list_pop mt_pop (pe_ix ix_list (pv 2) pe_int (fun _ _ => rfl))))
      (pss_cons (ps_expr (pe_bm0 PySem.F.plainAttrs_list PySem.F.slot_list_pop PySem.F.type_list_pop mt_pop (pe_ix ix_list (pv 2) pe_int (fun _ _ => rfl))))
      (pss_cons (ps_if (pt_cmpR op_eq (pe_ix ix_tup (pv 4) pe_int (fun _ _ => rfl)) pe_str (nomark _)) (pss_one (ps_ret (pv 3))) pss_nil)
      (pss_one (ps_ret (pv 4)))))))))))))), ?_⟩
  cases st with
  | tryf b1 b2 =>
    obtain ⟨p1, p2, ps, qs, ⟨a0, rfl, h0⟩, h2, h3, h4, h5⟩ := he
    obtain ⟨hlz, hwa, hwb⟩ := hw
    have ez : szR b1 + szR b2 + 1 = szS (.tryf b1 b2) := rfl
    have ex : exS p.as (.tryf b1 b2) fl mk = tryThen (exB p.as b1 fl mk) (fun f m => exB p.as b2 f m) := by simp only [exS, exB]
    rw [ex] at q
    have hl : SqL K H p.la [.ref p.aa, .ref p.ea, .ref p.pa, .ref p.da] := .inl (.inl L.l)
    have ft1 := ft.t
    refine seq_cut (fun σ' H' => σ' = [some (.ref a0), some (.ref p.fa), some (.ref p.la), none, none] ∧ LAt K p H' fl mk (pt ++ [0]) dn rs ∧ Fr (LM p rs) H H') ?_ ?_
    rotate_left
    · intro N hN
      repeat ac_rfl
      refine ⟨.inl ⟨rfl, _, .inl (.inl L.t)⟩, ?_⟩
      repeat ac_rfl
      refine ⟨p.pa, _, _, rfl, rfl, L.t, small_lt (by rw [List.length_map]; omega), ?_⟩
      have e1 : pt.map natV ++ [V.int 0] = (pt ++ [0]).map natV := by rw [List.map_append]; rfl
      rw [e1]
      obtain ⟨L2, f2⟩ := L.pth (pt ++ [0])
      exact hN _ _ ⟨rfl, L2, f2⟩
    rintro _ H2 ⟨rfl, L2, f2⟩
    have k2 := L.tk f2
    have h02 := k2 _ _ h0
    refine seq_cut2 (fun σ' H' => ∃ rv f m rs' dr, σ' = [some (.ref a0), some (.ref p.fa), some (.ref p.la), some rv, none] ∧ LAt K p H' f m (pt ++ [0]) dn rs' ∧ RsExt H2 rs rs' ∧ Fr (LM p rs) H H' ∧ EncD K H' dr rv ∧ ((exB p.as b1 fl mk = (.next f, m) ∧ dr = none) ∨ ∃ j, exB p.as b1 fl mk = (.jump j f, m) ∧ dr = some j)) ?_ ?_
    · rintro _ H3 ⟨rv, f, m, rs', dr, rfl, L3, x3, F3, ev, hr1⟩
      have hfm : m.length ≤ p.as.length ∧ nms f = nms fl := by
        rcases hr1 with ⟨e, _⟩ | ⟨j, e, _⟩
        · exact (exB_len p.as ft.m).1 e
        · exact (exB_len p.as ft.m).2 j e
      have hjo : drOk dr := by
        rcases hr1 with ⟨e, rfl⟩ | ⟨j, e, rfl⟩
        · trivial
        · exact oOk_B (as := p.as) hwa fl mk j f (by rw [e])
      have hlf : f.length = fl.length := by rw [← nms_len, hfm.2, nms_len]
      obtain rfl : rs' = rs := x3.same (by rw [L3.r.len, L.r.len, hlf])
      have hl3 : SqL K H3 p.la [.ref p.aa, .ref p.ea, .ref p.pa, .ref p.da] := .inl (.inl L3.l)
      obtain ⟨ds, hds, hde⟩ := L3.d
      repeat ac_rfl
      refine st_ppop L3 fun H4 L4 f4 => ?_
      have hl4 : SqL K H4 p.la [.ref p.aa, .ref p.ea, .ref p.pa, .ref p.da] := .inl (.inl L4.l)
      repeat ac_rfl
      refine ⟨.inl ⟨rfl, _, .inl (.inl L4.t)⟩, ?_⟩
      repeat ac_rfl
      refine st_ppush (k := 1) L4 (by omega) fun H5 L5 f5 => ?_
      have hl5 : SqL K H5 p.la [.ref p.aa, .ref p.ea, .ref p.pa, .ref p.da] := .inl (.inl L5.l)
      obtain ⟨ds5, hds5, hde5⟩ := L5.d
      have k35 : TK K H3 H5 := (L3.tk f4).trans (L4.tk f5)
      repeat ac_rfl
      refine ⟨.inl ⟨rfl, _, .inl (.inl hds5)⟩, ?_⟩
      repeat ac_rfl
      have hdl := ft.d
      refine ⟨p.da, _, _, rfl, rfl, hds5, small_lt (by rw [hde5.len]; omega), ?_⟩
      obtain ⟨L6, f6⟩ := L5.dne (EncDs.snoc hde5 (EncD.mono k35 ev))
      generalize upd H5 p.da (.lst (ds5 ++ [rv])) = H6 at L6 f6
      have F6 := ((F3.trans f4).trans f5).trans f6
      have k6 := L.tk F6
      have h06 := k6 _ _ h0
      have ev6 := EncD.mono (k35.trans (L5.tk f6)) ev
      have hl6 : SqL K H6 p.la [.ref p.aa, .ref p.ea, .ref p.pa, .ref p.da] := .inl (.inl L6.l)
      repeat ac_rfl
      have two : ∀ H7 f2 m2 rs2, Fr (LM p rs') H6 H7 → LAt K p H7 f2 m2 (pt ++ [1]) (dn ++ [dr]) rs2 → RsExt H6 rs' rs2 → nms f2 = nms f → rs2 = rs' := fun H7 f2 m2 rs2 _ L7 x7 e => x7.same (by rw [L7.r.len, L.r.len, ← hlf, ← nms_len f2, e, nms_len])
      refine ⟨p, f, m, pt ++ [1], dn ++ [dr], _, .ref p2, b2, lp, true, rfl, L6, ⟨p2, qs, rfl, k6 _ _ h4, EncX.mono k6 b2 h5⟩, by rw [hfm.2]; exact hwb, by omega, ft.go hfm.1 (by omega) (ft.n.nms hfm.2) (by rw [List.length_append, List.length_singleton]; omega) (ft.tp.snoc (by decide)) (by rw [List.length_append, List.length_singleton]; omega) (ft.dk.snoc hjo), by rw [List.length_append, List.length_singleton]; omega, fun g2 m2 e2 H7 rv2 rs2 f7 L7 x7 ev2 => ?_, fun j2 g2 m2 e2 H7 rv2 rs2 f7 L7 x7 ev2 => ?_, fun m2 e2 H7 rv2 f2 pt2 dn2 rs2 f7 L7 wk ev2 => ?_, fun m2 e2 H7 rv2 f2 pt2 dn2 rs2 f7 L7 wk wge ev2 => ?_⟩
      · have hm6 := exB_len p.as (ss := b2) (fl := f) (f := g2) (m := m2) hfm.1
        have hm7 := hm6.1 e2
        obtain rfl := two H7 g2 m2 rs2 f7 L7 x7 hm7.2
        have hl7 : SqL K H7 p.la [.ref p.aa, .ref p.ea, .ref p.pa, .ref p.da] := .inl (.inl L7.l)
        have ev7 := EncD.mono (L6.tk f7) ev6
        obtain ⟨ar, rfl, hrv⟩ := ev2
        repeat ac_rfl
        refine st_ppop L7 fun H8 L8 f8 => ?_
        have k8 := L7.tk f8
        have hrv8 := k8 _ _ hrv
        have hl8 : SqL K H8 p.la [.ref p.aa, .ref p.ea, .ref p.pa, .ref p.da] := .inl (.inl L8.l)
        repeat ac_rfl
        refine st_dpop L8 fun u9 H9 L9 f9 => ?_
        have hrv9 := (L8.tk f9) _ _ hrv8
        have ev9 := EncD.mono (k8.trans (L8.tk f9)) ev7
        repeat ac_rfl
        rcases hr1 with ⟨e, rfl⟩ | ⟨j, e, rfl⟩
        · exact q.1 g2 m2 (by rw [e]; simp only [tryThen, e2, after]) H9 rv _ (((F6.trans f7).trans f8).trans f9) L9 .refl ev9
        · exact q.2.1 j g2 m2 (by rw [e]; simp only [tryThen, e2, after]) H9 rv _ (((F6.trans f7).trans f8).trans f9) L9 .refl ev9
      · have hm6 := exB_len p.as (ss := b2) (fl := f) (f := g2) (m := m2) hfm.1
        have hm7 := hm6.2 j2 e2
        obtain rfl := two H7 g2 m2 rs2 f7 L7 x7 hm7.2
        have hl7 : SqL K H7 p.la [.ref p.aa, .ref p.ea, .ref p.pa, .ref p.da] := .inl (.inl L7.l)
        have er : tryThen (exB p.as b1 fl mk) (fun f m => exB p.as b2 f m) = (.jump j2 g2, m2) := by
          rcases hr1 with ⟨e, _⟩ | ⟨j, e, _⟩ <;> (rw [e]; simp only [tryThen, e2, after])
        have fin : ∀ H9 v, Fr (LM p rs2) H H9 → LAt K p H9 g2 m2 pt dn rs2 → EncJ K H9 j2 v → Q v H9 := fun H9 v a b c => q.2.1 j2 g2 m2 er H9 v _ a b .refl c
        cases j2 with
        | ret l =>
          obtain ⟨ar, rfl, hrv⟩ := ev2
          repeat ac_rfl
          refine st_ppop L7 fun H8 L8 f8 => ?_
          have k8 := L7.tk f8
          have hrv8 := k8 _ _ hrv
          have hl8 : SqL K H8 p.la [.ref p.aa, .ref p.ea, .ref p.pa, .ref p.da] := .inl (.inl L8.l)
          repeat ac_rfl
          refine st_dpop L8 fun u9 H9 L9 f9 => ?_
          have hrv9 := (L8.tk f9) _ _ hrv8
          repeat ac_rfl
          exact fin H9 _ (((F6.trans f7).trans f8).trans f9) L9 ⟨ar, rfl, hrv9⟩
        | brk l =>
          obtain ⟨ar, rfl, hrv⟩ := ev2
          repeat ac_rfl
          refine st_ppop L7 fun H8 L8 f8 => ?_
          have k8 := L7.tk f8
          have hrv8 := k8 _ _ hrv
          have hl8 : SqL K H8 p.la [.ref p.aa, .ref p.ea, .ref p.pa, .ref p.da] := .inl (.inl L8.l)
          repeat ac_rfl
          refine st_dpop L8 fun u9 H9 L9 f9 => ?_
          have hrv9 := (L8.tk f9) _ _ hrv8
          repeat ac_rfl
          exact fin H9 _ (((F6.trans f7).trans f8).trans f9) L9 ⟨ar, rfl, hrv9⟩
        | cont l =>
          obtain ⟨ar, rfl, hrv⟩ := ev2
          repeat ac_rfl
          refine st_ppop L7 fun H8 L8 f8 => ?_
          have k8 := L7.tk f8
          have hrv8 := k8 _ _ hrv
          have hl8 : SqL K H8 p.la [.ref p.aa, .ref p.ea, .ref p.pa, .ref p.da] := .inl (.inl L8.l)
          repeat ac_rfl
          refine st_dpop L8 fun u9 H9 L9 f9 => ?_
          have hrv9 := (L8.tk f9) _ _ hrv8
          repeat ac_rfl
          exact fin H9 _ (((F6.trans f7).trans f8).trans f9) L9 ⟨ar, rfl, hrv9⟩
      · have er : tryThen (exB p.as b1 fl mk) (fun f m => exB p.as b2 f m) = (.wait, m2) := by
          rcases hr1 with ⟨e, _⟩ | ⟨j, e, _⟩ <;> (rw [e]; simp only [tryThen, e2, after])
        obtain ⟨ar, rfl, hrv⟩ := ev2
        repeat ac_rfl
        exact q.2.2.1 m2 er H7 _ f2 pt2 dn2 rs2 (F6.trans f7) L7 wk ⟨ar, rfl, hrv⟩
      · have er : tryThen (exB p.as b1 fl mk) (fun f m => exB p.as b2 f m) = (.hang, m2) := by
          rcases hr1 with ⟨e, _⟩ | ⟨j, e, _⟩ <;> (rw [e]; simp only [tryThen, e2, after])
        obtain ⟨ar, rfl, hrv⟩ := ev2
        repeat ac_rfl
        exact q.2.2.2 m2 er H7 _ f2 pt2 dn2 rs2 (F6.trans f7) L7 wk (Nat.le_trans (by rw [List.length_append]; omega) wge) ⟨ar, rfl, hrv⟩
    intro N hN
    repeat ac_rfl
    refine ⟨p, fl, mk, pt ++ [0], dn, rs, .ref p1, b1, lp, la, rfl, L2, ⟨p1, ps, rfl, k2 _ _ h2, EncX.mono k2 b1 h3⟩, hwa, by omega, ft.go ft.m (by omega) ft.n (by rw [List.length_append, List.length_singleton]; omega) (ft.tp.snoc (by decide)) (by omega) ft.dk, by rw [List.length_append, List.length_singleton]; omega, fun f m e1 H3 rv rs' f3 L3 x3 ev => ?_, fun j f m e1 H3 rv rs' f3 L3 x3 ev => ?_, fun m e1 H3 rv f' pt' dn' rs' f3 L3 wk ev => ?_, fun m e1 H3 rv f' pt' dn' rs' f3 L3 wk wge ev => ?_⟩
    · have ev0 := ev
      obtain ⟨ar, rfl, hrv⟩ := ev
      repeat ac_rfl
      exact hN _ _ ⟨_, f, m, rs', none, rfl, L3, x3, f2.trans f3, ev0, .inl ⟨e1, rfl⟩⟩
    · have ev0 := ev
      have fin : N [some (.ref a0), some (.ref p.fa), some (.ref p.la), some rv, none] H3 := hN _ _ ⟨_, f, m, rs', some j, rfl, L3, x3, f2.trans f3, ev0, .inr ⟨j, e1, rfl⟩⟩
      cases j with
      | ret l =>
        obtain ⟨ar, rfl, hrv⟩ := ev
        repeat ac_rfl
        exact fin
      | brk l =>
        obtain ⟨ar, rfl, hrv⟩ := ev
        repeat ac_rfl
        exact fin
      | cont l =>
        obtain ⟨ar, rfl, hrv⟩ := ev
        repeat ac_rfl
        exact fin
    · rw [e1] at q
      obtain ⟨ar, rfl, hrv⟩ := ev
      repeat ac_rfl
      exact q.2.2.1 m rfl H3 _ f' pt' dn' rs' (f2.trans f3) L3 wk ⟨ar, rfl, hrv⟩
    · rw [e1] at q
      obtain ⟨ar, rfl, hrv⟩ := ev
      repeat ac_rfl
      refine q.2.2.2 m rfl H3 _ f' pt' dn' rs' (f2.trans f3) L3 wk ?_ ⟨ar, rfl, hrv⟩
      rw [List.length_append] at wge
      omega
  | _ => simp [isTry] at ht
end
end K23
namespace K23
open PySem PySem.Spec PyProof.Rows L2 Fl RT
abbrev txF (g : Flg) : V := .str (dFl g).shown
theorem st_orV {ta tb : TE} {σ : L2.St} {H : Hp} {Q : VK} (h : ta σ H fun x H1 => ∃ c, x = .bl c ∧ if c = true then Q (.bl true) H1 else tb σ H1 Q) : tOrV ta tb σ H Q := h
theorem tx_flat (st : List Flg) : (st.map txF).all flatV = true := by
  rw [List.all_map, List.all_eq_true]
  intro x _
  rfl
theorem tx_in {f : Flg} {st : List Flg} (h : ∀ g ∈ st, nms g = nms f) : inV (txF f) (st.map txF) = decide (f ∈ st) := by
  unfold inV
  rw [List.any_map, Bool.eq_iff_iff, List.any_eq_true, decide_eq_true_iff]
  constructor
  · rintro ⟨g, hg, e⟩
    have e' : ((dFl g).shown == (dFl f).shown) = true := e
    have := text_inj (h g hg) (beq_iff_eq.mp e')
    rw [← this]; exact hg
  · intro hf
    exact ⟨f, hf, (beq_iff_eq (a := (dFl f).shown)).mpr rfl⟩
section
variable {K : PySem.W.Frag} {p : LE0} {H H' H1 : Hp} {fl f1 : Flg} {mk m1 : Fl.Made} {pt pt1 : List Nat} {dn dn1 : List Dr} {rs rk rs' : List Addr}
/-- another object is written -/
theorem LAt.oth (L : LAt K p H fl mk pt dn rs) {b : Addr} {o : HO} (hb : b ∉ p.six ++ rs) (k : TK K H (upd H b o)) : LAt K p (upd H b o) fl mk pt dn rs := by
  have n : ∀ y, y ∈ p.six ++ rs → y ≠ b := fun y hy z => hb (z ▸ hy)
  obtain ⟨ds, h1, h2⟩ := L.d
  refine ⟨?_, ?_, ?_, ?_, ⟨ds, ?_, EncDs.mono k h2⟩, ?_, L.r.keep fun a ha => upd_ne (n a (List.mem_append_right _ ha)), L.nd⟩
  · rw [upd_ne (n _ (by simp [LE0.six]))]; exact L.l
  · rw [upd_ne (n _ (by simp [LE0.six]))]; exact L.a
  · rw [upd_ne (n _ (by simp [LE0.six]))]; exact L.e
  · rw [upd_ne (n _ (by simp [LE0.six]))]; exact L.t
  · rw [upd_ne (n _ (by simp [LE0.six]))]; exact h1
  · rw [upd_ne (n _ (by simp [LE0.six]))]; exact L.f
theorem LAt.fresh (L : LAt K p H fl mk pt dn rs) {b : Addr} (hb : H b = none) : b ∉ p.six ++ rs := fun z => by
  obtain ⟨vs, e⟩ := L.isL z
  rw [hb] at e; cases e
end
theorem seq_cut4 {a b c d e : TS} {D : Ends} {σ : L2.St} {H : Hp} (C : L2.St → Hp → Prop) (h2 : ∀ σ' H', C σ' H' → e D σ' H') (h1 : ∀ N : L2.St → Hp → Prop, (∀ σ' H', C σ' H' → N σ' H') → tSeq a (tSeq b (tSeq c d)) { D with nx := N } σ H) : tSeq a (tSeq b (tSeq c (tSeq d e))) D σ H := h1 (e D) h2
theorem LAt.none_of {K : PySem.W.Frag} {p : LE0} {H H' : Hp} {f : Flg} {m : Fl.Made} {pt : List Nat} {dn : List Dr} {rs rk : List Addr} {b : Addr} (L : LAt K p H' f m pt dn rk) (F : Fr (LM p rk) H H') (h : H' b = none) : H b = none := by
  cases e : H b with
  | none => rfl
  | some u =>
    by_cases z : LM p rk b
    · obtain ⟨vs, e2⟩ := L.isL z.mem
      rw [h] at e2; cases e2
    · have := F b u e z
      rw [h] at this; cases this
theorem room_repr {k : Nat} {A : Around} (hr : Room k A) : A.units + 64 < cLine := by
  have := hr.un
  omega
section
variable {K : PySem.W.Frag} {p : LE0} {H H' Hk : Hp} {fl f1 f2 : Flg} {mk m1 m2 : Fl.Made} {pt pt1 : List Nat} {dn dn1 : List Dr} {rs rk rs' : List Addr}
theorem fr_ext (x : RsExt H rs rk) (a : Fr (LM p rs) H Hk) (b : Fr (LM p rk) Hk H') : Fr (LM p rs) H H' := fun c u q n => b c u (a c u q n) fun z => n (by
  obtain ⟨ad, rfl, h⟩ := x
  rcases z with z | z | z | z | z
  · exact .inl z
  · exact .inr (.inl z)
  · exact .inr (.inr (.inl z))
  · exact .inr (.inr (.inr (.inl z)))
  · rcases List.mem_append.mp z with z | z
    · exact .inr (.inr (.inr (.inr z)))
    · rw [h c z] at q; cases q)
theorem RsExt.trans (x : RsExt H rs rk) (a : Fr (LM p rs) H Hk) (L : LAt K p Hk f1 m1 pt dn rk) (y : RsExt Hk rk rs') : RsExt H rs rs' := by
  obtain ⟨ad, rfl, h⟩ := x
  obtain ⟨ad2, rfl, h2⟩ := y
  refine ⟨ad ++ ad2, by rw [List.append_assoc], fun c hc => ?_⟩
  rcases List.mem_append.mp hc with z | z
  · exact h c z
  · have h3 := h2 c z
    cases e : H c with
    | none => rfl
    | some u =>
      by_cases zz : LM p rs c
      · have : c ∈ p.six ++ (rs ++ ad) := by
          rcases List.mem_append.mp zz.mem with q | q
          · exact List.mem_append_left _ q
          · exact List.mem_append_right _ (List.mem_append_left _ q)
        obtain ⟨vs, e2⟩ := L.isL this
        rw [h3] at e2; cases e2
      · have := a c u e zz
        rw [h3] at this; cases this
theorem RsExt.take (x : RsExt H rs rk) : rk.take rs.length = rs := by
  obtain ⟨ad, rfl, _⟩ := x
  rw [List.take_left]
theorem NmsOk.take (h : NmsOk fl) (n : Nat) : NmsOk (fl.take n) := fun x hx => h x (List.mem_of_mem_take hx)
theorem LAt.cutR (L : LAt K p H f1 m1 pt dn rk) (n : Nat) : LAt K p (upd H p.fa (.lst ((rk.take n).map V.ref))) (f1.take n) m1 pt dn (rk.take n) ∧ Fr (LM p rk) H (upd H p.fa (.lst ((rk.take n).map V.ref))) := by
  have nd' : (p.six ++ rk.take n).Nodup := by
    have h := List.nodup_append.mp L.nd
    refine List.nodup_append.mpr ⟨h.1, h.2.1.sublist (List.take_sublist _ _), fun a ha b hb => h.2.2 a ha b (List.mem_of_mem_take hb)⟩
  obtain ⟨L2, f2⟩ := L.flg (L.r.take n) nd'
  exact ⟨L2, f2⟩
theorem Fr.fa {p : LE0} {H H' : Hp} (f : Fr (fun b => b = p.fa) H H') (rs : List Addr) : Fr (LM p rs) H H' := f.weak fun _ _ _ z => .inl z
theorem Fr.pa {p : LE0} {H H' : Hp} (f : Fr (fun b => b = p.pa) H H') (rs : List Addr) : Fr (LM p rs) H H' := f.weak fun _ _ _ z => .inr (.inr (.inl z))
/-- live[2].pop() of any path -/
theorem st_ppopH {Q : VK} (L : LAt K p H fl mk pt dn rs) (hne : pt ≠ []) (q : ∀ u H', LAt K p H' fl mk pt.dropLast dn rs → Fr (fun b => b = p.pa) H H' → Q u H') : tyV K "list" (.ref p.pa) H ∧ rPop (.ref p.pa) [] H Q := by
  refine ⟨.inl ⟨rfl, _, .inl (.inl L.t)⟩, p.pa, _, natV (pt.getLast hne), rfl, rfl, L.t, ?_, ?_⟩
  · rw [List.length_map, List.getElem?_map, ← List.getLast?_eq_getElem?, List.getLast?_eq_some_getLast hne]; rfl
  · have e2 : (pt.map natV).dropLast = pt.dropLast.map natV := by rw [List.map_dropLast]
    rw [e2]
    exact q _ _ (L.pth pt.dropLast).1 (Fr.refl.upd (.inl rfl))
/-- while len(flags) > size: flags.pop() -/
theorem st_pops {D : Ends} {σ : L2.St} {n : Nat} (L : LAt K p H f1 m1 pt dn rk) (h1 : σ[1]? = some (some (.ref p.fa))) (h3 : σ[3]? = some (some (natV n))) (q : ∀ H', LAt K p H' (f1.take n) m1 pt dn (rk.take n) → Fr (fun b => b = p.fa) H H' → D.nx σ H') :
    tWhile (tTest (tOp (rI0 fun i j => .bl (decide (j < i))) (tCB (fun xs H Q => ∃ p ys, xs = [V.ref p] ∧ (SqL K H p ys ∨ SqT K H p ys) ∧ Q (V.int ((ys.length : Nat) : Int)) H) (tCons (tVar 1) tNil)) (tVar 3))) (tDrop (tBM0 K "list" rPop (tVar 1))) D σ H := by
  refine ⟨fun i σ' H' => σ' = σ ∧ ∃ j, i = j ∧ j ≤ rk.length ∧ (n ≤ j ∨ j = rk.length) ∧ LAt K p H' (f1.take j) m1 pt dn (rk.take j) ∧ Fr (fun b => b = p.fa) H H', ⟨rk.length, rfl, rk.length, rfl, Nat.le_refl _, .inr rfl, ?_, Fr.refl⟩, ?_⟩
  · rw [List.take_length, L.r.len, List.take_length]; exact L
  · rintro i σ' H2 ⟨rfl, j, rfl, hj, hnj, L2, F2⟩
    refine ⟨_, h1, p.fa, _, rfl, .inl (.inl (.inl L2.f)), _, h3, _, _, rfl, rfl, ?_⟩
    rw [List.length_map, List.length_take, Nat.min_eq_left hj]
    refine ⟨_, rfl, ?_⟩
    by_cases hc : n < i
    · refine ifb_yes (decide_eq_true (by omega)) ?_
      refine ⟨fun σ' H' => ∃ m', m' < i ∧ (σ' = _ ∧ ∃ j, m' = j ∧ j ≤ rk.length ∧ (n ≤ j ∨ j = rk.length) ∧ LAt K p H' (f1.take j) m1 pt dn (rk.take j) ∧ Fr (fun b => b = p.fa) H H'), fun _ _ h => h, ?_⟩
      have hlt : i - 1 < rk.length := by omega
      have e1 : rk.take i = rk.take (i - 1) ++ [rk[i - 1]] := by
        have := List.take_succ_eq_append_getElem hlt
        rw [show i - 1 + 1 = i by omega] at this
        exact this
      have e2 : ((rk.take i).map V.ref).dropLast = (rk.take (i - 1)).map V.ref := by
        rw [e1, List.map_append, List.map_singleton, List.dropLast_concat]
      refine ⟨_, h1, .inl ⟨rfl, _, .inl (.inl L2.f)⟩, p.fa, _, V.ref rk[i - 1], rfl, rfl, L2.f, ?_, ?_⟩
      · rw [e1, List.map_append, List.length_append, List.map_singleton]
        rw [List.getElem?_append_right (by simp)]; simp
      rw [e2]
      obtain ⟨L3, _⟩ := L2.cutR (i - 1)
      rw [List.take_take, List.take_take, Nat.min_eq_left (by omega)] at L3
      have F3 : Fr (fun b => b = p.fa) H2 (upd H2 p.fa (.lst ((rk.take (i - 1)).map V.ref))) := Fr.refl.upd (.inl rfl)
      exact ⟨i - 1, by omega, rfl, i - 1, rfl, by omega, by omega, L3, F2.trans F3⟩
    · refine ifb_no (decide_eq_false (by omega)) ?_
      refine q H2 ?_ F2
      rcases hnj with z | z
      · rw [show n = i by omega]; exact L2
      · have h4 := L.r.len
        rw [z, List.take_length, h4, List.take_length] at L2
        rw [List.take_of_length_le (by omega), List.take_of_length_le (by omega)]
        exact L2
end
theorem letOk {s : Stm} {vis own : List Nm} {lp : Nat} {la : Bool} (h : wfS vis own lp la s) : ∀ x ∈ addsS s, nmOk x := fun x hx => by
  cases s with
  | letf y b => rw [List.mem_singleton.mp hx]; exact h.1
  | _ => exact absurd hx List.not_mem_nil
theorem nms_ok {f : Flg} : NmsOk f ↔ ∀ x ∈ nms f, nmOk x := by
  constructor
  · intro h x hx
    obtain ⟨y, hy, e⟩ := List.mem_map.mp hx
    rw [← e]; exact h y hy
  · intro h x hx
    exact h _ (List.mem_map_of_mem hx)
theorem adds_len (s : Stm) : (addsS s).length ≤ szS s := by
  cases s <;> simp [addsS, szS]
end K23
namespace K23
open PySem PySem.Spec PyProof.Rows L2 Fl RT
local macro_rules | `(tactic| ac_rfl) => `(tactic| (
  first
    | with_reducible refine Stp.go ?_
    | with_reducible refine st_var (by with_unfolding_all exact rfl) ?_
    | with_reducible refine st_ixt (by with_unfolding_all assumption) (by with_unfolding_all exact rfl) ?_
    | with_reducible refine st_ixl (by with_unfolding_all assumption) (by with_unfolding_all exact rfl) ?_
    | with_reducible refine st_eq (by with_unfolding_all exact rfl) ?_
    | with_reducible refine st_bl ?_
    | with_reducible refine ifb_t ?_
    | with_reducible refine ifb_f ?_
    | with_reducible refine ifs_no (by decide +kernel) ?_
    | with_reducible refine ifs_yes rfl ?_
    | with_reducible refine ifs_yes lab_rfl ?_
    | with_reducible refine ifs_yes num_rfl ?_
    | with_reducible refine ifn_no (by decide +kernel) ?_
    | with_reducible refine ifn_yes rfl ?_
    | with_reducible refine ifnb_t ?_
    | with_reducible refine ifnb_f ?_
    | with_reducible refine st_ne (by with_unfolding_all exact rfl) ?_
    | with_reducible refine st_ix0 (by with_unfolding_all assumption) ?_))
theorem loop_partsL {K : PySem.W.Frag} {H : Hp} {as : List Bool} {vis : List Nm} {own : List Nm} {lp : Nat} {lz : Bool} {s : Stm} {sv : V} (he : EncS K H s sv) (hil : isLoop s = true) (hw : wfS vis own lp lz s) : ∃ (l : Option Nm) (b : Stms) (tst : Flg → Fl.Made → Option Bool × Fl.Made) (a0 : Addr) (vs : List V) (p1 : Addr) (ps : List V),
    sv = .ref a0 ∧ SqT K H a0 vs ∧ atI vs 1 = some (labV l) ∧ atI vs ((vs.length : Int) - 1) = some (.ref p1) ∧ SqT K H p1 ps ∧ EncX K H b ps ∧ wfR vis [] (lp + 1) lz b ∧ szR b + 1 = szS s ∧
    (∀ f m, exS as s f m = loopL (rndW l tst (exB as b)) rounds [] f m) ∧ (∀ f m, Gr as m (tst f m).1.isNone (tst f m).2) ∧
    ((∃ cd u, atI vs 0 = some (.str "while") ∧ atI vs 2 = some u ∧ EncC K H cd u ∧ wfC vis cd ∧ szC cd ≤ 18 ∧ ∀ f m, tst f m = evC as f cd m) ∨ (atI vs 0 = some (.str "for") ∧ ∀ f m, tst f m = (some true, m))) := by
  cases s with
  | whl l cd b =>
    obtain ⟨u, p1, ps, ⟨a0, rfl, h0⟩, h1, h2, h3⟩ := he
    obtain ⟨hlb, hwc, hsc, hwb⟩ := hw
    exact ⟨l, b, fun f m => evC as f cd m, a0, _, p1, ps, rfl, h0, rfl, rfl, h2, h3, hwb, rfl, fun f m => by simp only [exS]; rfl, fun f m => evC_gr as f cd m, .inl ⟨cd, u, rfl, rfl, h1, hwc, hsc, fun _ _ => rfl⟩⟩
  | forl l b =>
    obtain ⟨p1, ps, ⟨a0, rfl, h0⟩, h2, h3⟩ := he
    obtain ⟨hlb, hwb⟩ := hw
    exact ⟨l, b, alw, a0, _, p1, ps, rfl, h0, rfl, rfl, h2, h3, hwb, rfl, fun f m => by simp only [exS]; rfl, fun f m => Gr.refl as m, .inr ⟨rfl, fun _ _ => rfl⟩⟩
  | _ => simp [isLoop] at hil
theorem loopL_exit {g : Flg → Fl.Made → RO × Fl.Made} {n : Nat} {st : List Flg} {f : Flg} {m m1 : Fl.Made} {o : Out} (hf : f ∉ st) (e : g f m = (.exit o, m1)) : loopL g (n + 1) st f m = (o, m1) := by
  unfold loopL
  simp only [hf, if_false, e]
theorem loopL_again {g : Flg → Fl.Made → RO × Fl.Made} {n : Nat} {st : List Flg} {f f1 : Flg} {m m1 : Fl.Made} (hf : f ∉ st) (e : g f m = (.again f1, m1)) : loopL g (n + 1) st f m = loopL g n (if m.length < m1.length then [] else st ++ [f]) f1 m1 := by
  conv => lhs; unfold loopL
  simp only [hf, if_false, e]
theorem loopL_hit {g : Flg → Fl.Made → RO × Fl.Made} {n : Nat} {st : List Flg} {f : Flg} {m : Fl.Made} (hf : f ∈ st) : loopL g (n + 1) st f m = (.hang, m) := by
  show (if f ∈ st then _ else _) = _
  rw [if_pos hf]
/-- between two rounds -/
structure LWL (K : PySem.W.Frag) (p : LE0) (g : Flg → Fl.Made → RO × Fl.Made) (res : Res) (ns : List Nm) (pt : List Nat) (dn : List Dr) (rs : List Addr) (sa : Addr) (H H' : Hp) (n i : Nat) (st : List Flg) (f : Flg) (m : Fl.Made) : Prop where
  L : LAt K p H' f m pt dn rs
  sa : H' sa = some (.lst (st.map txF))
  fr : Fr (LM p rs) H H'
  lm : m.length ≤ p.as.length
  nf : nms f = ns
  s : ∀ g ∈ st, nms g = ns
  sl : st.length ≤ i
  e : loopL g n st f m = res
section
variable {P : Program} {w : World} {K : PySem.W.Frag} {mg : Str → Option Value} {base : Heap} {f fr fv : Addr} {fd dr dv : FuncData}
theorem ok_LLp {n k : Nat} (hk20 : 20 ≤ k) (ml : BN mg) (DV : DA K mg "_law_value" (top 41) ["_law_condition_here", "_law_flags", "_law_live"] fv dv) (DR : DA K mg "_law_row" (top 42) ["_law_body_here", "_law_flags", "_law_live"] fr dr) (GR : FnG P w K mg base k fr dr ["_law_body_here", "_law_flags", "_law_live"] (spLR K n)) (D : DA K mg "_law_loop" (top 43) ["_law_statement_here", "_law_flags", "_law_live"] f fd) :
    FnG P w K mg base (k + 1) f fd ["_law_statement_here", "_law_flags", "_law_live"] (spLS K isLoop (n + 1)) := by
  refine okG D.F scLLp (fun vs H Q E h => ?_) (fun cdv A outer s H vs Q E hgd hr h => ?_)
  · obtain ⟨p, fl, mk, pt, dn, rs, cv, c, own, lp, la, rfl, _⟩ := h
    rfl
  obtain ⟨p, fl, mk, pt, dn, rs, sv, st, own, lp, la, rfl, hil, L, he, hw, hsz, ft, q⟩ := h
  have GV := LV_all (P := P) (w := w) (base := base) ml DV 19
  refine ⟨_, (pss_cons (ps_set (i := 3) scLLp.nd rfl (Or.inl rfl) (pe_lst pa_nil))
      (pss_cons (ps_for PassesOwn.never rfl (pi_range1 rfl ml.range (pa_cons pe_int pa_nil)) (pg_name (i := 4) scLLp.nd rfl (Or.inl rfl)) (pss_cons (ps_set (i := 5) scLLp.nd rfl (Or.inl rfl) (pe_len ml.len (pe_ix ix_list (pv 2) pe_int (fun _ _ => rfl))))
      (pss_cons (ps_if (pt_cmpR op_in_seq (pe_callB (call_repr hgd (room_repr hr)) (by rfl) ml.repr boot_repr (pa_cons (pv 1) pa_nil)) (pv 3) (by with_unfolding_all rfl)) (pss_one (ps_ret (pe_tup (pa_cons pe_str pa_nil)))) pss_nil)
      (pss_cons (ps_expr (pe_bm PySem.F.plainAttrs_list PySem.F.slot_list_append PySem.F.type_list_append mt_append (pv 3) (pa_cons (pe_callB (call_repr hgd (room_repr hr)) (by rfl) ml.repr boot_repr (pa_cons (pv 1) pa_nil)) pa_nil)))
      (pss_cons (ps_if (pt_cmpR op_eq (pe_ix ix_tup (pv 0) pe_int (fun _ _ => rfl)) pe_str (nomark _)) (pss_cons (ps_expr (pe_bm PySem.F.plainAttrs_list PySem.F.slot_list_append PySem.F.type_list_append mt_append (pe_ix ix_list (pv 2) pe_int (fun _ _ => rfl)) (pa_cons pe_int pa_nil)))
      (pss_cons (ps_set (i := 6) scLLp.nd rfl (Or.inl rfl) (pe_cl DV GV (hr.mono (by omega)) (pa_cons (pe_ix ix_tup (pv 0) pe_int (fun _ _ => rfl)) (pa_cons (pv 1) (pa_cons (pv 2) pa_nil)))))
      (pss_cons (ps_if (pt_cmp (pc_isN (pv 6))) (pss_one (ps_ret (pe_tup (pa_cons pe_str pa_nil)))) pss_nil)
      (pss_cons (ps_expr (pe_bm0 PySem.F.plainAttrs_list PySem.F.slot_list_pop PySem.F.type_list_pop mt_pop (pe_ix ix_list (pv 2) pe_int (fun _ _ => rfl))))
      (pss_one (ps_if (pt_not (pt_val (pv 6))) (pss_one (ps_ret (pe_tup (pa_cons pe_str pa_nil)))) pss_nil)))))) pss_nil)
      (pss_cons (ps_expr (pe_bm PySem.F.plainAttrs_list PySem.F.slot_list_append PySem.F.type_list_append mt_append (pe_ix ix_list (pv 2) pe_int (fun _ _ => rfl)) (pa_cons pe_int pa_nil)))
      (pss_cons (ps_set (i := 7) scLLp.nd rfl (Or.inl rfl) (pe_clG DR GR hgd hr (pa_cons (pe_ix ix_tup (pv 0) (pe_op op_sub (pe_len ml.len (pv 0)) pe_int) (fun _ _ => rfl)) (pa_cons (pv 1) (pa_cons (pv 2) pa_nil)))))
      (pss_cons (ps_if (pw_or (pt_cmpR op_eq (pe_ix ix_tup (pv 7) pe_int (fun _ _ => rfl)) pe_str (nomark _)) (pw_or1 (pt_cmpR op_eq (pe_ix ix_tup (pv 7) pe_int (fun _ _ => rfl)) pe_str (nomark _)))).pt (pss_one (ps_ret (pv 7))) pss_nil)
      (pss_cons (ps_expr (pe_bm0 PySem.F.plainAttrs_list PySem.F.slot_list_pop PySem.F.type_list_pop mt_pop (pe_ix ix_list (pv 2) pe_int (fun _ _ => rfl))))
      (pss_cons (ps_if (pw_or (pt_cmpR op_eq (pe_ix ix_tup (pv 7) pe_int (fun _ _ => rfl)) pe_str (nomark _)) (pw_or1 (pt_cmpR op_eq (pe_ix ix_tup (pv 7) pe_int (fun _ _ => rfl)) pe_str (nomark _)))).pt (pss_cons (ps_set (i := 8) scLLp.nd rfl (Or.inl rfl) (pe_or (pe_cmp (pc_isN (pe_ix ix_tup (pv 7) pe_int (fun _ _ => rfl)))) (pe_or (pe_cmpR op_eq (pe_ix ix_tup (pv 7) pe_int (fun _ _ => rfl)) (pe_ix ix_tup (pv 0) pe_int (fun _ _ => rfl)) (nomark _)) (pe_one (pe_cmpR op_eq (pe_ix ix_tup (pv 7) pe_int (fun _ _ => rfl)) pe_int (nomark _))))))
      (pss_cons (ps_if (pw_and (pt_val (pv 8)) (pw_and1 (pt_cmpR op_eq (pe_ix ix_tup (pv 7) pe_int (fun _ _ => rfl)) pe_str (nomark _)))).pt (pss_one (ps_ret (pe_tup (pa_cons pe_str pa_nil)))) pss_nil)
      (pss_cons (ps_if (pw_and (pt_not (pt_val (pv 8))) (pw_and1 (pt_val (pe_callB call_isi (by rfl) ml.isinstance (by decide +kernel) (pa_cons (pe_ix ix_tup (pv 7) pe_int (fun _ _ => rfl)) (pa_cons (pe_bltn (v := .ty "int") (by rfl) ml.int (by decide +kernel) rfl) pa_nil)))))).pt (pss_one (ps_ret (pe_tup (pa_cons (pe_ix ix_tup (pv 7) pe_int (fun _ _ => rfl)) (pa_cons (pe_op op_sub (pe_ix ix_tup (pv 7) pe_int (fun _ _ => rfl)) pe_int) pa_nil))))) pss_nil)
      (pss_one (ps_if (pt_not (pt_val (pv 8))) (pss_one (ps_ret (pv 7))) pss_nil))))) (pss_one (ps_if (pt_cmpR op_ne (pe_ix ix_tup (pv 7) pe_int (fun _ _ => rfl)) pe_str (nomark _)) (pss_one (ps_ret (pv 7))) pss_nil)))
      (pss_one (ps_if (pt_cmpR op_gt (pe_len ml.len (pe_ix ix_list (pv 2) pe_int (fun _ _ => rfl))) (pv 5) (nomark _)) (pss_one (ps_set (i := 3) scLLp.nd rfl (Or.inl rfl) (pe_lst pa_nil))) pss_nil))))))))))))
      (pss_one (ps_ret (pe_tup (pa_cons pe_str pa_nil)))))), ?_⟩
  dsimp only [cxOf, Cx.nox]
  have hm := ft.m
  have ha4 := ft.a
  have hfl := ft.f
  have hpt := ft.t
  obtain ⟨l, b, tst, a0, vs, p1, ps, rfl, h0, hv1, hvm, h2, h3, hwb, ez, er, hgr, htst⟩ := loop_partsL (as := p.as) he hil hw
  rw [er] at q
  obtain ⟨g, hgd2⟩ : ∃ g, g = rndW l tst (exB p.as b) := ⟨_, rfl⟩
  have hg : FineG p.as (nms fl) g := by
    rw [hgd2]
    exact rndW_fine hgr fun f m hf => by rw [← hf]; exact exB_fine p.as b f m
  rw [← hgd2] at q
  obtain ⟨res, hres⟩ : ∃ r, r = loopL g rounds [] fl mk := ⟨_, rfl⟩
  rw [← hres] at q
  obtain ⟨rn, hrn⟩ : ∃ n, n = rounds := ⟨_, rfl⟩
  have hrn9 : rn = 9000 := hrn
  rw [← hrn] at hres
  clear er he hw hrn
  have hlf : ∀ {f1 : Flg}, nms f1 = nms fl → f1.length = fl.length := fun e => by rw [← nms_len, e, nms_len]
  repeat ac_rfl
  refine ⟨small3 (Nat.zero_le _), fun sa hsa => ?_⟩
  have s1 : Same H (upd H sa (.lst [])) := same_new hsa _
  have e1 : (upd H sa (.lst [])) sa = some (.lst []) := upd_same
  generalize upd H sa (.lst []) = H1 at s1 e1
  have nsa : sa ∉ p.six ++ rs := L.fresh hsa
  repeat ac_rfl
  refine ⟨(9000 : Int), rfl, by decide, by decide, for_range (n := 9000) (fun i σ H' => ∃ sa st f1 m1 o4 o5 o6 o7 o8, σ = [some (.ref a0), some (.ref p.fa), some (.ref p.la), some (.ref sa), o4, o5, o6, o7, o8] ∧ H sa = none ∧ LWL K p g res (nms fl) pt dn rs sa H H' (rn - i) i st f1 m1) ⟨sa, [], fl, mk, _, _, _, _, _, rfl, hsa, L.same s1, e1, Fr.of_same s1, hm, rfl, fun _ h => absurd h List.not_mem_nil, Nat.le_refl _, hres.symm⟩ ?_ ?_⟩
  · clear s1 e1 hsa nsa
    rintro i σ H2 hi ⟨sa, st, f1, m1, o4, o5, o6, o7, o8, rfl, hsa, W⟩
    have nsa : sa ∉ p.six ++ rs := L.fresh hsa
    have nsm : ¬ LM p rs sa := fun z => nsa z.mem
    have hl2 : SqL K H2 p.la [.ref p.aa, .ref p.ea, .ref p.pa, .ref p.da] := .inl (.inl W.L.l)
    have hlf1 := hlf W.nf
    have wok : ∀ {pt' : List Nat}, PtOk pt' → pt'.length ≤ 500 → WOk pt' dn f1 := fun a b => ⟨a, b, ft.dk, by have := ft.d; omega, ft.n.nms W.nf, by omega⟩
    have hsl := W.sl
    obtain ⟨rn', hrn'⟩ : ∃ r, rn - i = r + 1 := ⟨rn - i - 1, by omega⟩
    have hrn2 : rn - (i + 1) = rn' := by omega
    have We := W.e
    rw [hrn'] at We
    rw [hrn2]
    rw [Int.zero_add]
    repeat ac_rfl
    refine ⟨p.ea, _, rfl, .inl (.inl (.inl W.L.e)), ?_⟩
    repeat ac_rfl
    refine st_reprF W.L (ft.n.nms W.nf) (by omega) ?_
    repeat ac_rfl
    refine ⟨sa, _, rfl, .inl (.inl (.inl W.sa)), rfl, tx_flat st, ?_⟩
    refine ⟨_, rfl, ?_⟩
    have e5 : (if (false : Bool) = true then !inV (txF f1) (st.map txF) else inV (txF f1) (st.map txF)) = decide (f1 ∈ st) := tx_in fun g hg => (W.s g hg).trans W.nf.symm
    by_cases hin : f1 ∈ st
    · refine ifb_yes (e5.trans (decide_eq_true hin)) ?_
      rw [loopL_hit hin] at We
      repeat ac_rfl
      refine ⟨small3 (by decide), fun t ht => ?_⟩
      have st1 := same_new ht (.tup [.str "hang"])
      exact q.2.2.2 m1 We.symm _ _ f1 pt dn rs (W.fr.trans (Fr.of_same st1)) (W.L.same st1) (wok ft.tp (by omega)) (Nat.le_refl _) (Tp.of upd_same)
    refine ifb_no (e5.trans (decide_eq_false hin)) ?_
    repeat ac_rfl
    refine ⟨.inl ⟨rfl, _, .inl (.inl W.sa)⟩, ?_⟩
    repeat ac_rfl
    refine st_reprF W.L (ft.n.nms W.nf) (by omega) ?_
    repeat ac_rfl
    refine ⟨sa, _, _, rfl, rfl, W.sa, small_lt (by rw [List.length_map]; omega), ?_⟩
    have e6 : st.map txF ++ [V.str (dFl f1).shown] = (st ++ [f1]).map txF := by rw [List.map_append]; rfl
    rw [e6]
    have k3 : TK K H2 (upd H2 sa (.lst ((st ++ [f1]).map txF))) := TK.put _ W.sa (fun _ z => (by cases z)) fun _ _ z => (by cases z)
    have L3 := W.L.oth nsa k3
    have F3 : Fr (LM p rs) H (upd H2 sa (.lst ((st ++ [f1]).map txF))) := W.fr.upd (.inr hsa)
    have sa3 : (upd H2 sa (.lst ((st ++ [f1]).map txF))) sa = some (.lst ((st ++ [f1]).map txF)) := upd_same
    generalize upd H2 sa (.lst ((st ++ [f1]).map txF)) = H3 at k3 L3 F3 sa3
    have hl3 : SqL K H3 p.la [.ref p.aa, .ref p.ea, .ref p.pa, .ref p.da] := .inl (.inl L3.l)
    have kk3 := L.tk F3
    have h03 := kk3 _ _ h0
    have Wf := W.nf
    have Wm := W.lm
    have Ws := W.s
    clear W hl2 k3 e5 e6
    rw [List.length_map]
    with_reducible refine seq_cut (fun σ' H' => ∃ o6 m2, σ' = [some (.ref a0), some (.ref p.fa), some (.ref p.la), some (.ref sa), some (.int (i : Nat)), some (.int (m1.length : Nat)), o6, o7, o8] ∧ LAt K p H' f1 m2 pt dn rs ∧ Fr (LM p rs) H H' ∧ H' sa = some (.lst ((st ++ [f1]).map txF)) ∧ m2.length ≤ p.as.length ∧ tst f1 m1 = (some true, m2)) ?_ ?_
    rotate_left
    · intro N hN
      refine st_if ?_
      rcases htst with ⟨cd, u, hv0, hv2, h1, hwc, hsc, htt⟩ | ⟨hv0, htt⟩
      · repeat ac_rfl
        refine st_ixt h03 hv0 ?_
        repeat ac_rfl
        refine ⟨.inl ⟨rfl, _, .inl (.inl L3.t)⟩, ?_⟩
        repeat ac_rfl
        refine st_ppush (k := 0) L3 (by omega) fun H4 L4 f4 => ?_
        have F4 := F3.trans f4
        have k4 := L.tk F4
        have h04 := k4 _ _ h0
        repeat ac_rfl
        refine st_ixt h04 hv2 ?_
        repeat ac_rfl
        refine ⟨p, f1, m1, pt ++ [0], dn, rs, u, cd, rfl, L4, EncC.mono k4 cd h1, by rw [Wf]; exact hwc, by omega, Wm, ha4, by omega, by rw [List.length_append, List.length_singleton]; omega, by omega, ft.tp.snoc (by decide), fun tb m2 hb H5 f5 L5 => ?_, fun m2 hb H5 pt' f5 L5 ho hle => ?_⟩
        · have hm5 := evC_len p.as _ Wm hb
          have hl5 : SqL K H5 p.la [.ref p.aa, .ref p.ea, .ref p.pa, .ref p.da] := .inl (.inl L5.l)
          have F5 := F4.trans f5
          repeat ac_rfl
          refine ifs_no ne_non_bl ?_
          repeat ac_rfl
          refine st_ppop L5 fun H6 L6 f6 => ?_
          repeat ac_rfl
          cases tb with
          | true =>
            refine ifb_no rfl ?_
            repeat ac_rfl
            exact hN _ _ ⟨_, m2, rfl, L6, F5.trans f6, (f4.trans (f5.trans f6)) _ _ sa3 nsm, hm5, by rw [htt]; exact hb⟩
          | false =>
            refine ifb_yes rfl ?_
            have e9 : res = (.next f1, m2) := We.symm.trans (loopL_exit hin (by rw [hgd2]; simp only [rndW, htt, hb]))
            repeat ac_rfl
            refine ⟨small3 (by decide), fun t ht => ?_⟩
            have st1 := same_new ht (.tup [.str "normal"])
            exact q.1 f1 m2 e9 _ _ rs ((F5.trans f6).trans (Fr.of_same st1)) (L6.same st1) .refl (Tp.of upd_same)
        · have e9 : res = (.wait, m2) := We.symm.trans (loopL_exit hin (by rw [hgd2]; simp only [rndW, htt, hb]))
          repeat ac_rfl
          refine ⟨small3 (by decide), fun t ht => ?_⟩
          have st1 := same_new ht (.tup [.str "wait"])
          exact q.2.2.1 m2 e9 _ _ f1 pt' dn rs ((F4.trans f5).trans (Fr.of_same st1)) (L5.same st1) (wok ho (by rw [List.length_append, List.length_singleton] at hle; omega)) (Tp.of upd_same)
      · repeat ac_rfl
        refine st_ixt h03 hv0 ?_
        repeat ac_rfl
        exact hN _ _ ⟨_, m1, rfl, L3, F3, sa3, Wm, htt f1 m1⟩
    rintro _ H4 ⟨o6, m2, rfl, L4, F4, sa4, hm4, ht⟩
    clear L3 F3 sa3 hl3 kk3 h03 H3
    have k4 := L.tk F4
    have h04 := k4 _ _ h0
    have hl4 : SqL K H4 p.la [.ref p.aa, .ref p.ea, .ref p.pa, .ref p.da] := .inl (.inl L4.l)
    have eg : ∀ r, exB p.as b f1 m2 = r → g f1 m1 = bodyRO l r := fun r e => by
      rw [hgd2]; simp only [rndW, ht, e]
    have eout : ∀ o m3, g f1 m1 = (.exit o, m3) → res = (o, m3) := fun o m3 e => We.symm.trans (loopL_exit hin e)
    have ein : ∀ f3 m3, g f1 m1 = (.again f3, m3) → loopL g rn' (if m1.length < m3.length then [] else st ++ [f1]) f3 m3 = res := fun f3 m3 e => (loopL_again hin e).symm.trans We
    with_reducible refine seq_cut4 (fun σ' H' => ∃ v f3 m3, σ' = [some (.ref a0), some (.ref p.fa), some (.ref p.la), some (.ref sa), some (.int (i : Nat)), some (.int (m1.length : Nat)), o6, some v, o8] ∧ LAt K p H' f3 m3 pt dn rs ∧ Fr (LM p rs) H H' ∧ H' sa = some (.lst ((st ++ [f1]).map txF)) ∧ m3.length ≤ p.as.length ∧ nms f3 = nms fl ∧ ((Tp K H' v [.str "normal"] ∧ g f1 m1 = (.again f3, m3)) ∨ ∃ j, EncJ K H' j v ∧ g f1 m1 = (jumpRO l j f3, m3))) ?_ ?_
    rotate_left
    · intro N hN
      repeat ac_rfl
      refine ⟨.inl ⟨rfl, _, .inl (.inl L4.t)⟩, ?_⟩
      repeat ac_rfl
      refine st_ppush (k := 1) L4 (by omega) fun H5 L5 f5 => ?_
      have F5 := F4.trans f5
      have k5 := L.tk F5
      have h05 := k5 _ _ h0
      repeat ac_rfl
      refine ⟨a0, _, rfl, .inr h05, ?_⟩
      repeat ac_rfl
      refine st_ixt h05 hvm ?_
      repeat ac_rfl
      have two : ∀ {H6 : Hp} {f3 m3 rs2}, LAt K p H6 f3 m3 (pt ++ [1]) dn rs2 → RsExt H5 rs rs2 → nms f3 = nms f1 → rs2 = rs := fun L6 x6 e => x6.same (by rw [L6.r.len, L.r.len, hlf (e.trans Wf)])
      refine ⟨p, f1, m2, pt ++ [1], dn, rs, _, b, lp + 1, la, rfl, L5, ⟨p1, ps, rfl, k5 _ _ h2, EncX.mono k5 b h3⟩, by rw [Wf]; exact hwb, by omega, ft.go hm4 (by omega) (ft.n.nms Wf) (by rw [List.length_append, List.length_singleton]; omega) (ft.tp.snoc (by decide)) (by omega) ft.dk, by rw [List.length_append, List.length_singleton]; omega, fun f3 m3 e2 H6 rv rs2 f6 L6 x6 ev => ?_, fun j f3 m3 e2 H6 rv rs2 f6 L6 x6 ev => ?_, fun m3 e2 H6 rv f3 pt2 dn2 rs2 f6 L6 wk ev => ?_, fun m3 e2 H6 rv f3 pt2 dn2 rs2 f6 L6 wk wge ev => ?_⟩
      · have hfm := (exB_len p.as (ss := b) (fl := f1) (f := f3) (m := m3) hm4).1 e2
        obtain rfl := two L6 x6 hfm.2
        obtain ⟨ar, rfl, hrv⟩ := ev
        have hl6 : SqL K H6 p.la [.ref p.aa, .ref p.ea, .ref p.pa, .ref p.da] := .inl (.inl L6.l)
        repeat ac_rfl
        refine st_ppop L6 fun H7 L7 f7 => ?_
        repeat ac_rfl
        exact hN _ _ ⟨_, f3, m3, rfl, L7, (F5.trans f6).trans f7, ((f5.trans f6).trans f7) _ _ sa4 nsm, hfm.1, hfm.2.trans Wf, .inl ⟨⟨ar, rfl, (L6.tk f7) _ _ hrv⟩, eg _ e2⟩⟩
      · have hfm := (exB_len p.as (ss := b) (fl := f1) (f := f3) (m := m3) hm4).2 j e2
        obtain rfl := two L6 x6 hfm.2
        have hl6 : SqL K H6 p.la [.ref p.aa, .ref p.ea, .ref p.pa, .ref p.da] := .inl (.inl L6.l)
        have fin : ∀ H7, LAt K p H7 f3 m3 pt dn rs2 → Fr (LM p rs2) H6 H7 → N [some (.ref a0), some (.ref p.fa), some (.ref p.la), some (.ref sa), some (.int (i : Nat)), some (.int (m1.length : Nat)), o6, some rv, o8] H7 := fun H7 L7 f7 => hN _ _ ⟨_, f3, m3, rfl, L7, (F5.trans f6).trans f7, ((f5.trans f6).trans f7) _ _ sa4 nsm, hfm.1, hfm.2.trans Wf, .inr ⟨j, ev.mono (L6.tk f7), eg _ e2⟩⟩
        cases j with
        | ret nn =>
          obtain ⟨aj, rfl, hj⟩ := ev
          repeat ac_rfl
          refine st_ppop L6 fun H7 L7 f7 => ?_
          repeat ac_rfl
          exact fin H7 L7 f7
        | brk nn =>
          obtain ⟨aj, rfl, hj⟩ := ev
          repeat ac_rfl
          refine st_ppop L6 fun H7 L7 f7 => ?_
          repeat ac_rfl
          exact fin H7 L7 f7
        | cont nn =>
          obtain ⟨aj, rfl, hj⟩ := ev
          repeat ac_rfl
          refine st_ppop L6 fun H7 L7 f7 => ?_
          repeat ac_rfl
          exact fin H7 L7 f7
      · have e9 := eout .wait m3 (eg _ e2)
        obtain ⟨ar, rfl, hrv⟩ := ev
        repeat ac_rfl
        exact q.2.2.1 m3 e9 H6 _ f3 pt2 dn2 rs2 (F5.trans f6) L6 wk ⟨ar, rfl, hrv⟩
      · have e9 := eout .hang m3 (eg _ e2)
        obtain ⟨ar, rfl, hrv⟩ := ev
        repeat ac_rfl
        exact q.2.2.2 m3 e9 H6 _ f3 pt2 dn2 rs2 (F5.trans f6) L6 wk (by rw [List.length_append] at wge; omega) ⟨ar, rfl, hrv⟩
    clear eg ht
    rintro _ H5 ⟨v, f3, m3, rfl, L5, F5, sa5, hm5, hf5, hv⟩
    clear L4 F4 sa4 hl4 k4 h04 H4
    have k5 := L.tk F5
    have h05 := k5 _ _ h0
    have hl5 : SqL K H5 p.la [.ref p.aa, .ref p.ea, .ref p.pa, .ref p.da] := .inl (.inl L5.l)
    with_reducible refine seq_cut (fun σ' H' => H' = H5 ∧ ∃ o8, σ' = [some (.ref a0), some (.ref p.fa), some (.ref p.la), some (.ref sa), some (.int (i : Nat)), some (.int (m1.length : Nat)), o6, some v, o8] ∧ loopL g rn' (if m1.length < m3.length then [] else st ++ [f1]) f3 m3 = res) ?_ ?_
    · rintro _ _ ⟨rfl, o8', rfl, ee⟩
      repeat ac_rfl
      refine ⟨p.ea, _, rfl, .inl (.inl (.inl L5.e)), ?_⟩
      repeat ac_rfl
      rw [List.length_map]
      by_cases hc : m1.length < m3.length
      · refine ifb_yes (decide_eq_true (by omega)) ?_
        rw [if_pos hc] at ee
        repeat ac_rfl
        refine ⟨small3 (Nat.zero_le _), fun sb hsb => ?_⟩
        have sb1 := same_new hsb (.lst [])
        repeat ac_rfl
        refine ⟨sb, [], f3, m3, _, _, _, _, _, rfl, L5.none_of (rs := rs) F5 hsb, L5.same sb1, upd_same, F5.trans (Fr.of_same sb1), hm5, hf5, fun _ h => absurd h List.not_mem_nil, Nat.zero_le _, ee⟩
      · refine ifb_no (decide_eq_false (by omega)) ?_
        rw [if_neg hc] at ee
        repeat ac_rfl
        exact ⟨sa, st ++ [f1], f3, m3, _, _, _, _, _, rfl, hsa, L5, sa5, F5, hm5, hf5, fun g hg => by
          rcases List.mem_append.mp hg with z | z
          · exact Ws g z
          · rw [List.mem_singleton.mp z]; exact Wf, by rw [List.length_append, List.length_singleton]; omega, ee⟩
    · intro N hN
      have inn : ∀ {f4 o8'}, g f1 m1 = (.again f4, m3) → f4 = f3 → N [some (.ref a0), some (.ref p.fa), some (.ref p.la), some (.ref sa), some (.int (i : Nat)), some (.int (m1.length : Nat)), o6, some v, o8'] H5 := fun e ee => by
        subst ee
        exact hN _ _ ⟨rfl, _, rfl, ein _ _ e⟩
      rcases hv with ⟨ev, e2⟩ | ⟨j, ev, e2⟩
      · have fin := inn (o8' := o8) e2 rfl
        obtain ⟨ar, rfl, hrv⟩ := ev
        repeat ac_rfl
        exact fin
      have ev0 := ev
      have out : jumpRO l j f3 = .exit (.jump j f3) → Q v H5 := fun e => q.2.1 _ _ m3 (eout _ _ (e2.trans (by rw [e]))) H5 v rs F5 L5 .refl ev0
      have brk : jumpRO l j f3 = .exit (.next f3) → ∀ t, H5 t = none → Q (.ref t) (upd H5 t (.tup [.str "normal"])) := fun e t ht => q.1 _ m3 (eout _ _ (e2.trans (by rw [e]))) _ _ rs (F5.trans (Fr.of_same (same_new ht _))) (L5.same (same_new ht _)) .refl (Tp.of upd_same)
      have inn2 : ∀ {o8'}, jumpRO l j f3 = .again f3 → N [some (.ref a0), some (.ref p.fa), some (.ref p.la), some (.ref sa), some (.int (i : Nat)), some (.int (m1.length : Nat)), o6, some v, o8'] H5 := fun e => inn (e2.trans (by rw [e])) rfl
      clear q hN e2 inn ein eout We
      cases j with
      | ret nn =>
        obtain ⟨aj, rfl, hj⟩ := ev
        repeat ac_rfl
        exact out rfl
      | brk lj =>
        obtain ⟨aj, rfl, hj⟩ := ev
        repeat ac_rfl
        refine st_orV ?_
        repeat ac_rfl
        cases lj with
        | none =>
          refine ifs_yes rfl ?_
          repeat ac_rfl
          refine ⟨small3 (by decide), fun t ht => ?_⟩
          exact brk (by simp [jumpRO]) t ht
        | some x =>
          refine ifs_no ne_non_str ?_
          refine st_orV ?_
          repeat ac_rfl
          refine st_ixt h05 hv1 ?_
          cases l with
          | none =>
            repeat ac_rfl
            refine ifs_no (fun z => by cases z) ?_
            repeat ac_rfl
            refine ifs_no (fun z => by cases z) ?_
            repeat ac_rfl
            refine ifn_no (fun z => by cases z) ?_
            repeat ac_rfl
            refine ⟨_, _, _, _, false, rfl, .ty "int", .base (.str x), kit_ty (by decide +kernel), ?_⟩
            repeat ac_rfl
            refine ifn_no (fun z => by cases z) ?_
            repeat ac_rfl
            exact out (by simp [jumpRO])
          | some y =>
            repeat ac_rfl
            by_cases hxy : x = y
            · subst hxy
              refine ifs_yes rfl ?_
              repeat ac_rfl
              refine ⟨small3 (by decide), fun t ht => ?_⟩
              exact brk (by simp [jumpRO]) t ht
            · refine ifs_no (fun z => hxy (by injection z)) ?_
              repeat ac_rfl
              refine ifs_no (fun z => by cases z) ?_
              repeat ac_rfl
              refine ifn_no (fun z => by cases z) ?_
              repeat ac_rfl
              refine ⟨_, _, _, _, false, rfl, .ty "int", .base (.str x), kit_ty (by decide +kernel), ?_⟩
              repeat ac_rfl
              refine ifn_no (fun z => by cases z) ?_
              repeat ac_rfl
              exact out (by simp [jumpRO, hxy])
      | cont lj =>
        obtain ⟨aj, rfl, hj⟩ := ev
        repeat ac_rfl
        refine st_orV ?_
        repeat ac_rfl
        cases lj with
        | none =>
          refine ifs_yes rfl ?_
          repeat ac_rfl
          exact inn2 (by simp [jumpRO])
        | some x =>
          refine ifs_no ne_non_str ?_
          refine st_orV ?_
          repeat ac_rfl
          refine st_ixt h05 hv1 ?_
          cases l with
          | none =>
            repeat ac_rfl
            refine ifs_no (fun z => by cases z) ?_
            repeat ac_rfl
            refine ifs_no (fun z => by cases z) ?_
            repeat ac_rfl
            refine ifn_no (fun z => by cases z) ?_
            repeat ac_rfl
            refine ⟨_, _, _, _, false, rfl, .ty "int", .base (.str x), kit_ty (by decide +kernel), ?_⟩
            repeat ac_rfl
            refine ifn_no (fun z => by cases z) ?_
            repeat ac_rfl
            exact out (by simp [jumpRO])
          | some y =>
            repeat ac_rfl
            by_cases hxy : x = y
            · subst hxy
              refine ifs_yes rfl ?_
              repeat ac_rfl
              exact inn2 (by simp [jumpRO])
            · refine ifs_no (fun z => hxy (by injection z)) ?_
              repeat ac_rfl
              refine ifs_no (fun z => by cases z) ?_
              repeat ac_rfl
              refine ifn_no (fun z => by cases z) ?_
              repeat ac_rfl
              refine ⟨_, _, _, _, false, rfl, .ty "int", .base (.str x), kit_ty (by decide +kernel), ?_⟩
              repeat ac_rfl
              refine ifn_no (fun z => by cases z) ?_
              repeat ac_rfl
              exact out (by simp [jumpRO, hxy])
  · rintro σ H2 ⟨sa, st, f1, m1, o4, o5, o6, o7, o8, rfl, hsa, W⟩
    have We := W.e
    rw [hrn9] at We
    have We' : (Out.hang, m1) = res := We
    have hlf1 := hlf W.nf
    repeat ac_rfl
    refine ⟨small3 (by decide), fun t ht => ?_⟩
    have st1 := same_new ht (.tup [.str "hang"])
    exact q.2.2.2 m1 We'.symm _ _ f1 pt dn rs (W.fr.trans (Fr.of_same st1)) (W.L.same st1) ⟨ft.tp, by omega, ft.dk, by have := ft.d; omega, ft.n.nms W.nf, by omega⟩ (Nat.le_refl _) (Tp.of upd_same)
end
end K23
namespace K23
open PySem PySem.Spec PyProof.Rows L2 Fl RT
local macro_rules | `(tactic| ac_rfl) => `(tactic| (
  first
    | with_reducible refine Stp.go ?_
    | with_reducible refine st_var (by with_unfolding_all exact rfl) ?_
    | with_reducible refine st_ixt (by with_unfolding_all assumption) (by with_unfolding_all exact rfl) ?_
    | with_reducible refine st_ixl (by with_unfolding_all assumption) (by with_unfolding_all exact rfl) ?_
    | with_reducible refine st_eq (by with_unfolding_all exact rfl) ?_
    | with_reducible refine st_bl ?_
    | with_reducible refine ifb_t ?_
    | with_reducible refine ifb_f ?_
    | with_reducible refine ifs_no (by decide +kernel) ?_
    | with_reducible refine ifs_yes rfl ?_
    | with_reducible refine ifs_yes lab_rfl ?_
    | with_reducible refine ifs_yes num_rfl ?_
    | with_reducible refine ifn_no (by decide +kernel) ?_
    | with_reducible refine ifn_yes rfl ?_
    | with_reducible refine ifnb_t ?_
    | with_reducible refine ifnb_f ?_
    | with_reducible refine st_ne (by with_unfolding_all exact rfl) ?_
    | with_reducible refine st_ix0 (by with_unfolding_all assumption) ?_))
section
variable {P : Program} {w : World} {K : PySem.W.Frag} {mg : Str → Option Value} {base : Heap} {f fr : Addr} {fd dr : FuncData}
theorem ok_LR {n k : Nat} (ml : BN mg) (DR : DA K mg "_law_done" (top 45) ["_law_statement_here", "_law_flags", "_law_live"] fr dr) (GR : FnG P w K mg base k fr dr ["_law_statement_here", "_law_flags", "_law_live"] (spLS K anyS (n + 1))) (D : DA K mg "_law_row" (top 42) ["_law_body_here", "_law_flags", "_law_live"] f fd) :
    FnG P w K mg base (k + 1) f fd ["_law_body_here", "_law_flags", "_law_live"] (spLR K (n + 1)) := by
  refine okG D.F scLR (fun vs H Q E h => ?_) (fun cdv A outer s H vs Q E hgd hr h => ?_)
  · obtain ⟨p, fl, mk, pt, dn, rs, cv, c, lp, la, rfl, _⟩ := h
    rfl
  obtain ⟨p, fl, mk, pt, dn, rs, bv, ss, lp, la, rfl, L, ⟨pb, bs, rfl, hS, hx⟩, hw, hsz, ft, hp1, q⟩ := h
  refine ⟨_, (pss_cons (ps_set (i := 3) scLR.nd rfl (Or.inl rfl) (pe_len ml.len (pv 1)))
      (pss_cons (ps_for PassesOwn.never rfl (pi_range1 rfl ml.range (pa_cons (pe_len ml.len (pv 0)) pa_nil)) (pg_name (i := 4) scLR.nd rfl (Or.inl rfl)) (pss_cons (ps_expr (pe_bm PySem.F.plainAttrs_list PySem.F.slot_list_append PySem.F.type_list_append mt_append (pe_ix ix_list (pv 2) pe_int (fun _ _ => rfl)) (pa_cons (pv 4) pa_nil)))
      (pss_cons (ps_set (i := 5) scLR.nd rfl (Or.inl rfl) (pe_clG DR GR hgd hr (pa_cons (pe_ix ix_tup (pv 0) (pv 4) (fun _ _ => rfl)) (pa_cons (pv 1) (pa_cons (pv 2) pa_nil)))))
      (pss_cons (ps_if (pt_cmpR op_eq (pe_ix ix_tup (pv 5) pe_int (fun _ _ => rfl)) pe_str (nomark _)) (pss_one (ps_ret (pv 5))) pss_nil)
      (pss_cons (ps_expr (pe_bm0 PySem.F.plainAttrs_list PySem.F.slot_list_pop PySem.F.type_list_pop mt_pop (pe_ix ix_list (pv 2) pe_int (fun _ _ => rfl))))
      (pss_one (ps_if (pt_cmpR op_ne (pe_ix ix_tup (pv 5) pe_int (fun _ _ => rfl)) pe_str (nomark _)) (pss_cons (ps_while PassesOwn.never (pt_cmpR op_gt (pe_len ml.len (pv 1)) (pv 3) (nomark _)) (pss_one (ps_expr (pe_bm0 PySem.F.plainAttrs_list PySem.F.slot_list_pop PySem.F.type_list_pop mt_pop (pv 1)))))
      (pss_one (ps_ret (pv 5)))) pss_nil)))))))
      (pss_cons (ps_while PassesOwn.never (pt_cmpR op_gt (pe_len ml.len (pv 1)) (pv 3) (nomark _)) (pss_one (ps_expr (pe_bm0 PySem.F.plainAttrs_list PySem.F.slot_list_pop PySem.F.type_list_pop mt_pop (pv 1)))))
      (pss_one (ps_ret (pe_tup (pa_cons pe_str pa_nil))))))), ?_⟩
  dsimp only [cxOf, Cx.nox]
  have hm := ft.m
  have ha4 := ft.a
  have hfl := ft.f
  have hlr := lenR_le ss
  have hbs := hx.len
  have hrl := L.r.len
  unfold exB at q
  repeat ac_rfl
  refine ⟨p.fa, _, rfl, .inl (.inl (.inl L.f)), ?_⟩
  refine st_name ?_
  rw [List.length_map, hrl]
  with_reducible refine seq_cut (fun σ' H' => ∃ f1 m1 rk o4 o5, σ' = [some (.ref pb), some (.ref p.fa), some (.ref p.la), some (natV fl.length), o4, o5] ∧ LAt K p H' f1 m1 pt dn rk ∧ RsExt H rs rk ∧ Fr (LM p rs) H H' ∧ exR p.as ss fl mk = (.next f1, m1)) ?_ ?_
  · rintro _ H2 ⟨f1, m1, rk, o4, o5, rfl, L2, x2, F2, ee⟩
    rw [ee] at q
    refine st_seq ?_
    refine st_pops (n := fl.length) L2 rfl rfl fun H3 L3 F3 => ?_
    have F3' := fr_ext x2 F2 (F3.fa rk)
    rw [← hrl, x2.take] at L3
    repeat ac_rfl
    refine ⟨small3 (by decide), fun t ht => ?_⟩
    have st1 := same_new ht (.tup [.str "normal"])
    exact q.1 _ m1 rfl _ _ rs (F3'.trans (Fr.of_same st1)) (by rw [← hrl]; exact L3.same st1) .refl (Tp.of upd_same)
  intro N hN
  refine ⟨_, rfl, pb, _, rfl, .inr hS, _, rfl, by omega, by omega, for_range (n := bs.length) (fun i σ H' => ∃ f1 m1 rk o4 o5, σ = [some (.ref pb), some (.ref p.fa), some (.ref p.la), some (natV fl.length), o4, o5] ∧ LAt K p H' f1 m1 pt dn rk ∧ RsExt H rs rk ∧ Fr (LM p rs) H H' ∧ m1.length ≤ p.as.length ∧
    exR p.as ss fl mk = exR p.as (dropR ss i) f1 m1 ∧ (∃ own, wfR (nms f1) own lp la (dropR ss i)) ∧ NmsOk f1 ∧ f1.length + szR (dropR ss i) ≤ fl.length + szR ss) ⟨fl, mk, rs, none, none, rfl, L, .refl, Fr.refl, hm, ?_, ⟨[], ?_⟩, ft.n, ?_⟩ ?_ ?_⟩
  · have e : dropR ss 0 = ss := by cases ss <;> rfl
    rw [e]
  · have e : dropR ss 0 = ss := by cases ss <;> rfl
    rw [e]; exact hw
  · have e : dropR ss 0 = ss := by cases ss <;> rfl
    rw [e]; exact Nat.le_refl _
  · rintro i σ H2 hi ⟨f1, m1, rk, o4, o5, rfl, L2, x2, F2, hm2, ee, ⟨own, hw2⟩, hno, hl2⟩
    have hgi : bs[i]? = some bs[i] := List.getElem?_eq_getElem hi
    obtain ⟨st, hst, hse⟩ := hx.at hgi
    have hszs : szS st ≤ szR ss := szR_get hst
    rw [exR_step hst] at ee
    rw [dropR_get hst] at hw2 hl2
    obtain ⟨hws, hwr⟩ := wfR_cons.mp hw2
    have esz : szR (.cons st (dropR ss (i + 1))) = szS st + szR (dropR ss (i + 1)) := rfl
    rw [esz] at hl2
    have k2 := L.tk F2
    have hl2' : SqL K H2 p.la [.ref p.aa, .ref p.ea, .ref p.pa, .ref p.da] := .inl (.inl L2.l)
    have hdl := ft.d
    rw [Int.zero_add]
    repeat ac_rfl
    refine ⟨.inl ⟨rfl, _, .inl (.inl L2.t)⟩, ?_⟩
    repeat ac_rfl
    refine st_ppush (k := i) L2 (by omega) fun H3 L3 f3 => ?_
    have F3 := fr_ext x2 F2 f3
    have k3 := L.tk F3
    repeat ac_rfl
    refine st_ixt (k3 _ _ hS) (atI_nat hgi) ?_
    repeat ac_rfl
    refine ⟨p, f1, m1, pt ++ [i], dn, rk, bs[i], st, own, lp, la, rfl, rfl, L3, EncS.mono k3 st hse, hws, by omega, ⟨hm2, ha4, by omega, hno, by rw [List.length_append, List.length_singleton]; omega, ft.tp.snoc (by omega), by omega, ft.dk⟩, fun f4 m4 e2 H4 rv rs4 f4' L4 x4 ev => ?_, fun j f4 m4 e2 H4 rv rs4 f4' L4 x4 ev => ?_, fun m4 e2 H4 rv f4 pt2 dn2 rs4 f4' L4 wk ev => ?_, fun m4 e2 H4 rv f4 pt2 dn2 rs4 f4' L4 wk wge ev => ?_⟩
    · have hx3 := exS_fin p.as st f1 m1
      rw [e2] at ee hx3
      have F4 := fr_ext x2 F3 f4'
      have hm4 := (hx3.gr.2 hm2).1 rfl
      have hn4 : nms f4 = nms f1 ++ addsS st := hx3.nx f4 rfl
      have hle4 : f4.length ≤ f1.length + szS st := by
        have := congrArg List.length hn4
        rw [nms_len, List.length_append, nms_len] at this
        have := adds_len st
        omega
      have x5 := x2.trans F3 L3 x4
      have hl4 : SqL K H4 p.la [.ref p.aa, .ref p.ea, .ref p.pa, .ref p.da] := .inl (.inl L4.l)
      obtain ⟨ar, rfl, hrv⟩ := ev
      repeat ac_rfl
      refine st_ppop L4 fun H5 L5 f5 => ?_
      have hrv5 := (L4.tk f5) _ _ hrv
      repeat ac_rfl
      refine ⟨f4, m4, rs4, _, _, rfl, L5, x5, fr_ext x5 F4 f5, hm4, by rw [ee]; rfl, ⟨_, by rw [hn4]; exact hwr⟩, nms_ok.mpr fun x hx => ?_, by omega⟩
      rw [hn4] at hx
      rcases List.mem_append.mp hx with z | z
      · exact nms_ok.mp hno x z
      · exact letOk hws x z
    · have hx3 := exS_fin p.as st f1 m1
      rw [e2] at ee hx3
      have F4 := fr_ext x2 F3 f4'
      have x5 := x2.trans F3 L3 x4
      have hl4 : SqL K H4 p.la [.ref p.aa, .ref p.ea, .ref p.pa, .ref p.da] := .inl (.inl L4.l)
      have fin : ∀ H5, LAt K p H5 (f4.take fl.length) m4 pt dn (rs4.take fl.length) → Fr (LM p rs) H H5 → EncJ K H5 j rv → Q rv H5 := fun H5 L5 F5 ev5 => by
        rw [← hrl, x5.take] at L5
        refine q.2.1 j (f4.take fl.length) m4 (by rw [ee]; rfl) H5 rv rs F5 (by rw [← hrl]; exact L5) .refl ev5
      cases j <;>
      · obtain ⟨aj, rfl, hj⟩ := ev
        repeat ac_rfl
        refine st_ppop L4 fun H5 L5 f5 => ?_
        have hj5 := (L4.tk f5) _ _ hj
        repeat ac_rfl
        refine st_pops (n := fl.length) L5 rfl rfl fun H6 L6 f6 => ?_
        have hj6 := (L5.tk (f6.fa rs4)) _ _ hj5
        repeat ac_rfl
        exact fin H6 L6 (fr_ext x5 (fr_ext x5 F4 f5) (f6.fa rs4)) ⟨aj, rfl, hj6⟩
    · rw [e2] at ee
      have F4 := fr_ext x2 F3 f4'
      obtain ⟨ar, rfl, hrv⟩ := ev
      repeat ac_rfl
      exact q.2.2.1 m4 (by rw [ee]; rfl) H4 _ f4 pt2 dn2 rs4 F4 L4 wk ⟨ar, rfl, hrv⟩
    · rw [e2] at ee
      have F4 := fr_ext x2 F3 f4'
      have hl4 : SqL K H4 p.la [.ref p.aa, .ref p.ea, .ref p.pa, .ref p.da] := .inl (.inl L4.l)
      obtain ⟨ar, rfl, hrv⟩ := ev
      rw [List.length_append, List.length_singleton] at wge
      repeat ac_rfl
      refine st_ppopH L4 (by intro z; rw [z] at wge; simp at wge) fun u H5 L5 f5 => ?_
      have hrv5 := (L4.tk (f5.pa rs4)) _ _ hrv
      repeat ac_rfl
      refine st_pops (n := fl.length) L5 rfl rfl fun H6 L6 f6 => ?_
      have hrv6 := (L5.tk (f6.fa rs4)) _ _ hrv5
      repeat ac_rfl
      have hd := List.length_dropLast (xs := pt2)
      have hwl := wk.le
      exact q.2.2.2 m4 (by rw [ee]; rfl) H6 _ _ _ dn2 _ ((F4.trans (f5.pa rs)).trans (f6.fa rs)) L6 ⟨fun k hk => wk.p k ((List.dropLast_sublist _).subset hk), by omega, wk.d, wk.dl, wk.n.take _, Nat.le_trans (List.length_take_le _ _) (by omega)⟩ (by omega) ⟨ar, rfl, hrv6⟩
  · rintro σ H2 ⟨f1, m1, rk, o4, o5, rfl, L2, x2, F2, hm2, ee, hw2, hno, hl2⟩
    have e : dropR ss bs.length = .nil := dropR_end (by rw [hbs]; exact Nat.le_refl _)
    rw [e] at ee
    exact hN _ _ ⟨f1, m1, rk, _, _, rfl, L2, x2, F2, by rw [ee]; simp only [exR]⟩
end
end K23
namespace K23
open PySem PySem.Spec PyProof.Rows L2 Fl RT
local macro_rules | `(tactic| ac_rfl) => `(tactic| (
  first
    | with_reducible refine Stp.go ?_
    | with_reducible refine st_var (by with_unfolding_all exact rfl) ?_
    | with_reducible refine st_ixt (by with_unfolding_all assumption) (by with_unfolding_all exact rfl) ?_
    | with_reducible refine st_ixl (by with_unfolding_all assumption) (by with_unfolding_all exact rfl) ?_
    | with_reducible refine st_eq (by with_unfolding_all exact rfl) ?_
    | with_reducible refine st_bl ?_
    | with_reducible refine ifb_t ?_
    | with_reducible refine ifb_f ?_
    | with_reducible refine ifs_no (by decide +kernel) ?_
    | with_reducible refine ifs_yes rfl ?_
    | with_reducible refine ifs_yes lab_rfl ?_
    | with_reducible refine ifs_yes num_rfl ?_
    | with_reducible refine ifn_no (by decide +kernel) ?_
    | with_reducible refine ifn_yes rfl ?_
    | with_reducible refine ifnb_t ?_
    | with_reducible refine ifnb_f ?_
    | with_reducible refine st_ne (by with_unfolding_all exact rfl) ?_
    | with_reducible refine st_ix0 (by with_unfolding_all assumption) ?_))
/-- a flag is declared -/
theorem LAt.let_ {K : PySem.W.Frag} {p : LE0} {H : Hp} {fl : Flg} {mk : Fl.Made} {pt : List Nat} {dn : List Dr} {rs : List Addr} (L : LAt K p H fl mk pt dn rs) {t : Addr} (ht : H t = none) (x : Nm) (b : Bool) :
    LAt K p (upd (upd H t (.lst [.str x, .bl b])) p.fa (.lst (rs.map V.ref ++ [.ref t]))) (fl ++ [(x, b)]) mk pt dn (rs ++ [t]) ∧ Fr (LM p rs) H (upd (upd H t (.lst [.str x, .bl b])) p.fa (.lst (rs.map V.ref ++ [.ref t]))) := by
  have L1 := L.same (same_new ht (.lst [.str x, .bl b]))
  have nt := L.fresh ht
  have nd' : (p.six ++ (rs ++ [t])).Nodup := by
    rw [← List.append_assoc]
    refine List.nodup_append.mpr ⟨L.nd, by simp, fun a ha b hb z => nt (by rw [List.mem_singleton.mp hb] at z; rw [← z]; exact ha)⟩
  have e : rs.map V.ref ++ [V.ref t] = (rs ++ [t]).map V.ref := by rw [List.map_append]; rfl
  rw [e]
  obtain ⟨L2, _⟩ := L1.flg (fl' := fl ++ [(x, b)]) (rs' := rs ++ [t]) (L1.r.app ⟨t, [], rfl, upd_same, rfl⟩) nd'
  exact ⟨L2, (Fr.of_same (same_new ht _)).upd (.inl (.inl rfl))⟩
theorem smN {n : Nat} (h : Nat.ble n 100000 = true) : n ≤ sizeLine := small3 (Nat.le_of_ble_eq_true h)
theorem fit_in {p : LE0} {fl : Flg} {mk m : Fl.Made} {pt : List Nat} {dn : List Dr} {s s' : Nat} (h : LFit p fl mk pt dn s) (hm : m.length ≤ p.as.length) (hs : s' + 1 ≤ s) : LFit p fl m pt dn s' ∧ pt.length + 3 * s' + 1 ≤ 400 :=
  ⟨h.go hm (by omega) h.n (by omega) h.tp (by omega) h.dk, by have := h.t; omega⟩
theorem fit_in1 {p : LE0} {fl : Flg} {mk m : Fl.Made} {pt : List Nat} {dn : List Dr} {s s' k : Nat} (h : LFit p fl mk pt dn s) (hm : m.length ≤ p.as.length) (hs : s' + 1 ≤ s) (hk : k < 100) : LFit p fl m (pt ++ [k]) dn s' ∧ (pt ++ [k]).length + 3 * s' + 1 ≤ 400 :=
  ⟨h.go hm (by omega) h.n (by rw [List.length_append, List.length_singleton]; omega) (h.tp.snoc hk) (by omega) h.dk, by have := h.t; rw [List.length_append, List.length_singleton]; omega⟩
section
variable {P : Program} {w : World} {K : PySem.W.Frag} {mg : Str → Option Value} {base : Heap} {f fr fv fl_ ft_ : Addr} {fd dr dv dl_ dt_ : FuncData}
theorem ok_LD {n k : Nat} (hk20 : 20 ≤ k) (ml : BN mg) (DV : DA K mg "_law_value" (top 41) ["_law_condition_here", "_law_flags", "_law_live"] fv dv) (DR : DA K mg "_law_row" (top 42) ["_law_body_here", "_law_flags", "_law_live"] fr dr) (GR : FnG P w K mg base k fr dr ["_law_body_here", "_law_flags", "_law_live"] (spLR K n))
    (DL : DA K mg "_law_loop" (top 43) ["_law_statement_here", "_law_flags", "_law_live"] fl_ dl_) (GL : FnG P w K mg base k fl_ dl_ ["_law_statement_here", "_law_flags", "_law_live"] (spLS K isLoop (n + 1)))
    (DT : DA K mg "_law_tried" (top 44) ["_law_statement_here", "_law_flags", "_law_live"] ft_ dt_) (GT : FnG P w K mg base k ft_ dt_ ["_law_statement_here", "_law_flags", "_law_live"] (spLS K isTry (n + 1)))
    (D : DA K mg "_law_done" (top 45) ["_law_statement_here", "_law_flags", "_law_live"] f fd) :
    FnG P w K mg base (k + 1) f fd ["_law_statement_here", "_law_flags", "_law_live"] (spLS K anyS (n + 1)) := by
  refine okG D.F scLD (fun vs H Q E h => ?_) (fun cdv A outer s H vs Q E hgd hr h => ?_)
  · obtain ⟨p, fl, mk, pt, dn, rs, cv, c, own, lp, la, rfl, _⟩ := h
    rfl
  obtain ⟨p, fl, mk, pt, dn, rs, sv, st, own, lp, la, rfl, _, L, he, hw, hsz, ft, q⟩ := h
  have GV := LV_all (P := P) (w := w) (base := base) ml DV 19
  refine ⟨_, (pss_cons (ps_set (i := 3) scLD.nd rfl (Or.inl rfl) (pe_ix ix_tup (pv 0) pe_int (fun _ _ => rfl)))
      (pss_cons (ps_if (pt_cmpR op_eq (pv 3) pe_str (nomark _)) (pss_cons (ps_if (pt_cmp (pc_isN (pe_cl DV GV (hr.mono (by omega)) (pa_cons (pv 0) (pa_cons (pv 1) (pa_cons (pv 2) pa_nil)))))) (pss_one (ps_ret (pe_tup (pa_cons pe_str pa_nil)))) pss_nil)
      (pss_one (ps_ret (pe_tup (pa_cons pe_str pa_nil))))) pss_nil)
      (pss_cons (ps_if (pt_cmpR op_eq (pv 3) pe_str (nomark _)) (pss_cons (ps_expr (pe_bm PySem.F.plainAttrs_list PySem.F.slot_list_append PySem.F.type_list_append mt_append (pv 1) (pa_cons (pe_lst (pa_cons (pe_ix ix_tup (pv 0) pe_int (fun _ _ => rfl)) (pa_cons (pe_ix ix_tup (pv 0) pe_int (fun _ _ => rfl)) pa_nil))) pa_nil)))
      (pss_one (ps_ret (pe_tup (pa_cons pe_str pa_nil))))) pss_nil)
      (pss_cons (ps_if (pt_cmpR op_eq (pv 3) pe_str (nomark _)) (pss_cons (ps_setLc (i := 4) (own := [("_law_pair", 5)]) (g := gName 5) (tt := tTest (tOp rEq (tOp (rIxL K) (tVar 5) (tC (.int 0))) (tOp (rIxT K) (tVar 0) (tC (.int 1))))) (te := tVar 5) rfl scLD.nd rfl rfl (sw_true rfl rfl rfl (by decide +kernel)) (pi_list (pv 1)) (blkOk_by (N := ["_law_statement_here", "_law_flags", "_law_live", "_law_kind", "_law_found", "_law_pair", "_law_value_here", "_law_done_here"]) (sc := defScope (top 45)) (by decide +kernel)) (fun _ _ _ _ _ => pg_name (i := 5) scLD.nd rfl (Or.inl rfl)) (fun _ _ _ _ _ => pts_one (pt_cmpR op_eq (pe_ix ix_list (pv 5) pe_int (fun _ _ => rfl)) (pe_ix ix_tup (pv 0) pe_int (fun _ _ => rfl)) (nomark _))) (fun _ _ _ _ _ => pv 5))
      (pss_cons (ps_set (i := 5) scLD.nd rfl (Or.inl rfl) (pe_ix ix_list (pv 4) (pe_op op_sub (pe_len ml.len (pv 4)) pe_int) (fun _ _ => rfl)))
      (pss_cons (ps_asg (pe_ix ix_tup (pv 0) pe_int (fun _ _ => rfl)) (pg_sub (pv 5) pe_int set_list))
      (pss_one (ps_ret (pe_tup (pa_cons pe_str pa_nil))))))) pss_nil)
      (pss_cons (ps_if (pt_cmpR op_eq (pv 3) pe_str (nomark _)) (pss_cons (ps_expr (pe_bm PySem.F.plainAttrs_list PySem.F.slot_list_append PySem.F.type_list_append mt_append (pe_ix ix_list (pv 2) pe_int (fun _ _ => rfl)) (pa_cons pe_int pa_nil)))
      (pss_cons (ps_set (i := 6) scLD.nd rfl (Or.inl rfl) (pe_cl DV GV (hr.mono (by omega)) (pa_cons (pe_ix ix_tup (pv 0) pe_int (fun _ _ => rfl)) (pa_cons (pv 1) (pa_cons (pv 2) pa_nil)))))
      (pss_cons (ps_if (pt_cmp (pc_isN (pv 6))) (pss_one (ps_ret (pe_tup (pa_cons pe_str pa_nil)))) pss_nil)
      (pss_cons (ps_expr (pe_bm0 PySem.F.plainAttrs_list PySem.F.slot_list_pop PySem.F.type_list_pop mt_pop (pe_ix ix_list (pv 2) pe_int (fun _ _ => rfl))))
      (pss_cons (ps_expr (pe_bm PySem.F.plainAttrs_list PySem.F.slot_list_append PySem.F.type_list_append mt_append (pe_ix ix_list (pv 2) pe_int (fun _ _ => rfl)) (pa_cons (pe_op op_sub pe_int (pe_callTy call_int1 (by rfl) ml.int (by decide +kernel) (pa_cons (pv 6) pa_nil))) pa_nil)))
      (pss_cons (ps_set (i := 7) scLD.nd rfl (Or.inl rfl) (pe_clG DR GR hgd hr (pa_cons (pe_ix ix_tup (pv 0) (pe_op op_sub pe_int (pe_callTy call_int1 (by rfl) ml.int (by decide +kernel) (pa_cons (pv 6) pa_nil))) (fun _ _ => rfl)) (pa_cons (pv 1) (pa_cons (pv 2) pa_nil)))))
      (pss_cons (ps_if (pt_cmpR op_ne (pe_ix ix_tup (pv 7) pe_int (fun _ _ => rfl)) pe_str (nomark _)) (pss_one (ps_expr (pe_bm0 PySem.F.plainAttrs_list PySem.F.slot_list_pop PySem.F.type_list_pop mt_pop (pe_ix ix_list (pv 2) pe_int (fun _ _ => rfl))))) pss_nil)
      (pss_one (ps_ret (pv 7)))))))))) pss_nil)
      (pss_cons (ps_if (pw_or (pt_cmpR op_eq (pv 3) pe_str (nomark _)) (pw_or1 (pt_cmpR op_eq (pv 3) pe_str (nomark _)))).pt (pss_one (ps_ret (pe_clG DL GL hgd hr (pa_cons (pv 0) (pa_cons (pv 1) (pa_cons (pv 2) pa_nil)))))) pss_nil)
      (pss_cons (ps_if (pt_cmpR op_eq (pv 3) pe_str (nomark _)) (pss_one (ps_ret (pe_clG DT GT hgd hr (pa_cons (pv 0) (pa_cons (pv 1) (pa_cons (pv 2) pa_nil)))))) pss_nil)
      (pss_cons (ps_if (pt_cmpR op_eq (pv 3) pe_str (nomark _)) (pss_one (ps_ret (pe_clG DR GR hgd hr (pa_cons (pe_ix ix_tup (pv 0) pe_int (fun _ _ => rfl)) (pa_cons (pv 1) (pa_cons (pv 2) pa_nil)))))) pss_nil)
      (pss_one (ps_ret (pv 0))))))))))), ?_⟩
  dsimp only [cxOf, Cx.nox]
  have hm := ft.m
  have ha4 := ft.a
  have hfl := ft.f
  have hpt := ft.t
  have hdl := ft.d
  have hl : SqL K H p.la [.ref p.aa, .ref p.ea, .ref p.pa, .ref p.da] := .inl (.inl L.l)
  have wok : ∀ {pt' : List Nat}, PtOk pt' → pt'.length ≤ 500 → WOk pt' dn fl := fun a b => ⟨a, b, ft.dk, by omega, ft.n, by omega⟩
  have jmp : ∀ (j : Jmp) (v : V), exS p.as st fl mk = (.jump j fl, mk) → EncJ K H j v → Q v H := fun j v e1 e2 => q.2.1 j fl mk e1 H v rs Fr.refl L .refl e2
  cases st with
  | call m =>
    obtain ⟨a0, rfl, h0⟩ := he
    have ex : exS p.as (.call m) fl mk = (match p.as[mk.length]? with | none => (.wait, mk ++ [m]) | some _ => (.next fl, mk ++ [m])) := by (simp only [exS]) <;> (cases p.as[mk.length]? <;> rfl)
    have ec : evC p.as fl (.call m) mk = (p.as[mk.length]?, mk ++ [m]) := by simp only [evC]
    repeat ac_rfl
    refine ⟨p, fl, mk, pt, dn, rs, _, .call m, rfl, L, ⟨a0, rfl, h0⟩, hw, by show 1 < 19; decide, hm, ha4, by omega, by show _ + 1 ≤ _; omega, by show 1 ≤ 50; decide, ft.tp, fun b m2 hb H2 f2 L2 => ?_, fun m2 hb H2 pt' f2 L2 ho hle => ?_⟩
    · rw [ec] at hb
      have hb1 := congrArg Prod.fst hb
      have hb2 := congrArg Prod.snd hb
      simp only at hb1 hb2
      rw [hb1, hb2] at ex
      repeat ac_rfl
      refine ifs_no ne_non_bl ?_
      repeat ac_rfl
      refine ⟨smN rfl, fun t ht => ?_⟩
      have st1 := same_new ht (.tup [.str "normal"])
      exact q.1 fl m2 ex _ _ rs (f2.trans (Fr.of_same st1)) (L2.same st1) .refl (Tp.of upd_same)
    · rw [ec] at hb
      have hb1 := congrArg Prod.fst hb
      have hb2 := congrArg Prod.snd hb
      simp only at hb1 hb2
      rw [hb1, hb2] at ex
      repeat ac_rfl
      refine ⟨smN rfl, fun t ht => ?_⟩
      have st1 := same_new ht (.tup [.str "wait"])
      have hle' : pt'.length ≤ pt.length + 1 := hle
      exact q.2.2.1 m2 ex _ _ fl pt' dn rs (f2.trans (Fr.of_same st1)) (L2.same st1) (wok ho (by omega)) (Tp.of upd_same)
  | letf x b =>
    obtain ⟨a0, rfl, h0⟩ := he
    have ex : exS p.as (.letf x b) fl mk = (.next (fl ++ [(x, b)]), mk) := by simp only [exS]
    repeat ac_rfl
    refine ⟨.inl ⟨rfl, _, .inl (.inl L.f)⟩, ?_⟩
    repeat ac_rfl
    refine ⟨smN rfl, fun t ht => ?_⟩
    repeat ac_rfl
    have ntf : p.fa ≠ t := fun z => by have := L.f; rw [z, ht] at this; cases this
    refine ⟨p.fa, _, _, rfl, rfl, by rw [upd_ne ntf]; exact L.f, small_lt (by rw [List.length_map, L.r.len]; omega), ?_⟩
    obtain ⟨L2, f2⟩ := L.let_ ht x b
    generalize upd (upd H t (.lst [.str x, .bl b])) p.fa (.lst (rs.map V.ref ++ [.ref t])) = H2 at L2 f2
    repeat ac_rfl
    refine ⟨smN rfl, fun t2 ht2 => ?_⟩
    have st1 := same_new ht2 (.tup [.str "normal"])
    exact q.1 _ mk ex _ _ (rs ++ [t]) (f2.trans (Fr.of_same st1)) (L2.same st1) ⟨[t], rfl, fun a h => by rw [List.mem_singleton.mp h]; exact ht⟩ (Tp.of upd_same)
  | setf x b =>
    obtain ⟨a0, rfl, h0⟩ := he
    have ex : exS p.as (.setf x b) fl mk = (.next (setF fl x b), mk) := by simp only [exS]
    repeat ac_rfl
    refine found_lc L (fun R h => ⟨_, rfl, h⟩) rfl (by decide) (by show 5 < 8; decide) h0 rfl (by omega) fun d H2 s2 ed => ?_
    have hw' : x ∈ nms fl := hw
    obtain ⟨i, a, v, h1, h2, h3, h4, h5, h6⟩ := last_hit L.r.len hw'
    have L2 := L.same s2
    have h02 := (TK.of_same s2) _ _ h0
    obtain ⟨y, hy, hya⟩ := L2.r.at h1
    rw [h2] at hy
    cases hy
    have hlp : 0 < (found fl rs x).length := List.length_pos_iff.mpr h6
    have hat : atI (found fl rs x) (((found fl rs x).length : Int) - 1) = some (.ref a) := by
      have e : (((found fl rs x).length : Int) - 1) = (((found fl rs x).length - 1 : Nat) : Int) := by omega
      rw [e]; exact atI_nat h5
    repeat ac_rfl
    refine ⟨d, _, rfl, .inl (.inl (.inl ed)), ?_⟩
    repeat ac_rfl
    refine st_ixl (.inl (.inl ed)) hat ?_
    repeat ac_rfl
    refine ⟨_, rfl, a, _, _, 1, rfl, rfl, hya, rfl, ?_⟩
    obtain ⟨L3, f3⟩ := L2.setR (x := (x, b)) h1
    rw [← h4 b] at L3
    have e9 : [V.str x, V.bl v].set 1 (.bl b) = [V.str (x, b).1, V.bl (x, b).2] := rfl
    rw [e9]
    generalize upd H2 a (.lst [.str (x, b).1, .bl (x, b).2]) = H3 at L3 f3
    repeat ac_rfl
    refine ⟨smN rfl, fun t2 ht2 => ?_⟩
    have st1 := same_new ht2 (.tup [.str "normal"])
    exact q.1 _ mk ex _ _ rs ((Fr.of_same s2).trans (f3.trans (Fr.of_same st1))) (L3.same st1) .refl (Tp.of upd_same)
  | ite c b1 b2 =>
    obtain ⟨u, p1, p2, ps, qs, ⟨a0, rfl, h0⟩, h1, h2, h3, h4, h5⟩ := he
    obtain ⟨hwc, hsc, hwa, hwb⟩ := hw
    have ez : szR b1 + szR b2 + 1 = szS (.ite c b1 b2) := rfl
    have ex : exS p.as (.ite c b1 b2) fl mk = (match evC p.as fl c mk with | (none, m) => (.wait, m) | (some true, m) => exB p.as b1 fl m | (some false, m) => exB p.as b2 fl m) := by
      (simp only [exS, exB]) <;> (rcases evC p.as fl c mk with ⟨_ | _ | _, m⟩ <;> rfl)
    rw [ex] at q
    repeat ac_rfl
    refine ⟨.inl ⟨rfl, _, .inl (.inl L.t)⟩, ?_⟩
    repeat ac_rfl
    refine st_ppush (k := 0) L (by omega) fun H2 L2 f2 => ?_
    have k2 := L.tk f2
    have h02 := k2 _ _ h0
    repeat ac_rfl
    refine ⟨p, fl, mk, pt ++ [0], dn, rs, u, c, rfl, L2, EncC.mono k2 c h1, hwc, by omega, hm, ha4, by omega, by rw [List.length_append, List.length_singleton]; omega, by omega, ft.tp.snoc (by decide), fun tb m2 hb H3 f3 L3 => ?_, fun m2 hb H3 pt' f3 L3 ho hle => ?_⟩
    · have hm3 := evC_len p.as _ hm hb
      have F3 := f2.trans f3
      have hl3 : SqL K H3 p.la [.ref p.aa, .ref p.ea, .ref p.pa, .ref p.da] := .inl (.inl L3.l)
      rw [hb] at q
      repeat ac_rfl
      refine ifs_no ne_non_bl ?_
      repeat ac_rfl
      refine st_ppop L3 fun H4 L4 f4 => ?_
      have F4 := F3.trans f4
      have hl4 : SqL K H4 p.la [.ref p.aa, .ref p.ea, .ref p.pa, .ref p.da] := .inl (.inl L4.l)
      repeat ac_rfl
      refine ⟨.inl ⟨rfl, _, .inl (.inl L4.t)⟩, ?_⟩
      repeat ac_rfl
      refine .inr ⟨tb, rfl, ?_⟩
      repeat ac_rfl
      have e2 : V.int (2 - (if tb = true then 1 else 0)) = natV (if tb = true then 1 else 2) := by cases tb <;> rfl
      rw [e2]
      refine st_ppush (k := if tb = true then 1 else 2) L4 (by omega) fun H5 L5 f5 => ?_
      have F5 := F4.trans f5
      have k5 := L.tk F5
      have h05 := k5 _ _ h0
      obtain ⟨bb, pb, bs, e6, hSb, hXb, hwb', hzb, eb⟩ : ∃ (bb : Stms) (pb : Addr) (bs : List V), atI [V.str ("if" : Str), u, V.ref p1, V.ref p2] (3 - (if tb = true then 1 else 0)) = some (.ref pb) ∧ SqT K H pb bs ∧ EncX K H bb bs ∧ wfR (nms fl) [] lp la bb ∧ szR bb + 1 ≤ szS (.ite c b1 b2) ∧ (match ((some tb, m2) : Option Bool × Fl.Made) with | (none, m) => (.wait, m) | (some true, m) => exB p.as b1 fl m | (some false, m) => exB p.as b2 fl m) = exB p.as bb fl m2 := by
        cases tb with
        | true => exact ⟨b1, p1, ps, rfl, h2, h3, hwa, by omega, rfl⟩
        | false => exact ⟨b2, p2, qs, rfl, h4, h5, hwb, by omega, rfl⟩
      rw [eb] at q
      have hk1 : (if tb = true then 1 else 2 : Nat) < 100 := by cases tb <;> decide
      obtain ⟨fit1, fit2⟩ := fit_in1 ft hm3 hzb hk1
      repeat ac_rfl
      refine .inr ⟨tb, rfl, ?_⟩
      repeat ac_rfl
      refine st_ixt h05 e6 ?_
      repeat ac_rfl
      clear e6 e2 eb
      generalize (if tb = true then 1 else 2 : Nat) = kk at L5 f5 fit1 fit2 hk1
      refine ⟨p, fl, m2, pt ++ [kk], dn, rs, _, bb, lp, la, rfl, L5, ⟨pb, bs, rfl, k5 _ _ hSb, EncX.mono k5 bb hXb⟩, hwb', by omega, fit1, fit2, fun f6 m6 e6 H6 rv rs6 f6' L6 x6 ev => ?_, fun j f6 m6 e6 H6 rv rs6 f6' L6 x6 ev => ?_, fun m6 e6 H6 rv f6 pt6 dn6 rs6 f6' L6 wk ev => ?_, fun m6 e6 H6 rv f6 pt6 dn6 rs6 f6' L6 wk wge ev => ?_⟩
      · have hl6 : SqL K H6 p.la [.ref p.aa, .ref p.ea, .ref p.pa, .ref p.da] := .inl (.inl L6.l)
        have hn6 := ((exB_len p.as (ss := bb) (fl := fl) (f := f6) (m := m6) hm3).1 e6).2
        obtain rfl : rs6 = rs := x6.same (by rw [L6.r.len, L.r.len, ← nms_len f6, hn6, nms_len])
        obtain ⟨ar, rfl, hrv⟩ := ev
        repeat ac_rfl
        refine st_ppop L6 fun H7 L7 f7 => ?_
        repeat ac_rfl
        exact q.1 f6 m6 e6 H7 _ _ ((F5.trans f6').trans f7) L7 .refl ⟨ar, rfl, (L6.tk f7) _ _ hrv⟩
      · have hl6 : SqL K H6 p.la [.ref p.aa, .ref p.ea, .ref p.pa, .ref p.da] := .inl (.inl L6.l)
        have hn6 := ((exB_len p.as (ss := bb) (fl := fl) (f := f6) (m := m6) hm3).2 j e6).2
        obtain rfl : rs6 = rs := x6.same (by rw [L6.r.len, L.r.len, ← nms_len f6, hn6, nms_len])
        have fin : ∀ H7, LAt K p H7 f6 m6 pt dn rs6 → Fr (LM p rs6) H6 H7 → EncJ K H7 j rv → Q rv H7 := fun H7 L7 f7 ev7 => q.2.1 j f6 m6 e6 H7 _ _ ((F5.trans f6').trans f7) L7 .refl ev7
        cases j <;>
        · obtain ⟨ar, rfl, hrv⟩ := ev
          repeat ac_rfl
          refine st_ppop L6 fun H7 L7 f7 => ?_
          repeat ac_rfl
          exact fin H7 L7 f7 ⟨ar, rfl, (L6.tk f7) _ _ hrv⟩
      · obtain ⟨ar, rfl, hrv⟩ := ev
        repeat ac_rfl
        exact q.2.2.1 m6 e6 H6 _ f6 pt6 dn6 rs6 (F5.trans f6') L6 wk ⟨ar, rfl, hrv⟩
      · have hl6 : SqL K H6 p.la [.ref p.aa, .ref p.ea, .ref p.pa, .ref p.da] := .inl (.inl L6.l)
        obtain ⟨ar, rfl, hrv⟩ := ev
        rw [List.length_append, List.length_singleton] at wge
        repeat ac_rfl
        refine st_ppopH L6 (by intro z; rw [z] at wge; simp at wge) fun u7 H7 L7 f7 => ?_
        repeat ac_rfl
        have hd := List.length_dropLast (xs := pt6)
        have hwl := wk.le
        exact q.2.2.2 m6 e6 H7 _ f6 _ dn6 rs6 ((F5.trans f6').trans (f7.pa rs)) L7 ⟨fun k hk => wk.p k ((List.dropLast_sublist _).subset hk), by omega, wk.d, wk.dl, wk.n, wk.fl⟩ (by omega) ⟨ar, rfl, (L6.tk (f7.pa rs6)) _ _ hrv⟩
    · rw [hb] at q
      repeat ac_rfl
      refine ⟨smN rfl, fun t ht => ?_⟩
      have st1 := same_new ht (.tup [.str "wait"])
      exact q.2.2.1 m2 rfl _ _ fl pt' dn rs ((f2.trans f3).trans (Fr.of_same st1)) (L3.same st1) (wok ho (by rw [List.length_append, List.length_singleton] at hle; omega)) (Tp.of upd_same)
  | whl l c b =>
    have he0 := he
    obtain ⟨u, p1, ps, ⟨a0, rfl, h0⟩, _⟩ := he0
    repeat ac_rfl
    exact ⟨p, fl, mk, pt, dn, rs, _, .whl l c b, own, lp, la, rfl, rfl, L, he, hw, hsz, ft, q⟩
  | forl l b =>
    have he0 := he
    obtain ⟨p1, ps, ⟨a0, rfl, h0⟩, _⟩ := he0
    repeat ac_rfl
    exact ⟨p, fl, mk, pt, dn, rs, _, .forl l b, own, lp, la, rfl, rfl, L, he, hw, hsz, ft, q⟩
  | tryf b1 b2 =>
    have he0 := he
    obtain ⟨p1, p2, ps, qs, ⟨a0, rfl, h0⟩, _⟩ := he0
    repeat ac_rfl
    exact ⟨p, fl, mk, pt, dn, rs, _, .tryf b1 b2, own, lp, la, rfl, rfl, L, he, hw, hsz, ft, q⟩
  | block b =>
    obtain ⟨p1, ps, ⟨a0, rfl, h0⟩, h1, h2⟩ := he
    have hz : szR b + 1 ≤ szS (.block b) := Nat.le_refl _
    obtain ⟨fit1, fit2⟩ := fit_in ft hm hz
    have ex : exS p.as (.block b) fl mk = exB p.as b fl mk := by simp only [exS, exB]
    rw [ex] at q
    repeat ac_rfl
    exact ⟨p, fl, mk, pt, dn, rs, _, b, lp, la, rfl, L, ⟨p1, ps, rfl, h1, h2⟩, hw, by omega, fit1, fit2, q⟩
  | brk l =>
    have he0 := he
    obtain ⟨a0, rfl, h0⟩ := he
    repeat ac_rfl
    exact jmp (.brk l) _ (by simp only [exS]) he0
  | cont l =>
    have he0 := he
    obtain ⟨a0, rfl, h0⟩ := he
    repeat ac_rfl
    exact jmp (.cont l) _ (by simp only [exS]) he0
  | ret l =>
    have he0 := he
    obtain ⟨a0, rfl, h0⟩ := he
    repeat ac_rfl
    exact jmp (.ret l) _ (by simp only [exS]) he0
end
end K23
namespace K23
open PySem PySem.Spec PyProof.Rows L2 Fl RT
section
variable {P : Program} {w : World} {K : PySem.W.Frag} {mg : Str → Option Value} {base : Heap} {f fr fv fl_ ft_ : Addr} {fd dr dv dl_ dt_ : FuncData}
/-- all rows -/
theorem LR_all (ml : BN mg) (DV : DA K mg "_law_value" (top 41) ["_law_condition_here", "_law_flags", "_law_live"] fv dv) (DR : DA K mg "_law_row" (top 42) ["_law_body_here", "_law_flags", "_law_live"] fr dr)
    (DL : DA K mg "_law_loop" (top 43) ["_law_statement_here", "_law_flags", "_law_live"] fl_ dl_) (DT : DA K mg "_law_tried" (top 44) ["_law_statement_here", "_law_flags", "_law_live"] ft_ dt_) (D : DA K mg "_law_done" (top 45) ["_law_statement_here", "_law_flags", "_law_live"] f fd) :
    ∀ n : Nat, FnG P w K mg base (3 * n + 20) fr dr ["_law_body_here", "_law_flags", "_law_live"] (spLR K n)
  | 0 => .of (fn_none fun vs H Q E ⟨_, _, _, _, _, _, _, _, _, _, _, _, _, _, h, _⟩ => absurd h (Nat.not_lt_zero _))
  | n + 1 => by
    have GR := LR_all ml DV DR DL DT D n
    have GL := ok_LLp (by omega) ml DV DR GR DL
    have GT := ok_LT ml DR GR DT
    have GD := ok_LD (by omega) ml DV DR (GR.mono (Nat.le_succ _)) DL GL DT GT D
    exact (ok_LR ml D GD DR).mono (by omega)
end
end K23
namespace K23
open PySem PySem.Spec PyProof.Rows L2 Fl RT
/-- data with a short text -/
structure Sm (c k : Nat) (d : PyData) : Prop where
  s : d.showable = true
  h : d.hasDict = false
  dp : d.depth ≤ k
  l : d.shown.length ≤ c
theorem Sm.mono {c k c' k' : Nat} {d : PyData} (h : Sm c k d) (hc : c ≤ c') (hk : k ≤ k') : Sm c' k' d := ⟨h.s, h.h, Nat.le_trans h.dp hk, Nat.le_trans h.l hc⟩
theorem sm_all {c k : Nat} : ∀ {ds : List PyData}, (∀ d ∈ ds, Sm c k d) → PyData.showableAll ds = true ∧ PyData.hasDictAll ds = false ∧ PyData.depthAll ds ≤ k ∧ (PyData.shownAll ds).length = ds.length ∧ ∀ t ∈ PyData.shownAll ds, t.length ≤ c
  | [], _ => ⟨rfl, rfl, Nat.zero_le _, rfl, fun t h => absurd h List.not_mem_nil⟩
  | d :: r, h => by
    obtain ⟨h1, h2, h3, h4, h5⟩ := sm_all (ds := r) fun x hx => h x (List.mem_cons_of_mem _ hx)
    have hd := h d List.mem_cons_self
    refine ⟨?_, ?_, ?_, ?_, ?_⟩
    · show (d.showable && PyData.showableAll r) = true
      rw [hd.s, h1]; rfl
    · show (d.hasDict || PyData.hasDictAll r) = false
      rw [hd.h, h2]; rfl
    · show max d.depth (PyData.depthAll r) ≤ k
      have := hd.dp
      omega
    · show (PyData.shownAll r).length + 1 = r.length + 1
      rw [h4]
    · intro t ht
      rcases List.mem_cons.mp (show t ∈ d.shown :: PyData.shownAll r from ht) with z | z
      · rw [z]; exact hd.l
      · exact h5 t z
theorem bodyL_len {c : Nat} : ∀ (k : Nat) (ts : List Str), (∀ t ∈ ts, t.length ≤ c) → (bodyL k ts).length ≤ ts.length * (c + 2)
  | _, [], _ => Nat.zero_le _
  | k, t :: r, h => by
    have ih := bodyL_len (k + 1) r fun y hy => h y (List.mem_cons_of_mem _ hy)
    have h1 := h t List.mem_cons_self
    have e3 : (cl (if k > 0 then ", " else "" : String)).length ≤ 2 := by
      split
      · exact (by decide +kernel : (cl (", " : Str)).length ≤ 2)
      · exact (by decide +kernel : (cl ("" : Str)).length ≤ 2)
    simp only [bodyL, List.length_append, List.length_cons, cl_len t]
    rw [Nat.add_mul]
    omega
theorem Sm.list {c k : Nat} {ds : List PyData} (h : ∀ d ∈ ds, Sm c k d) : Sm (ds.length * (c + 2) + 2) (k + 1) (.list ds) := by
  obtain ⟨h1, h2, h3, h4, h5⟩ := sm_all h
  refine ⟨h1, h2, Nat.succ_le_succ h3, ?_⟩
  show (listText (PyData.shownAll ds)).length ≤ _
  rw [← cl_len, listText_cl, List.length_append, List.length_append]
  have e1 : (cl "[").length = 1 := by decide +kernel
  have e2 : (cl "]").length = 1 := by decide +kernel
  have := bodyL_len 0 _ h5
  rw [h4] at this
  omega
theorem piled_le {c : Nat} : ∀ (ts : List Str), (∀ t ∈ ts, t.length ≤ c) → piled ts ≤ ts.length * (c + 2)
  | [], _ => Nat.zero_le _
  | t :: r, h => by
    have ih := piled_le r fun y hy => h y (List.mem_cons_of_mem _ hy)
    have h1 := h t List.mem_cons_self
    rw [piled_cons, List.length_cons, Nat.add_mul]
    omega
theorem Sm.tup {c k : Nat} {ds : List PyData} (h : ∀ d ∈ ds, Sm c k d) : Sm (ds.length * (c + 2) + 3) (k + 1) (.tuple ds) := by
  obtain ⟨h1, h2, h3, h4, h5⟩ := sm_all h
  refine ⟨h1, h2, Nat.succ_le_succ h3, ?_⟩
  show (tupleText (PyData.shownAll ds)).length ≤ _
  unfold tupleText
  have ej : (Str.join ", " (PyData.shownAll ds)).length ≤ ds.length * (c + 2) := by
    by_cases e : PyData.shownAll ds = []
    · rw [e]; exact Nat.zero_le _
    · have a := join_length_add _ e
      have b := piled_le _ h5
      rw [h4] at b
      omega
  rw [← cl_len, cl_app, cl_app, List.length_append, List.length_append, cl_len (Str.join _ _)]
  have e1 : (cl ("(" : Str)).length = 1 := by decide +kernel
  have e2 : (cl (if (PyData.shownAll ds).length == 1 then ",)" else ")" : String)).length ≤ 2 := by
    split
    · exact (by decide +kernel : (cl (",)" : Str)).length ≤ 2)
    · exact (by decide +kernel : (cl (")" : Str)).length ≤ 2)
  omega
theorem sm_str {n : Nm} (h : nmOk n) : Sm 602 0 (.str n) := ⟨rfl, rfl, Nat.le_refl _, repr_len h⟩
theorem sm_int {i : Int} (h0 : 0 ≤ i) (h1 : i < 100) : Sm 602 0 (.int i) := by
  obtain ⟨a, b⟩ := num_small h0 h1
  exact ⟨decide_eq_true a, rfl, Nat.le_refl _, Nat.le_trans b (by decide)⟩
theorem sm_none : Sm 602 0 .none := ⟨rfl, rfl, Nat.le_refl _, by decide +kernel⟩
def labD : Option Nm → PyData
  | none => .none
  | some n => .str n
def numD : Option Int → PyData
  | none => .none
  | some n => .int n
def dDr : Dr → PyData
  | none => .tuple [.str "normal"]
  | some (.brk l) => .tuple [.str "break", labD l]
  | some (.cont l) => .tuple [.str "continue", labD l]
  | some (.ret n) => .tuple [.str "return", numD n]
theorem dp_lab {K : PySem.W.Frag} {H : Hp} : ∀ l, Dp K H (labV l) (labD l)
  | none => .non
  | some n => .str n
theorem dp_num {K : PySem.W.Frag} {H : Hp} : ∀ l, Dp K H (numV l) (numD l)
  | none => .non
  | some n => .int n
theorem dp_dr {K : PySem.W.Frag} {H : Hp} : ∀ {d : Dr} {v : V}, EncD K H d v → Dp K H v (dDr d)
  | none, _, ⟨a, e, h⟩ => by rw [e]; exact .tup h (.cons (.str _) .nil)
  | some (.brk l), _, ⟨a, e, h⟩ => by rw [e]; exact .tup h (.cons (.str _) (.cons (dp_lab l) .nil))
  | some (.cont l), _, ⟨a, e, h⟩ => by rw [e]; exact .tup h (.cons (.str _) (.cons (dp_lab l) .nil))
  | some (.ret l), _, ⟨a, e, h⟩ => by rw [e]; exact .tup h (.cons (.str _) (.cons (dp_num l) .nil))
theorem dp_drs {K : PySem.W.Frag} {H : Hp} : ∀ {ds : List Dr} {us : List V}, EncDs K H ds us → DpAll K H us (ds.map dDr)
  | [], _, h => by cases (show _ = _ from h); exact .nil
  | d :: r, _, ⟨u, t, e, h1, h2⟩ => by rw [e]; exact .cons (dp_dr h1) (dp_drs h2)
theorem dp_path {K : PySem.W.Frag} {H : Hp} : ∀ {pt : List Nat}, DpAll K H (pt.map natV) (pt.map fun k => PyData.int (k : Nat))
  | [] => .nil
  | k :: r => .cons (.int _) dp_path
theorem ok_words : nmOk "normal" ∧ nmOk "break" ∧ nmOk "continue" ∧ nmOk "return" := by
  refine ⟨⟨by decide +kernel, fun c hc => ?_⟩, ⟨by decide +kernel, fun c hc => ?_⟩, ⟨by decide +kernel, fun c hc => ?_⟩, ⟨by decide +kernel, fun c hc => ?_⟩⟩
  · have h : ∀ c ∈ ("normal" : Str).cps.toList, c < 128 := by decide +kernel
    exact h c (by simpa using hc)
  · have h : ∀ c ∈ ("break" : Str).cps.toList, c < 128 := by decide +kernel
    exact h c (by simpa using hc)
  · have h : ∀ c ∈ ("continue" : Str).cps.toList, c < 128 := by decide +kernel
    exact h c (by simpa using hc)
  · have h : ∀ c ∈ ("return" : Str).cps.toList, c < 128 := by decide +kernel
    exact h c (by simpa using hc)
theorem sm_two {a b : PyData} (h1 : Sm 602 0 a) (h2 : Sm 602 0 b) : Sm 1300 1 (.tuple [a, b]) :=
  (Sm.tup (ds := [a, b]) fun d hd => by
    rcases List.mem_cons.mp hd with z | z
    · rw [z]; exact h1
    · rw [List.mem_singleton.mp z]; exact h2).mono (by show 2 * (602 + 2) + 3 ≤ 1300; decide) (by decide)
theorem sm_lab : ∀ {l : Option Nm}, labOk l → Sm 602 0 (labD l)
  | none, _ => sm_none
  | some n, h => sm_str (h n rfl)
theorem sm_num : ∀ {l : Option Int}, (∀ n, l = some n → 0 ≤ n ∧ n < 100) → Sm 602 0 (numD l)
  | none, _ => sm_none
  | some n, h => sm_int (h n rfl).1 (h n rfl).2
theorem sm_dr : ∀ {d : Dr}, drOk d → Sm 1300 1 (dDr d)
  | none, _ => (Sm.tup (ds := [.str "normal"]) fun d hd => by rw [List.mem_singleton.mp hd]; exact sm_str ok_words.1).mono (by decide) (by decide)
  | some (.brk l), h => sm_two (sm_str ok_words.2.1) (sm_lab fun n e => h.2 n (.inl (by rw [e])))
  | some (.cont l), h => sm_two (sm_str ok_words.2.2.1) (sm_lab fun n e => h.2 n (.inr (by rw [e])))
  | some (.ret l), h => sm_two (sm_str ok_words.2.2.2) (sm_num fun n e => h.1 n (by rw [e]))
theorem sm_drs {dn : List Dr} (h : DnOk dn) (hl : dn.length ≤ 200) : Sm 300000 2 (.list (dn.map dDr)) :=
  (Sm.list (c := 1300) (k := 1) fun d hd => by
    obtain ⟨x, hx, rfl⟩ := List.mem_map.mp hd
    exact sm_dr (h x hx)).mono (by rw [List.length_map]; omega) (by decide)
theorem sm_path {pt : List Nat} (h : PtOk pt) (hl : pt.length ≤ 500) : Sm 310000 2 (.list (pt.map fun k => PyData.int (k : Nat))) :=
  (Sm.list (c := 602) (k := 0) fun d hd => by
    obtain ⟨x, hx, rfl⟩ := List.mem_map.mp hd
    have := h x hx
    exact sm_int (by omega) (by omega)).mono (by rw [List.length_map]; omega) (by decide)
theorem sm_fl {fl : Flg} (h : NmsOk fl) (hl : fl.length ≤ 100) : Sm 310000 2 (dFl fl) :=
  ⟨dFl_show fl, dFl_nodict fl, Nat.succ_le_succ (depth_all fl), Nat.le_trans (dFl_len h hl) (by decide)⟩
/-- repr([live[2], flags, live[3]]) -/
theorem st_reprS {K : PySem.W.Frag} {p : LE0} {H : Hp} {fl : Flg} {mk : Fl.Made} {pt : List Nat} {dn : List Dr} {rs : List Addr} {t : Addr} {Q : VK} (L : LAt K p H fl mk pt dn rs) (w : WOk pt dn fl) (ht : H t = none) (q : ∀ x, Q x (upd H t (.lst [.ref p.pa, .ref p.fa, .ref p.da]))) :
    rRepr K [.ref t] (upd H t (.lst [.ref p.pa, .ref p.fa, .ref p.da])) Q := by
  have L2 := L.same (same_new ht (.lst [.ref p.pa, .ref p.fa, .ref p.da]))
  obtain ⟨ds, hds, hde⟩ := L2.d
  have big := Sm.list (c := 310000) (k := 2) (ds := [.list (pt.map fun k => PyData.int (k : Nat)), dFl fl, .list (dn.map dDr)]) fun d hd => by
    simp only [List.mem_cons, List.not_mem_nil, or_false] at hd
    rcases hd with z | z | z
    · rw [z]; exact sm_path w.p w.le
    · rw [z]; exact sm_fl w.n w.fl
    · rw [z]; exact (sm_drs w.d w.dl).mono (by decide) (Nat.le_refl _)
  exact ⟨t, _, rfl, .lst (.inl (.inl upd_same)) (.cons (.lst (.inl (.inl L2.t)) dp_path) (.cons L2.dp (.cons (.lst (.inl (.inl hds)) (dp_drs hde)) .nil))), big.s, big.h, Nat.le_trans big.dp (by decide), Nat.le_trans big.l (by show 3 * (310000 + 2) + 2 ≤ sizeLine; decide), q _⟩
end K23
namespace K23
open PySem PySem.Spec PyProof.Rows L2 Fl RT
local macro_rules | `(tactic| ac_rfl) => `(tactic| (
  first
    | with_reducible refine Stp.go ?_
    | with_reducible refine st_var (by with_unfolding_all exact rfl) ?_
    | with_reducible refine st_ixt (by with_unfolding_all assumption) (by with_unfolding_all exact rfl) ?_
    | with_reducible refine st_ixl (by with_unfolding_all assumption) (by with_unfolding_all exact rfl) ?_
    | with_reducible refine st_eq (by with_unfolding_all exact rfl) ?_
    | with_reducible refine st_bl ?_
    | with_reducible refine ifb_t ?_
    | with_reducible refine ifb_f ?_
    | with_reducible refine ifs_no (by decide +kernel) ?_
    | with_reducible refine ifs_yes rfl ?_
    | with_reducible refine ifs_yes lab_rfl ?_
    | with_reducible refine ifs_yes num_rfl ?_
    | with_reducible refine ifn_no (by decide +kernel) ?_
    | with_reducible refine ifn_yes rfl ?_
    | with_reducible refine ifnb_t ?_
    | with_reducible refine ifnb_f ?_
    | with_reducible refine st_ne (by with_unfolding_all exact rfl) ?_
    | with_reducible refine st_ix0 (by with_unfolding_all assumption) ?_))
/-- how a row's value tells its outcome -/
def EncO (K : PySem.W.Frag) (H : Hp) : Out → V → Prop
  | .next _, v => Tp K H v [.str "normal"]
  | .jump j _, v => EncJ K H j v ∧ jOk j
  | .wait, v => Tp K H v [.str "wait"]
  | .hang, v => Tp K H v [.str "hang"]
theorem EncO.mono {K : PySem.W.Frag} {H H' : Hp} (k : TK K H H') : ∀ {d : Out} {v : V}, EncO K H d v → EncO K H' d v
  | .next _, _, h => Tp.mono k h
  | .jump _ _, _, ⟨h, h2⟩ => ⟨EncJ.mono k h, h2⟩
  | .wait, _, h => Tp.mono k h
  | .hang, _, h => Tp.mono k h
def spLSt (K : PySem.W.Frag) : Sp := fun vs H Q _ => ∃ (bv : V) (ss : Stms) (f0 aa : Addr) (as : List Bool), vs = [bv, .ref f0, .ref aa] ∧ EncR K H ss bv ∧ wfR [] [] 0 false ss ∧ szR ss ≤ 14 ∧ as.length ≤ 400 ∧ H f0 = some (.lst []) ∧ H aa = some (.lst (as.map V.bl)) ∧
  ∀ r e v2 H', Same H H' → H' r = some (.lst [.ref e, v2]) → H' e = some (.lst ((Fl.run as ss).map V.str)) → Q (.ref r) H'
def spLE (K : PySem.W.Frag) : Sp := fun vs H Q _ => ∃ (bv : V) (ss : Stms) (ga : Addr) (as : List Bool), vs = [bv, .ref ga] ∧ EncR K H ss bv ∧ wfR [] [] 0 false ss ∧ szR ss ≤ 14 ∧ as.length ≤ 400 ∧ SqT K H ga (as.map V.bl) ∧
  ∀ r H', Same H H' → SqT K H' r ((Fl.run as ss).map V.str) → Q (.ref r) H'
theorem scLSt : FnScope ["_law_program_here", "_law_flags", "_law_answers_here", "_law_live", "_law_held", "_law_done_here", "_law_events_here", "_law_outcome", "_law_pair", "_law_name"] ["_law_program_here", "_law_flags", "_law_answers_here"] (defScope (top 46)) := ⟨rfl, rfl, rfl, by decide +kernel, rfl, by decide +kernel, by decide +kernel⟩
theorem scLE : FnScope ["_law_program_here", "_law_answers_here"] ["_law_program_here", "_law_answers_here"] (defScope (top 47)) := ⟨rfl, rfl, rfl, by decide +kernel, rfl, by decide +kernel, by decide +kernel⟩
theorem seq_cut3 {a b c d : TS} {D : Ends} {σ : L2.St} {H : Hp} (C : L2.St → Hp → Prop) (h2 : ∀ σ' H', C σ' H' → d D σ' H') (h1 : ∀ N : L2.St → Hp → Prop, (∀ σ' H', C σ' H' → N σ' H') → tSeq a (tSeq b c) { D with nx := N } σ H) : tSeq a (tSeq b (tSeq c d)) D σ H := h1 (d D) h2
theorem st_yes {σ : L2.St} {H : Hp} {Q : Bool → Hp → Prop} (q : Q true H) : tYes σ H Q := q
theorem none_same {H H' : Hp} {b : Addr} (s : Same H H') (h : H' b = none) : H b = none := by
  cases e : H b with
  | none => rfl
  | some u => have := s b u e; rw [h] at this; cases this
section
variable {P : Program} {w : World} {K : PySem.W.Frag} {mg : Str → Option Value} {base : Heap} {f fr : Addr} {fd dr : FuncData}
theorem ok_LSt (ml : BN mg) (DR : DA K mg "_law_row" (top 42) ["_law_body_here", "_law_flags", "_law_live"] fr dr) (GR : FnG P w K mg base 65 fr dr ["_law_body_here", "_law_flags", "_law_live"] (spLR K 15)) (D : DA K mg "_law_state" (top 46) ["_law_program_here", "_law_flags", "_law_answers_here"] f fd) :
    FnG P w K mg base 66 f fd ["_law_program_here", "_law_flags", "_law_answers_here"] (spLSt K) := by
  refine okG D.F scLSt (fun vs H Q E h => ?_) (fun cdv A outer s H vs Q E hgd hr h => ?_)
  · obtain ⟨bv, ss, f0, aa, as, rfl, _⟩ := h
    rfl
  obtain ⟨bv, ss, f0, aa, as, rfl, he, hw, hsz, ha4, hf0, haa, q⟩ := h
  refine ⟨_, (pss_cons (ps_set (i := 3) scLSt.nd rfl (Or.inl rfl) (pe_lst (pa_cons (pv 2) (pa_cons (pe_lst pa_nil) (pa_cons (pe_lst pa_nil) (pa_cons (pe_lst pa_nil) pa_nil))))))
      (pss_cons (ps_setLc (i := 4) (own := [("_law_pair", 8)]) (g := gName 8) (tt := tYes) (te := tLst (tCons (tOp (rIxL K) (tVar 8) (tC (.int 0))) (tCons (tOp (rIxL K) (tVar 8) (tC (.int 1))) tNil))) rfl scLSt.nd rfl rfl (sw_true rfl rfl rfl (by decide +kernel)) (pi_list (pv 1)) (blkOk_by (N := ["_law_program_here", "_law_flags", "_law_answers_here", "_law_live", "_law_held", "_law_done_here", "_law_events_here", "_law_outcome", "_law_pair", "_law_name"]) (sc := defScope (top 46)) (by decide +kernel)) (fun _ _ _ _ _ => pg_name (i := 8) scLSt.nd rfl (Or.inl rfl)) (fun _ _ _ _ _ => pts_nil) (fun _ _ _ _ _ => pe_lst (pa_cons (pe_ix ix_list (pv 8) pe_int (fun _ _ => rfl)) (pa_cons (pe_ix ix_list (pv 8) pe_int (fun _ _ => rfl)) pa_nil))))
      (pss_cons (ps_set (i := 5) scLSt.nd rfl (Or.inl rfl) (pe_clG DR GR hgd hr (pa_cons (pv 0) (pa_cons (pv 4) (pa_cons (pv 3) pa_nil)))))
      (pss_cons (ps_setLc (i := 6) (own := [("_law_name", 9)]) (g := gName 9) (tt := tYes) (te := tOp (fun x y H Q => ∃ i j, x = .str i ∧ y = .str j ∧ i.length + j.length ≤ sizeLine ∧ Q (.str (i ++ j)) H) (tVar 9) (tC (.str "()"))) rfl scLSt.nd rfl rfl (sw_true rfl rfl rfl (by decide +kernel)) (pi_list (pe_ix ix_list (pv 3) pe_int (fun _ _ => rfl))) (blkOk_by (N := ["_law_program_here", "_law_flags", "_law_answers_here", "_law_live", "_law_held", "_law_done_here", "_law_events_here", "_law_outcome", "_law_pair", "_law_name"]) (sc := defScope (top 46)) (by decide +kernel)) (fun _ _ _ _ _ => pg_name (i := 9) scLSt.nd rfl (Or.inl rfl)) (fun _ _ _ _ _ => pts_nil) (fun _ _ _ _ _ => pe_op op_add_str (pv 9) pe_str))
      (pss_cons (ps_if (pt_cmpR op_eq (pe_ix ix_tup (pv 5) pe_int (fun _ _ => rfl)) pe_str (nomark _)) (pss_one (ps_ret (pe_lst (pa_cons (pv 6) (pa_cons (pe_callB (call_repr hgd (room_repr hr)) (by rfl) ml.repr boot_repr (pa_cons (pe_lst (pa_cons (pe_ix ix_list (pv 3) pe_int (fun _ _ => rfl)) (pa_cons (pv 4) (pa_cons (pe_ix ix_list (pv 3) pe_int (fun _ _ => rfl)) pa_nil)))) pa_nil)) pa_nil))))) pss_nil)
      (pss_cons (ps_set (i := 7) scLSt.nd rfl (Or.inl rfl) (pe_ix ix_tup (pv 5) pe_int (fun _ _ => rfl)))
      (pss_cons (ps_if (pt_cmpR op_eq (pv 7) pe_str (nomark _)) (pss_one (ps_set (i := 7) scLSt.nd rfl (Or.inl rfl) pe_str)) pss_nil)
      (pss_cons (ps_if (pt_cmpR op_eq (pv 7) pe_str (nomark _)) (pss_one (ps_set (i := 7) scLSt.nd rfl (Or.inl rfl) (pe_ix ix_tup (pv 5) pe_int (fun _ _ => rfl)))) (pss_one (ps_if (pw_and (pt_cmpR op_gt (pe_len ml.len (pv 5)) pe_int (nomark _)) (pw_and1 (pt_cmp (pc_notN (pe_ix ix_tup (pv 5) pe_int (fun _ _ => rfl)))))).pt (pss_one (ps_set (i := 7) scLSt.nd rfl (Or.inl rfl) (pe_op op_add_str (pe_op op_add_str (pv 7) pe_str) (pe_callTy call_str_si (by rfl) ml.str (by decide +kernel) (pa_cons (pe_ix ix_tup (pv 5) pe_int (fun _ _ => rfl)) pa_nil))))) pss_nil)))
      (pss_one (ps_ret (pe_lst (pa_cons (pe_op op_cat (pv 6) (pe_lst (pa_cons (pv 7) pa_nil))) (pa_cons (pv 7) pa_nil))))))))))))), ?_⟩
  dsimp only [cxOf, Cx.nox]
  with_reducible refine seq_cut3 (fun σ' H' => ∃ p f' m pt' dn' rs' rv o, σ' = [some bv, some (.ref f0), some (.ref aa), some (.ref p.la), some (.ref p.fa), some rv, none, none, none, none] ∧ p.as = as ∧ Same H H' ∧ LAt K p H' f' m pt' dn' rs' ∧ WOk pt' dn' f' ∧ exB as ss [] [] = (o, m) ∧ EncO K H' o rv) ?_ ?_
  rotate_left
  · intro N hN
    repeat ac_rfl
    refine ⟨small3 (Nat.zero_le _), fun ea hea => ?_⟩
    have s1 := same_new hea (.lst [])
    have e1 : (upd H ea (.lst [])) ea = some (.lst []) := upd_same
    generalize upd H ea (.lst []) = H1 at s1 e1
    repeat ac_rfl
    refine ⟨small3 (Nat.zero_le _), fun pa hpa => ?_⟩
    have s2 := same_new hpa (.lst [])
    have e2 : (upd H1 pa (.lst [])) pa = some (.lst []) := upd_same
    generalize upd H1 pa (.lst []) = H2 at s2 e2
    repeat ac_rfl
    refine ⟨small3 (Nat.zero_le _), fun da hda => ?_⟩
    have s3 := same_new hda (.lst [])
    have e3 : (upd H2 da (.lst [])) da = some (.lst []) := upd_same
    generalize upd H2 da (.lst []) = H3 at s3 e3
    repeat ac_rfl
    refine ⟨smN rfl, fun la hla => ?_⟩
    have s4 := same_new hla (.lst [.ref aa, .ref ea, .ref pa, .ref da])
    have e4 : (upd H3 la (.lst [.ref aa, .ref ea, .ref pa, .ref da])) la = some (.lst [.ref aa, .ref ea, .ref pa, .ref da]) := upd_same
    generalize upd H3 la (.lst [.ref aa, .ref ea, .ref pa, .ref da]) = H4 at s4 e4
    have n1 : ea ≠ aa := fun z => by rw [z, haa] at hea; cases hea
    have n2 : pa ≠ aa := fun z => by rw [z, s1 _ _ haa] at hpa; cases hpa
    have n3 : da ≠ aa := fun z => by rw [z, s2 _ _ (s1 _ _ haa)] at hda; cases hda
    have n4 : la ≠ aa := fun z => by rw [z, s3 _ _ (s2 _ _ (s1 _ _ haa))] at hla; cases hla
    have n5 : pa ≠ ea := fun z => by rw [z, e1] at hpa; cases hpa
    have n6 : da ≠ ea := fun z => by rw [z, s2 _ _ e1] at hda; cases hda
    have n7 : la ≠ ea := fun z => by rw [z, s3 _ _ (s2 _ _ e1)] at hla; cases hla
    have n8 : da ≠ pa := fun z => by rw [z, e2] at hda; cases hda
    have n9 : la ≠ pa := fun z => by rw [z, s3 _ _ e2] at hla; cases hla
    have n10 : la ≠ da := fun z => by rw [z, e3] at hla; cases hla
    have S4 : Same H H4 := ((s1.trans s2).trans s3).trans s4
    have ae := s4 _ _ (s3 _ _ (s2 _ _ e1))
    have ap := s4 _ _ (s3 _ _ e2)
    have ad := s4 _ _ e3
    have aA := S4 _ _ haa
    repeat ac_rfl
    refine ⟨_, rfl, f0, rfl, ⟨_, .inl (.inl (S4 _ _ hf0))⟩, fun fa hfa => ?_⟩
    refine lc_list (K := K) (a := f0) (xs := []) (fun i H' => Same H4 H' ∧ H' fa = some (.lst [])) ⟨same_new hfa _, upd_same⟩ (fun i H' _ ⟨z, _⟩ => .inl (.inl (z _ _ (S4 _ _ hf0)))) (fun i x H' hi _ => by simp at hi) ?_
    rintro H5 ⟨s5, e5⟩
    have m1 : fa ≠ aa := fun z => by rw [z, aA] at hfa; cases hfa
    have m2 : fa ≠ ea := fun z => by rw [z, ae] at hfa; cases hfa
    have m3 : fa ≠ pa := fun z => by rw [z, ap] at hfa; cases hfa
    have m4 : fa ≠ da := fun z => by rw [z, ad] at hfa; cases hfa
    have m5 : fa ≠ la := fun z => by rw [z, e4] at hfa; cases hfa
    have L : LAt K ⟨fa, la, aa, ea, pa, da, as⟩ H5 [] [] [] [] [] := ⟨s5 _ _ e4, s5 _ _ aA, s5 _ _ ae, s5 _ _ ap, ⟨[], s5 _ _ ad, rfl⟩, e5, rfl, by
      simp [LE0.six, m1, m2, m3, m4, m5, n4, n7, n9, n10, n1.symm, n2.symm, n3.symm, n5.symm, n6.symm, n8.symm]⟩
    have S5 := S4.trans s5
    have new : ∀ b, LM ⟨fa, la, aa, ea, pa, da, as⟩ [] b → H b = none := by
      rintro b (z | z | z | z | z)
      · rw [z]; exact none_same S4 hfa
      · rw [z]; exact hea
      · rw [z]; exact none_same s1 hpa
      · rw [z]; exact none_same (s1.trans s2) hda
      · exact absurd z List.not_mem_nil
    have sm : ∀ {H6}, Fr (LM ⟨fa, la, aa, ea, pa, da, as⟩ []) H5 H6 → Same H H6 := fun f b u hb => f b u (S5 b u hb) fun z => by rw [new b z] at hb; cases hb
    have wok : ∀ {f' : Flg}, nms f' = [] → WOk [] [] f' := fun e => by
      have : ∀ {g : Flg}, nms g = [] → g = [] := fun {g} e => by
        cases g with
        | nil => rfl
        | cons a r => simp [nms] at e
      rw [this e]
      exact ⟨fun k h => absurd h List.not_mem_nil, Nat.zero_le _, fun k h => absurd h List.not_mem_nil, Nat.zero_le _, fun k h => absurd h List.not_mem_nil, Nat.zero_le _⟩
    repeat ac_rfl
    refine ⟨⟨fa, la, aa, ea, pa, da, as⟩, [], [], [], [], [], bv, ss, 0, false, rfl, L, EncR.mono (TK.of_same S5) ss he, hw, by omega, ⟨Nat.zero_le _, ha4, by show 0 + _ ≤ _; omega, fun k h => absurd h List.not_mem_nil, by show 0 + _ ≤ _; omega, fun k h => absurd h List.not_mem_nil, by show 0 + _ ≤ _; omega, fun k h => absurd h List.not_mem_nil⟩, by show 0 + _ + 1 ≤ _; omega, fun f1 m1 e1 H6 rv rs' f6 L6 x6 ev => ?_, fun j f1 m1 e1 H6 rv rs' f6 L6 x6 ev => ?_, fun m1 e1 H6 rv f1 pt' dn' rs' f6 L6 wk ev => ?_, fun m1 e1 H6 rv f1 pt' dn' rs' f6 L6 wk _ ev => ?_⟩
    · have hn := (exB_len as (ss := ss) (fl := []) (f := f1) (m := m1) (mk := []) (Nat.zero_le _)).1 e1
      exact hN _ _ ⟨⟨fa, la, aa, ea, pa, da, as⟩, f1, m1, [], [], rs', rv, _, rfl, rfl, sm f6, L6, wok hn.2, e1, ev⟩
    · have hn := (exB_len as (ss := ss) (fl := []) (f := f1) (m := m1) (mk := []) (Nat.zero_le _)).2 j e1
      exact hN _ _ ⟨⟨fa, la, aa, ea, pa, da, as⟩, f1, m1, [], [], rs', rv, _, rfl, rfl, sm f6, L6, wok hn.2, e1, ev, oOk_B (as := as) hw [] [] j f1 (by rw [e1])⟩
    · exact hN _ _ ⟨⟨fa, la, aa, ea, pa, da, as⟩, f1, m1, pt', dn', rs', rv, _, rfl, rfl, sm f6, L6, wk, e1, ev⟩
    · exact hN _ _ ⟨⟨fa, la, aa, ea, pa, da, as⟩, f1, m1, pt', dn', rs', rv, _, rfl, rfl, sm f6, L6, wk, e1, ev⟩
  rintro _ H2 ⟨p, f', m, pt', dn', rs', rv, o, rfl, rfl, s2, L, wk, ee, ev⟩
  have hl : SqL K H2 p.la [.ref p.aa, .ref p.ea, .ref p.pa, .ref p.da] := .inl (.inl L.l)
  have hgr := exB_fine p.as ss [] []
  rw [ee] at hgr
  have hml : m.length ≤ 401 := by
    have h1 := hgr.gr.2 (Nat.zero_le _)
    cases ho : isWait o with
    | true => have h2 : m.length = p.as.length + 1 := h1.2 ho; omega
    | false => have h2 : m.length ≤ p.as.length := h1.1 ho; omega
  have hmo : MO m := by
    have := mo_B (as := p.as) hw [] [] mo_nil
    rw [ee] at this; exact this
  have hrun : Fl.run p.as ss = m.map evName ++ (outTxt o).toList := by
    unfold Fl.run events
    rw [ee]
  repeat ac_rfl
  refine ⟨_, rfl, p.la, _, 1, _, rfl, rfl, hl, rfl, p.ea, rfl, ⟨_, .inl (.inl L.e)⟩, fun D hD => ?_⟩
  refine lc_list (K := K) (a := p.ea) (xs := m.map V.str) (fun i H' => Same H2 H' ∧ H' D = some (.lst (((m.take i).map evName).map V.str))) ⟨same_new hD _, upd_same⟩ (fun i H' _ ⟨z, _⟩ => .inl (.inl (z _ _ L.e))) ?_ ?_
  · rintro i x H' hi ⟨sx, ed⟩
    rw [List.getElem?_map] at hi
    obtain ⟨n, hn, rfl⟩ := Option.map_eq_some_iff.mp hi
    have hno := (hmo n (List.mem_of_getElem? hn)).1
    have e1 : ((m.take (i + 1)).map evName).map V.str = ((m.take i).map evName).map V.str ++ [V.str (n ++ "()")] := by
      rw [List.take_add_one, hn, List.map_append, List.map_append]; rfl
    have e2 : ("()" : Str).length = 2 := by decide +kernel
    refine ⟨rfl, ?_⟩
    refine st_yes ?_
    repeat ac_rfl
    refine ⟨_, _, rfl, rfl, small3 (by rw [e2]; omega), ?_⟩
    refine ⟨_, ed, small_lt (by rw [List.length_map, List.length_map, List.length_take]; omega), fun b u hb => ?_, ?_⟩
    · rw [upd_ne (ne_of_none hb hD)]; exact sx b u hb
    · rw [upd_same, e1]
  rintro H3 ⟨s3, e3⟩
  rw [List.length_map, List.take_length] at e3
  have L3 := L.same s3
  have ev3 := EncO.mono (TK.of_same s3) ev
  have hl3 : SqL K H3 p.la [.ref p.aa, .ref p.ea, .ref p.pa, .ref p.da] := .inl (.inl L3.l)
  have S3 := s2.trans s3
  clear ev hl L s2
  refine st_name ?_
  with_reducible refine seq_cut4 (fun σ' H' => H' = H3 ∧ ∃ t, outTxt o = some t ∧ σ' = [some bv, some (.ref f0), some (.ref aa), some (.ref p.la), some (.ref p.fa), some rv, some (.ref D), some (.str t), none, none]) ?_ ?_
  · rintro _ H3' ⟨hH, t, ht, rfl⟩
    rw [hH]
    rw [ht] at hrun
    repeat ac_rfl
    refine ⟨smN rfl, fun l1 hl1 => ?_⟩
    have st1 := same_new hl1 (.lst [.str t])
    have f1 : (upd H3 l1 (.lst [.str t])) l1 = some (.lst [.str t]) := upd_same
    generalize upd H3 l1 (.lst [.str t]) = H4 at st1 f1
    refine ⟨_, _, _, _, rfl, rfl, st1 _ _ e3, f1, small3 (by rw [List.length_map, List.length_map]; show _ + 1 ≤ _; omega), fun l2 hl2 => ?_⟩
    have st2 := same_new hl2 (.lst ((m.map evName).map V.str ++ [.str t]))
    have f2 : (upd H4 l2 (.lst ((m.map evName).map V.str ++ [.str t]))) l2 = some (.lst ((m.map evName).map V.str ++ [.str t])) := upd_same
    generalize upd H4 l2 (.lst ((m.map evName).map V.str ++ [.str t])) = H5 at st2 f2
    repeat ac_rfl
    refine ⟨smN rfl, fun l3 hl3 => ?_⟩
    have st3 := same_new hl3 (.lst [.ref l2, .str t])
    exact q l3 l2 _ _ (((S3.trans st1).trans st2).trans st3) upd_same (by rw [st3 _ _ f2, hrun, List.map_append]; rfl)
  intro N hN
  cases o with
  | next f1 =>
    obtain ⟨ar, rfl, hrv⟩ := ev3
    repeat ac_rfl
    refine ⟨ar, _, rfl, .inr hrv, ?_⟩
    repeat ac_rfl
    refine ifb_no rfl ?_
    repeat ac_rfl
    exact hN _ _ ⟨rfl, _, rfl, rfl⟩
  | hang =>
    obtain ⟨ar, rfl, hrv⟩ := ev3
    repeat ac_rfl
    refine ⟨ar, _, rfl, .inr hrv, ?_⟩
    repeat ac_rfl
    refine ifb_no rfl ?_
    repeat ac_rfl
    exact hN _ _ ⟨rfl, _, rfl, rfl⟩
  | wait =>
    obtain ⟨ar, rfl, hrv⟩ := ev3
    repeat ac_rfl
    refine ⟨smN rfl, fun t ht => ?_⟩
    have st1 := same_new ht (.lst [.ref p.pa, .ref p.fa, .ref p.da])
    repeat ac_rfl
    refine st_reprS L3 wk ht fun x => ?_
    refine ⟨smN rfl, fun l3 hl3 => ?_⟩
    have st3 := same_new hl3 (.lst [.ref D, x])
    exact q l3 D _ _ ((S3.trans st1).trans st3) upd_same (by rw [st3 _ _ (st1 _ _ e3), hrun]; show _ = some (HO.lst ((m.map evName ++ []).map V.str)); rw [List.append_nil])
  | jump j f1 =>
    obtain ⟨hj, hjo⟩ := ev3
    cases j with
    | ret n =>
      obtain ⟨ar, rfl, hrv⟩ := hj
      repeat ac_rfl
      refine ⟨ar, _, rfl, .inr hrv, ?_⟩
      repeat ac_rfl
      refine ifb_yes rfl ?_
      repeat ac_rfl
      cases n with
      | none =>
        repeat ac_rfl
        exact hN _ _ ⟨rfl, _, rfl, rfl⟩
      | some n =>
        obtain ⟨h0, h1⟩ := hjo.1 n rfl
        obtain ⟨hz, hzl⟩ := num_small h0 h1
        refine ifn_no (fun z => by cases z) ?_
        repeat ac_rfl
        refine ⟨_, _, rfl, rfl, small3 (by decide +kernel), ?_⟩
        repeat ac_rfl
        refine .inl ⟨n, rfl, hz, ?_⟩
        refine ⟨_, _, rfl, rfl, small3 (by have e : ((("return" : Str) ++ (" " : Str)).length) = 7 := by decide +kernel
                                           rw [e]; omega), ?_⟩
        exact hN _ _ ⟨rfl, _, rfl, rfl⟩
    | brk l =>
      obtain ⟨ar, rfl, hrv⟩ := hj
      repeat ac_rfl
      refine ⟨ar, _, rfl, .inr hrv, ?_⟩
      repeat ac_rfl
      refine ifb_yes rfl ?_
      repeat ac_rfl
      cases l with
      | none =>
        repeat ac_rfl
        exact hN _ _ ⟨rfl, _, rfl, rfl⟩
      | some n =>
        have hnl := (hjo.2 n (.inl rfl)).1
        refine ifn_no (fun z => by cases z) ?_
        repeat ac_rfl
        refine ⟨_, _, rfl, rfl, small3 (by decide +kernel), ?_⟩
        repeat ac_rfl
        refine .inr ⟨n, rfl, ?_⟩
        refine ⟨_, _, rfl, rfl, small3 (by have e : ((("break" : Str) ++ (" " : Str)).length) = 6 := by decide +kernel
                                           rw [e]; omega), ?_⟩
        exact hN _ _ ⟨rfl, _, rfl, rfl⟩
    | cont l =>
      obtain ⟨ar, rfl, hrv⟩ := hj
      repeat ac_rfl
      refine ⟨ar, _, rfl, .inr hrv, ?_⟩
      repeat ac_rfl
      refine ifb_yes rfl ?_
      repeat ac_rfl
      cases l with
      | none =>
        repeat ac_rfl
        exact hN _ _ ⟨rfl, _, rfl, rfl⟩
      | some n =>
        have hnl := (hjo.2 n (.inr rfl)).1
        refine ifn_no (fun z => by cases z) ?_
        repeat ac_rfl
        refine ⟨_, _, rfl, rfl, small3 (by decide +kernel), ?_⟩
        repeat ac_rfl
        refine .inr ⟨n, rfl, ?_⟩
        refine ⟨_, _, rfl, rfl, small3 (by have e : ((("continue" : Str) ++ (" " : Str)).length) = 9 := by decide +kernel
                                           rw [e]; omega), ?_⟩
        exact hN _ _ ⟨rfl, _, rfl, rfl⟩
theorem ok_LE (ml : BN mg) (DS : DA K mg "_law_state" (top 46) ["_law_program_here", "_law_flags", "_law_answers_here"] fr dr) (GS : FnG P w K mg base 66 fr dr ["_law_program_here", "_law_flags", "_law_answers_here"] (spLSt K)) (D : DA K mg "_law_events" (top 47) ["_law_program_here", "_law_answers_here"] f fd) :
    FnG P w K mg base 67 f fd ["_law_program_here", "_law_answers_here"] (spLE K) := by
  refine okG D.F scLE (fun vs H Q E h => ?_) (fun cdv A outer s H vs Q E hgd hr h => ?_)
  · obtain ⟨bv, ss, ga, as, rfl, _⟩ := h
    rfl
  obtain ⟨bv, ss, ga, as, rfl, he, hw, hsz, ha4, hga, q⟩ := h
  refine ⟨_, (pss_one (ps_ret (pe_callTy call_tuple_of (by rfl) ml.tuple (by decide +kernel) (pa_cons (pe_ix ix_list (pe_clG DS GS hgd hr (pa_cons (pv 0) (pa_cons (pe_lst pa_nil) (pa_cons (pe_callTy call_list_of (by rfl) ml.list (by decide +kernel) (pa_cons (pv 1) pa_nil)) pa_nil)))) pe_int (fun _ _ => rfl)) pa_nil)))), ?_⟩
  dsimp only [cxOf, Cx.nox]
  repeat ac_rfl
  refine ⟨small3 (Nat.zero_le _), fun l0 hl0 => ?_⟩
  have s1 := same_new hl0 (.lst [])
  have e1 : (upd H l0 (.lst [])) l0 = some (.lst []) := upd_same
  generalize upd H l0 (.lst []) = H1 at s1 e1
  repeat ac_rfl
  refine ⟨ga, _, rfl, .inr ((TK.of_same s1) _ _ hga), fun l1 hl1 => ?_⟩
  have s2 := same_new hl1 (.lst (as.map V.bl))
  have e2 : (upd H1 l1 (.lst (as.map V.bl))) l1 = some (.lst (as.map V.bl)) := upd_same
  generalize upd H1 l1 (.lst (as.map V.bl)) = H2 at s2 e2
  repeat ac_rfl
  refine ⟨bv, ss, l0, l1, as, rfl, EncR.mono (TK.of_same (s1.trans s2)) ss he, hw, hsz, ha4, s2 _ _ e1, e2, fun r e v2 H3 s3 h1 h2 => ?_⟩
  repeat ac_rfl
  refine st_ixl (.inl (.inl h1)) rfl ?_
  repeat ac_rfl
  refine ⟨e, _, rfl, .inl ⟨.inl (.inl h2), fun t ht => ?_⟩⟩
  have s4 := same_new ht (.tup ((Fl.run as ss).map V.str))
  exact q t _ (((s1.trans s2).trans s3).trans s4) (.inl (.inl upd_same))
end
end K23
namespace K23
open PySem PySem.Spec PyProof.Rows L2 Fl RT
section
variable {K : PySem.W.Frag} {H : Hp} {Q : VK} {i j : Int} {g : Int → Int → V}
theorem st_mulc (h1 : -(2 ^ 64) < j) (h2 : j < 2 ^ 64) (q : Q (g i j) H) : rI CMul g (.int i) (.int j) H Q := ⟨i, j, rfl, rfl, .inr ⟨h1, h2⟩, q⟩
theorem st_modc (h : 0 < j) (q : Q (g i j) H) : rI (fun _ j => 0 < j) g (.int i) (.int j) H Q := ⟨i, j, rfl, rfl, h, q⟩
theorem st_lenL {a : Addr} {xs : List V} (h : H a = some (.lst xs)) (q : Q (.int ((xs.length : Nat) : Int)) H) : ∃ p ys, [V.ref a] = [V.ref p] ∧ (SqL K H p ys ∨ SqT K H p ys) ∧ Q (V.int ((ys.length : Nat) : Int)) H := ⟨a, xs, rfl, .inl (.inl (.inl h)), q⟩
end
local macro_rules | `(tactic| ac_rfl) => `(tactic| (
  first
    | with_reducible refine Stp.go ?_
    | with_reducible refine st_var (by with_unfolding_all exact rfl) ?_
    | with_reducible refine st_ixt (by with_unfolding_all assumption) (by with_unfolding_all exact rfl) ?_
    | with_reducible refine st_ixl (by with_unfolding_all assumption) (by with_unfolding_all exact rfl) ?_
    | with_reducible refine st_eq (by with_unfolding_all exact rfl) ?_
    | with_reducible refine st_bl ?_
    | with_reducible refine ifb_t ?_
    | with_reducible refine ifb_f ?_
    | with_reducible refine ifs_no (by decide +kernel) ?_
    | with_reducible refine ifs_yes rfl ?_
    | with_reducible refine ifs_yes lab_rfl ?_
    | with_reducible refine ifs_yes num_rfl ?_
    | with_reducible refine ifn_no (by decide +kernel) ?_
    | with_reducible refine ifn_yes rfl ?_
    | with_reducible refine ifnb_t ?_
    | with_reducible refine ifnb_f ?_
    | with_reducible refine st_ne (by with_unfolding_all exact rfl) ?_
    | with_reducible refine st_ix0 (by with_unfolding_all assumption) ?_
    | with_reducible refine st_sl ?_
    | with_reducible refine st_part ?_
    | with_reducible refine st_nopart ?_
    | with_reducible refine st_mulc (by decide) (by decide) ?_
    | with_reducible refine st_modc (by decide) ?_
    | with_reducible refine Or.inl ⟨_, rfl, ?_⟩
    | with_reducible refine ⟨_, rfl, ?_⟩))
/-- the tape -/
structure Tap where
  a : Addr
  sa : Addr
  ns : List Int
def TpAt (H : Hp) (T : Tap) : Prop := ∃ (pl : Nat) (big tot : Int), H T.a = some (.lst [.ref T.sa, .int pl, .int big, .int tot]) ∧ H T.sa = some (.lst (T.ns.map V.int)) ∧ T.ns.length ≤ 63 ∧ T.sa ≠ T.a
theorem TpAt.same {H H' : Hp} {T : Tap} (s : Same H H') (h : TpAt H T) : TpAt H' T := by
  obtain ⟨pl, big, tot, h1, h2, h3, h4⟩ := h
  exact ⟨pl, big, tot, s _ _ h1, s _ _ h2, h3, h4⟩
theorem TpAt.ne {H : Hp} {T : Tap} {p : Addr} (t : TpAt H T) (h : H p = none) : p ≠ T.a := fun z => by
  obtain ⟨pl, big, tot, h1, _⟩ := t
  rw [z, h1] at h; cases h
theorem TpAt.ne2 {H : Hp} {T : Tap} {p : Addr} (t : TpAt H T) (h : H p = none) : p ≠ T.sa := fun z => by
  obtain ⟨pl, big, tot, _, h1, _⟩ := t
  rw [z, h1] at h; cases h
theorem TpAt.put {H : Hp} {T : Tap} {p : Addr} {o : HO} (t : TpAt H T) (h1 : p ≠ T.a) (h2 : p ≠ T.sa) : TpAt (upd H p o) T := by
  obtain ⟨pl, big, tot, a, b, c, d⟩ := t
  exact ⟨pl, big, tot, by rw [upd_ne (Ne.symm h1)]; exact a, by rw [upd_ne (Ne.symm h2)]; exact b, c, d⟩
def MT (T : Tap) : Addr → Prop := fun b => b = T.a
def spTape (K : PySem.W.Frag) : Sp := fun vs H Q _ => ∃ (a : Addr) (ns : List Int), vs = [.ref a] ∧ SqL K H a (ns.map V.int) ∧ ns.length ≤ 63 ∧ ∀ (T : Tap) H', Same H H' → H T.a = none → H T.sa = none → TpAt H' T → Q (.ref T.a) H'
def spDraw : Sp := fun vs H Q _ => ∃ (T : Tap) (m : Int), vs = [.ref T.a, .int m] ∧ TpAt H T ∧ m ≤ 1000 ∧ ∀ (r : Nat) H', (r : Int) < max m 1 → Fr (MT T) H H' → TpAt H' T → Q (natV r) H'
theorem scTape : FnScope ["_law_script", "_law_total", "_law_cell"] ["_law_script"] (defScope (top 29)) := ⟨rfl, rfl, rfl, by decide +kernel, rfl, by decide +kernel, by decide +kernel⟩
theorem scDraw : FnScope ["_law_tape_here", "_law_many", "_law_place", "_law_number"] ["_law_tape_here", "_law_many"] (defScope (top 30)) := ⟨rfl, rfl, rfl, by decide +kernel, rfl, by decide +kernel, by decide +kernel⟩
section
variable {P : Program} {w : World} {K : PySem.W.Frag} {mg : Str → Option Value} {base : Heap} {f fr : Addr} {fd dr : FuncData}
theorem ok_tape (ml : BN mg) (D : DA K mg "_law_tape" (top 29) ["_law_script"] f fd) : FnOk P w K mg base CX0 1 f fd ["_law_script"] (spTape K) := by
  refine D.F.ok scTape (fun vs H Q E h => ?_) (fun cdv A outer s H vs Q E hr h => ?_)
  · obtain ⟨a, ns, rfl, _⟩ := h
    rfl
  obtain ⟨a, ns, rfl, ha, hn, q⟩ := h
  refine ⟨_, (pss_cons (ps_set (i := 1) scTape.nd rfl (Or.inl rfl) pe_int)
      (pss_cons (ps_for PassesOwn.never rfl (pi_list (pv 0)) (pg_name (i := 2) scTape.nd rfl (Or.inl rfl)) (pss_one (ps_set (i := 1) scTape.nd rfl (Or.inl rfl) (pe_op op_mod (pe_callTy call_int1 (by rfl) ml.int (by decide +kernel) (pa_cons (pe_op op_add (pe_op op_mul (pv 1) pe_int) (pe_callB call_abs (by rfl) ml.abs boot_abs (pa_cons (pe_callTy call_int1 (by rfl) ml.int (by decide +kernel) (pa_cons (pv 2) pa_nil)) pa_nil))) pa_nil)) pe_int))))
      (pss_one (ps_ret (pe_lst (pa_cons (pe_callTy call_list_of (by rfl) ml.list (by decide +kernel) (pa_cons (pv 0) pa_nil)) (pa_cons pe_int (pa_cons pe_int (pa_cons (pv 1) pa_nil))))))))), ?_⟩
  dsimp only [cxOf, Cx.nox]
  repeat ac_rfl
  refine ⟨_, rfl, a, rfl, ⟨_, ha⟩, for_list (K := K) (a := a) (xs := ns.map V.int) (fun _ σ H' => H' = H ∧ ∃ (i : Int) (o2 : Option V), σ = [some (.ref a), some (.int i), o2]) ⟨rfl, 7, none, rfl⟩ (fun _ _ _ _ ⟨hH, _⟩ => by rw [hH]; exact ha) ?_ ?_⟩
  · rintro k x σ H2 hx ⟨hH, i, o2, rfl⟩
    rw [List.getElem?_map] at hx
    obtain ⟨n, hn, rfl⟩ := Option.map_eq_some_iff.mp hx
    repeat ac_rfl
    exact ⟨hH, _, _, rfl⟩
  · rintro σ H2 ⟨hH, i, o2, rfl⟩
    rw [hH]
    repeat ac_rfl
    refine ⟨a, _, rfl, .inl ha, fun sa hsa => ?_⟩
    have s1 := same_new hsa (.lst (ns.map V.int))
    have e1 : (upd H sa (.lst (ns.map V.int))) sa = some (.lst (ns.map V.int)) := upd_same
    generalize upd H sa (.lst (ns.map V.int)) = H1 at s1 e1
    repeat ac_rfl
    refine ⟨smN rfl, fun ta hta => ?_⟩
    have s2 := same_new hta (.lst [.ref sa, .int 0, .int 0, .int i])
    exact q ⟨ta, sa, ns⟩ _ (s1.trans s2) (none_same s1 hta) hsa ⟨0, 0, i, upd_same, s2 _ _ e1, hn, fun z => by rw [show sa = ta from z, hta] at e1; cases e1⟩
theorem ok_draw (ml : BN mg) (D : DA K mg "_law_draw" (top 30) ["_law_tape_here", "_law_many"] f fd) : FnOk P w K mg base CX0 1 f fd ["_law_tape_here", "_law_many"] spDraw := by
  refine D.F.ok scDraw (fun vs H Q E h => ?_) (fun cdv A outer s H vs Q E hr h => ?_)
  · obtain ⟨ta, m, rfl, _⟩ := h
    rfl
  obtain ⟨⟨ta, sa, ns⟩, m, rfl, ⟨pl, big, tot, h1, h2, hn, hne⟩, hm, q⟩ := h
  dsimp only at h1 h2 hn hne q ⊢
  refine ⟨_, (pss_cons (ps_if (pt_cmpR op_eq (pe_ix ix_list (pv 0) pe_int (fun _ _ => rfl)) pe_int (nomark _)) (pss_cons (ps_set (i := 2) scDraw.nd rfl (Or.inl rfl) (pe_ix ix_list (pv 0) pe_int (fun _ _ => rfl)))
      (pss_cons (ps_set (i := 3) scDraw.nd rfl (Or.inl rfl) pe_int)
      (pss_cons (ps_if (pt_cmpR op_lt (pv 2) (pe_len ml.len (pe_ix ix_list (pv 0) pe_int (fun _ _ => rfl))) (nomark _)) (pss_one (ps_set (i := 3) scDraw.nd rfl (Or.inl rfl) (pe_callB call_abs (by rfl) ml.abs boot_abs (pa_cons (pe_callTy call_int1 (by rfl) ml.int (by decide +kernel) (pa_cons (pe_ix ix_list (pe_ix ix_list (pv 0) pe_int (fun _ _ => rfl)) (pv 2) (fun _ _ => rfl)) pa_nil)) pa_nil)))) (pss_cons (ps_asg (pe_op op_mod (pe_callTy call_int1 (by rfl) ml.int (by decide +kernel) (pa_cons (pe_op op_add (pe_op op_add (pe_op op_mul (pe_ix ix_list (pv 0) pe_int (fun _ _ => rfl)) pe_int) (pv 2)) pe_int) pa_nil)) pe_int) (pg_sub (pv 0) pe_int set_list))
      (pss_one (ps_set (i := 3) scDraw.nd rfl (Or.inl rfl) (pe_ix ix_list (pv 0) pe_int (fun _ _ => rfl))))))
      (pss_cons (ps_asg (pe_op op_add (pv 2) pe_int) (pg_sub (pv 0) pe_int set_list))
      (pss_cons (ps_if (pt_cmpR op_lt (pv 3) (pe_op op_pow pe_int pe_int) (nomark _)) (pss_cons (ps_set (i := 3) scDraw.nd rfl (Or.inl rfl) (pe_op op_mod (pe_callTy call_int1 (by rfl) ml.int (by decide +kernel) (pa_cons (pe_op op_add (pe_op op_add (pe_op op_mul (pv 3) pe_int) (pe_op op_mul (pv 2) pe_int)) pe_int) pa_nil)) pe_int))
      (pss_cons (ps_set (i := 3) scDraw.nd rfl (Or.inl rfl) (pe_op op_mod (pe_callTy call_int1 (by rfl) ml.int (by decide +kernel) (pa_cons (pe_op op_mul (pv 3) pe_int) pa_nil)) pe_int))
      (pss_one (ps_ret (pe_op op_mod (pe_callTy call_int1 (by rfl) ml.int (by decide +kernel) (pa_cons (pv 3) pa_nil)) (pe_callB (call_max2 rfl) (by rfl) ml.max boot_max (pa_cons (pv 1) (pa_cons pe_int pa_nil)))))))) pss_nil)
      (pss_one (ps_asg (pv 3) (pg_sub (pv 0) pe_int set_list)))))))) pss_nil)
      (pss_cons (ps_set (i := 3) scDraw.nd rfl (Or.inl rfl) (pe_ix ix_list (pv 0) pe_int (fun _ _ => rfl)))
      (pss_cons (ps_asg (pe_op op_fdiv (pv 3) (pe_callB (call_max2 rfl) (by rfl) ml.max boot_max (pa_cons (pv 1) (pa_cons pe_int pa_nil)))) (pg_sub (pv 0) pe_int set_list))
      (pss_one (ps_ret (pe_op op_mod (pe_callTy call_int1 (by rfl) ml.int (by decide +kernel) (pa_cons (pv 3) pa_nil)) (pe_callB (call_max2 rfl) (by rfl) ml.max boot_max (pa_cons (pv 1) (pa_cons pe_int pa_nil))))))))), ?_⟩
  dsimp only [cxOf, Cx.nox]
  have hmx : ∀ {k : Int}, 0 < k → 0 < (if k > m then k else m) := fun {k} hk => by split <;> omega
  have emx : (if (1 : Int) > m then 1 else m) = max m 1 := by split <;> omega
  have mx2 : ∀ {k : Int}, k ≤ 2 → (if k > m then k else m) < 1073741824 := fun {k} hk => by split <;> omega
  have fin : ∀ (x : Int) H', Fr (MT ⟨ta, sa, ns⟩) H H' → TpAt H' ⟨ta, sa, ns⟩ → Q (.int (x % (if (1 : Int) > m then 1 else m))) H' := fun x H' f t => by
    have h0 := Int.emod_nonneg x (Int.ne_of_gt (hmx (k := 1) (by decide)))
    have h1 := Int.emod_lt_of_pos x (hmx (k := 1) (by decide))
    rw [emx] at h0 h1 ⊢
    have := q (x % max m 1).toNat H' (by omega) f t
    have e : (((x % max m 1).toNat : Nat) : Int) = x % max m 1 := by omega
    rw [show natV (x % max m 1).toNat = V.int (x % max m 1) by show V.int _ = _; rw [e]] at this
    exact this
  have hta : SqL K H ta [.ref sa, .int pl, .int big, .int tot] := .inl (.inl h1)
  refine seq_cut (fun σ' H' => ∃ (o2 o3 : Option V) (pl' : Nat) (b' t' : Int), σ' = [some (.ref ta), some (.int m), o2, o3] ∧ H' ta = some (.lst [.ref sa, .int pl', .int b', .int t']) ∧ Fr (MT ⟨ta, sa, ns⟩) H H') ?_ ?_
  · rintro _ H2 ⟨o2, o3, pl', b', t', rfl, e2, f2⟩
    have nsa : ¬ MT ⟨ta, sa, ns⟩ sa := hne
    have hta2 : SqL K H2 ta [.ref sa, .int pl', .int b', .int t'] := .inl (.inl e2)
    repeat ac_rfl
    refine ⟨m, 2, rfl, ?_⟩
    refine ⟨_, _, rfl, rfl, ⟨hmx (by decide), mx2 (by decide)⟩, ?_⟩
    refine ⟨_, rfl, ta, _, 2, 2, rfl, rfl, e2, rfl, ?_⟩
    repeat ac_rfl
    refine ⟨m, 1, rfl, ?_⟩
    refine ⟨_, _, rfl, rfl, hmx (by decide), ?_⟩
    exact fin b' _ (f2.upd (.inl rfl)) ⟨pl', _, t', upd_same, by rw [upd_ne hne]; exact f2 _ _ h2 nsa, hn, hne⟩
  intro N hN
  repeat ac_rfl
  by_cases hb : big = 0
  · refine ifb_yes (decide_eq_true (by rw [hb])) ?_
    refine seq_cut3 (fun σ' H' => ∃ (num t' : Int), σ' = [some (.ref ta), some (.int m), some (.int pl), some (.int num)] ∧ H' ta = some (.lst [.ref sa, .int pl, .int big, .int t']) ∧ Fr (MT ⟨ta, sa, ns⟩) H H') ?_ ?_
    · rintro _ H2 ⟨num, t', rfl, e2, f2⟩
      have nsa : ¬ MT ⟨ta, sa, ns⟩ sa := hne
      repeat ac_rfl
      refine ⟨_, rfl, ta, _, 1, 1, rfl, rfl, e2, rfl, ?_⟩
      have e3 : (upd H2 ta (.lst ([V.ref sa, .int pl, .int big, .int t'].set 1 (.int ((pl : Int) + 1))))) ta = some (.lst [V.ref sa, .int ((pl + 1 : Nat) : Int), .int big, .int t']) := by rw [upd_same]; rfl
      have f3 : Fr (MT ⟨ta, sa, ns⟩) H (upd H2 ta (.lst ([V.ref sa, .int pl, .int big, .int t'].set 1 (.int ((pl : Int) + 1))))) := f2.upd (.inl rfl)
      generalize upd H2 ta (.lst ([V.ref sa, .int pl, .int big, .int t'].set 1 (.int ((pl : Int) + 1)))) = H3 at e3 f3
      have tp : TpAt H3 ⟨ta, sa, ns⟩ := ⟨pl + 1, big, t', e3, f3 _ _ h2 nsa, hn, hne⟩
      repeat ac_rfl
      refine ⟨_, _, rfl, rfl, ⟨by decide, by decide, by decide⟩, ?_⟩
      repeat ac_rfl
      refine ifb (fun hz => ?_) (fun hz => ?_)
      · repeat ac_rfl
        refine ⟨m, 1, rfl, ?_⟩
        refine ⟨_, _, rfl, rfl, hmx (by decide), ?_⟩
        exact fin _ _ f3 tp
      · repeat ac_rfl
        refine ⟨_, rfl, ta, _, 2, 2, rfl, rfl, e3, rfl, ?_⟩
        exact hN _ _ ⟨_, _, pl + 1, num, t', rfl, by rw [upd_same]; rfl, f3.upd (.inl rfl)⟩
    · intro N2 hN2
      repeat ac_rfl
      refine ⟨sa, _, rfl, .inl (.inl (.inl h2)), ?_⟩
      repeat ac_rfl
      refine ifb (fun hz => ?_) (fun hz => ?_)
      · have hlt : pl < ns.length := by
          have := of_decide_eq_true hz
          rw [List.length_map] at this
          omega
        repeat ac_rfl
        refine st_ixl (.inl (.inl h2)) (atI_nat (by rw [List.getElem?_map, List.getElem?_eq_getElem hlt]; rfl)) ?_
        repeat ac_rfl
        exact hN2 _ _ ⟨_, tot, rfl, h1, Fr.refl⟩
      · repeat ac_rfl
        refine ⟨_, rfl, ta, _, 3, 3, rfl, rfl, h1, rfl, ?_⟩
        have e3 : ∀ t : Int, (upd H ta (.lst ([V.ref sa, .int pl, .int big, .int tot].set 3 (.int t)))) ta = some (.lst [V.ref sa, .int pl, .int big, .int t]) := fun t => by rw [upd_same]; rfl
        have hx : ∀ t : Int, SqL K (upd H ta (.lst ([V.ref sa, .int pl, .int big, .int tot].set 3 (.int t)))) ta [V.ref sa, .int pl, .int big, .int t] := fun t => .inl (.inl (e3 t))
        repeat ac_rfl
        refine st_ixl (hx _) rfl ?_
        repeat ac_rfl
        exact hN2 _ _ ⟨_, _, rfl, e3 _, Fr.refl.upd (.inl rfl)⟩
  · refine ifb_no (decide_eq_false (fun z => hb (by injection z))) ?_
    repeat ac_rfl
    exact hN _ _ ⟨_, _, pl, big, tot, rfl, h1, Fr.refl⟩
end
end K23
namespace K23
open PySem PySem.Spec PyProof.Rows L2 Fl RT
local macro_rules | `(tactic| ac_rfl) => `(tactic| (
  first
    | with_reducible refine Stp.go ?_
    | with_reducible refine st_var (by with_unfolding_all exact rfl) ?_
    | with_reducible refine st_ixt (by with_unfolding_all assumption) (by with_unfolding_all exact rfl) ?_
    | with_reducible refine st_ixl (by with_unfolding_all assumption) (by with_unfolding_all exact rfl) ?_
    | with_reducible refine st_eq (by with_unfolding_all exact rfl) ?_
    | with_reducible refine st_bl ?_
    | with_reducible refine ifb_t ?_
    | with_reducible refine ifb_f ?_
    | with_reducible refine ifs_no (by decide +kernel) ?_
    | with_reducible refine ifs_yes rfl ?_
    | with_reducible refine ifs_yes lab_rfl ?_
    | with_reducible refine ifs_yes num_rfl ?_
    | with_reducible refine ifn_no (by decide +kernel) ?_
    | with_reducible refine ifn_yes rfl ?_
    | with_reducible refine ifnb_t ?_
    | with_reducible refine ifnb_f ?_
    | with_reducible refine st_ne (by with_unfolding_all exact rfl) ?_
    | with_reducible refine st_ix0 (by with_unfolding_all assumption) ?_
    | with_reducible refine st_sl ?_
    | with_reducible refine st_part ?_
    | with_reducible refine st_nopart ?_
    | with_reducible refine st_mulc (by decide) (by decide) ?_
    | with_reducible refine st_modc (by decide) ?_
    | with_reducible refine Or.inl ⟨_, rfl, ?_⟩
    | with_reducible refine ⟨_, rfl, ?_⟩))
section
variable {K : PySem.W.Frag} {H : Hp} {σ : L2.St} {te : TE} {tl th : TO}
theorem st_sl {r : V → Option Int → Option Int → Hp → VK → Prop} {Q : VK} (h : te σ H fun x H1 => tl σ H1 fun l H2 => th σ H2 fun u H3 => r x l u H3 Q) : tSl r te tl th σ H Q := h
theorem st_part {Q : Option Int → Hp → Prop} (h : te σ H fun x H1 => ∃ i, x = .int i ∧ Q (some i) H1) : tPart te σ H Q := h
theorem st_nopart {Q : Option Int → Hp → Prop} (h : Q none H) : tNoPart σ H Q := h
end
/-- where the drawing's defs stand -/
structure DD (K : PySem.W.Frag) (mg : Str → Option Value) (fa : Nat → Addr) (fd : Nat → FuncData) : Prop where
  law_tape : DA K mg "_law_tape" (top 29) ["_law_script"] (fa 29) (fd 29)
  law_draw : DA K mg "_law_draw" (top 30) ["_law_tape_here", "_law_many"] (fa 30) (fd 30)
  law_names : DA K mg "_law_names" (top 31) ["_law_tape_here", "_law_many"] (fa 31) (fd 31)
  law_world : DA K mg "_law_world" (top 32) ["_law_tape_here"] (fa 32) (fd 32)
  law_leaf : DA K mg "_law_leaf" (top 33) ["_law_tape_here", "_law_world_here", "_law_flags"] (fa 33) (fd 33)
  law_joined : DA K mg "_law_joined" (top 34) ["_law_word", "_law_left", "_law_right"] (fa 34) (fd 34)
  law_condition : DA K mg "_law_condition" (top 35) ["_law_tape_here", "_law_world_here", "_law_flags"] (fa 35) (fd 35)
  law_stop : DA K mg "_law_stop" (top 36) ["_law_tape_here", "_law_world_here", "_law_loops"] (fa 36) (fd 36)
  law_nest : DA K mg "_law_nest" (top 37) ["_law_tape_here", "_law_world_here", "_law_flags", "_law_loops", "_law_last", "_law_depth"] (fa 37) (fd 37)
  law_statement : DA K mg "_law_statement" (top 38) ["_law_tape_here", "_law_world_here", "_law_flags", "_law_own", "_law_loops", "_law_last", "_law_depth"] (fa 38) (fd 38)
  law_body : DA K mg "_law_body" (top 39) ["_law_tape_here", "_law_world_here", "_law_flags", "_law_loops", "_law_last", "_law_depth"] (fa 39) (fd 39)
  law_program : DA K mg "_law_program" (top 40) ["_law_tape_here", "_law_world_here"] (fa 40) (fd 40)
  law_answers : DA K mg "_law_answers" (top 48) ["_law_tape_here"] (fa 48) (fd 48)
  law_parts : DA K mg "_law_parts" (top 49) ["_law_condition_here"] (fa 49) (fd 49)
def Gd (c : Nat) (n : Nm) : Prop := n.length ≤ c ∧ ∀ ch ∈ n.cps.toList, ch < 128
theorem Gd.nm {c : Nat} {n : Nm} (h : Gd c n) (hc : c ≤ 60) : nmOk n := ⟨Nat.le_trans h.1 hc, fun x hx => h.2 x (by simpa using hx)⟩
theorem Gd.of_nm {n : Nm} (h : nmOk n) : Gd 60 n := ⟨h.1, fun x hx => h.2 x (by simpa using hx)⟩
theorem Gd.mono {c d : Nat} {n : Nm} (h : Gd c n) (hc : c ≤ d) : Gd d n := ⟨Nat.le_trans h.1 hc, h.2⟩
theorem str_app_len (x y : Str) : (x ++ y).length = x.length + y.length := by
  rw [← cl_len, cl_app, List.length_append, cl_len, cl_len]
theorem Gd.app {a b : Nat} {x y : Nm} (h : Gd a x) (k : Gd b y) : Gd (a + b) (x ++ y) := by
  refine ⟨?_, fun ch hc => ?_⟩
  · have h1 := h.1
    have h2 := k.1
    rw [str_app_len]; omega
  · have e : (x ++ y).cps.toList = x.cps.toList ++ y.cps.toList := cl_app x y
    rw [e] at hc
    rcases List.mem_append.mp hc with z | z
    · exact h.2 ch z
    · exact k.2 ch z
theorem Gd.cut {c : Nat} {z : Nm} {lo hi : Option Int} (h : Gd c z) : Gd c (cutS z lo hi) := by
  unfold cutS
  refine ⟨?_, fun ch hc => ?_⟩
  · show Array.size _ ≤ c
    rw [List.size_toArray, List.length_take, List.length_drop]
    have h1 : z.cps.toList.length = z.length := cl_len z
    have := h.1
    omega
  · have hc' : ch ∈ ((z.cps.toList.drop (HT.sIx z.length 0 lo)).take (HT.sIx z.length z.length hi - HT.sIx z.length 0 lo)).toArray.toList := hc
    rw [List.toList_toArray] at hc'
    exact h.2 ch (List.mem_of_mem_drop (List.mem_of_mem_take hc'))
theorem Gd.sign {c : Nat} (h : c < 128) : Gd 1 (⟨#[c]⟩ : Str) := ⟨Nat.le_refl _, fun ch hc => by
  have : ch ∈ [c] := hc
  rw [List.mem_singleton.mp this]; exact h⟩
def goodB (c : Nat) (n : Nm) : Bool := decide (n.length ≤ c) && n.cps.toList.all fun ch => decide (ch < 128)
theorem Gd.of {c : Nat} {n : Nm} (h : goodB c n = true) : Gd c n := by
  unfold goodB at h
  rw [Bool.and_eq_true, decide_eq_true_iff, List.all_eq_true] at h
  exact ⟨h.1, fun ch hc => of_decide_eq_true (h.2 ch hc)⟩
theorem pick {vs : List V} {r : Nat} (h : r < vs.length) : ∃ v, atI vs (natV r |> fun _ => ((r : Nat) : Int)) = some v ∧ v ∈ vs := ⟨vs[r], atI_nat (List.getElem?_eq_getElem h), List.getElem_mem h⟩
theorem pickS {ws : List Nm} {r c : Nat} (h : r < ws.length) (hg : ws.all (goodB c) = true) : ∃ z, atI (ws.map V.str) ((r : Nat) : Int) = some (.str z) ∧ Gd c z := by
  refine ⟨ws[r], atI_nat (by rw [List.getElem?_map, List.getElem?_eq_getElem h]; rfl), Gd.of ?_⟩
  rw [List.all_eq_true] at hg
  exact hg _ (List.getElem_mem h)
theorem pickI {ws : List Nat} {r c : Nat} (h : r < ws.length) (hg : ws.all (fun k => decide (k ≤ c)) = true) : ∃ z : Nat, atI (ws.map natV) ((r : Nat) : Int) = some (natV z) ∧ z ≤ c := by
  refine ⟨ws[r], atI_nat (by rw [List.getElem?_map, List.getElem?_eq_getElem h]; rfl), ?_⟩
  rw [List.all_eq_true] at hg
  exact of_decide_eq_true (hg _ (List.getElem_mem h))
theorem pickC {z : Nm} {r c : Nat} (h : r < z.length) (hg : goodB c z = true) : ∃ ch, atI z.cps.toList ((r : Nat) : Int) = some ch ∧ ch < 128 := by
  have hl : r < z.cps.toList.length := by
    have := cl_len z
    show r < (cl z).length
    omega
  exact ⟨_, atI_nat (List.getElem?_eq_getElem hl), (Gd.of hg).2 _ (List.getElem_mem hl)⟩
theorem num_good : ∀ k : _root_.Fin 100, goodB 10 (Str.ofString (toString (k.val : Int))) = true := by decide +kernel
theorem numGd {k : Nat} (h : k < 100) : Gd 10 (Str.ofString (toString (k : Int))) := Gd.of (num_good ⟨k, h⟩)
theorem foldl_mem {p : Nat → Prop} : ∀ (n : Nat) (a c : Array Nat), (∀ x ∈ a.toList, p x) → (∀ x ∈ c.toList, p x) → ∀ x ∈ ((List.replicate n c).foldl (· ++ ·) a).toList, p x
  | 0, a, c, ha, _ => ha
  | n + 1, a, c, ha, hc => by
    rw [List.replicate_succ, List.foldl_cons]
    refine foldl_mem n (a ++ c) c (fun x hx => ?_) hc
    rw [Array.toList_append] at hx
    rcases List.mem_append.mp hx with z | z
    · exact ha x z
    · exact hc x z
/-- "x" * k -/
def rMulX : R2 := fun x y H Q => ∃ (k : Int), x = .str "x" ∧ y = .int k ∧ -100 ≤ k ∧ k ≤ 100 ∧ ∀ z : Str, Gd k.toNat z → Q (.str z) H
theorem op_mulX {X : Cx} : OpR X (binaryOp .Mult) rMulX := by
  intro pins s σ H x y v u Q I rx ry h
  obtain ⟨k, rfl, rfl, h1, h2, q⟩ := h
  obtain ⟨t, rfl⟩ := rx
  obtain ⟨t', rfl⟩ := ry
  have len1 : ("x" : Str).length = 1 := by decide +kernel
  have gx : Gd 1 ("x" : Str) := Gd.of (by decide +kernel)
  refine P.mul_str (by rw [decide_eq_false (by omega), decide_eq_false (by omega)]; rfl) (fun h3 _ => ?_) (fun h3 _ => ?_) ?_
  · rw [len1]
    have : 1 ≤ (2 ^ 63 - 1) / k := by
      have hk : 0 < k := by omega
      exact (Int.le_ediv_iff_mul_le hk).mpr (by omega)
    omega
  · have h4 : k.toNat ≤ 100 := by omega
    have z : 100000 ≤ sizeLine := by decide
    refine decide_eq_false ?_
    rw [len1]
    omega
  · by_cases c1 : k < 1
    · rw [if_pos c1]
      exact ⟨by decide, ⟨.str Str.empty, H, I.tok _, ⟨_, rfl⟩, q _ ⟨Nat.zero_le _, fun x hx => absurd (show x ∈ ([] : List Nat) from hx) List.not_mem_nil⟩⟩⟩
    · rw [if_neg c1]
      by_cases c2 : k = 1
      · subst c2
        rw [if_pos (by rfl)]
        exact ⟨.str "x", H, I, ⟨_, rfl⟩, q _ gx⟩
      · have e : ((k == 1 || ("x" : Str).length == 0) = true) = False := by
          rw [len1]; simp [c2]
        rw [if_neg (by rw [e]; exact id)]
        refine ⟨?_, ⟨.str _, H, I.tok _, ⟨_, rfl⟩, q _ ⟨?_, ?_⟩⟩⟩
        · show Array.size _ ≤ _
          rw [foldl_len]
          have e1 : ("x" : Str).cps.size = 1 := len1
          rw [e1]
          have := sizeLine_eq
          simp only [List.size_toArray, List.length_nil] at *
          omega
        · show Array.size _ ≤ _
          rw [foldl_len]
          have e1 : ("x" : Str).cps.size = 1 := len1
          rw [e1]
          simp
        · refine foldl_mem _ _ _ (fun x hx => ?_) gx.2
          exact absurd hx (by simp)
end K23
namespace K23
open PySem PySem.Spec PyProof.Rows L2 Fl RT
local macro_rules | `(tactic| ac_rfl) => `(tactic| (
  first
    | with_reducible refine Stp.go ?_
    | with_reducible refine st_var (by with_unfolding_all exact rfl) ?_
    | with_reducible refine st_ixt (by with_unfolding_all assumption) (by with_unfolding_all exact rfl) ?_
    | with_reducible refine st_ixl (by with_unfolding_all assumption) (by with_unfolding_all exact rfl) ?_
    | with_reducible refine st_eq (by with_unfolding_all exact rfl) ?_
    | with_reducible refine st_bl ?_
    | with_reducible refine ifb_t ?_
    | with_reducible refine ifb_f ?_
    | with_reducible refine ifs_no (by decide +kernel) ?_
    | with_reducible refine ifs_yes rfl ?_
    | with_reducible refine ifs_yes lab_rfl ?_
    | with_reducible refine ifs_yes num_rfl ?_
    | with_reducible refine ifn_no (by decide +kernel) ?_
    | with_reducible refine ifn_yes rfl ?_
    | with_reducible refine ifnb_t ?_
    | with_reducible refine ifnb_f ?_
    | with_reducible refine st_ne (by with_unfolding_all exact rfl) ?_
    | with_reducible refine st_ix0 (by with_unfolding_all assumption) ?_
    | with_reducible refine st_sl ?_
    | with_reducible refine st_part ?_
    | with_reducible refine st_nopart ?_
    | with_reducible refine st_mulc (by decide) (by decide) ?_
    | with_reducible refine st_modc (by decide) ?_
    | with_reducible refine Or.inl ⟨_, rfl, ?_⟩
    | with_reducible refine ⟨_, rfl, ?_⟩))
def spNames : Sp := fun vs H Q _ => ∃ (ta : Tap) (m : Nat), vs = [.ref ta.a, natV m] ∧ TpAt H ta ∧ m ≤ 10 ∧ ∀ p (ws : List Nm) H', ws.length = m → (∀ n ∈ ws, nmOk n) → Fr (MT ta) H H' → TpAt H' ta → H p = none → H' p = some (.lst (ws.map V.str)) → Q (.ref p) H'
theorem scNames : FnScope ["_law_tape_here", "_law_many", "_law_signs", "_law_words", "_law_stem", "_law_place", "_law_names_here", "_law_k", "_law_name", "_law_j", "_law_choice"] ["_law_tape_here", "_law_many"] (defScope (top 31)) := ⟨rfl, rfl, rfl, by decide +kernel, rfl, by decide +kernel, by decide +kernel⟩
def words12 : List Nm := ["let", "if", "else", "while", "for", "break", "continue", "return", "try", "finally", "true", "false"]
def signs63 : Nm := "abcdefghijklmnopqrstuvwxyzABCDEFGHIJKLMNOPQRSTUVWXYZ0123456789_"
theorem words_ok : words12.all (goodB 8) = true := by decide +kernel
theorem signs_ok : goodB 63 signs63 = true ∧ signs63.length = 63 := by decide +kernel
structure NmS (H : Hp) (ta : Tap) (wp np : Addr) (ws : List Nm) (H' : Hp) : Prop where
  f : Fr (MT ta) H H'
  t : TpAt H' ta
  w : H' wp = some (.lst (words12.map V.str))
  n : H' np = some (.lst (ws.map V.str))
  wt : wp ≠ ta.a
  nt : np ≠ ta.a
  ns : np ≠ ta.sa
  nw : np ≠ wp
  hn : H np = none
  hw : H wp = none
theorem NmS.draw {H H1 H2 : Hp} {ta : Tap} {wp np : Addr} {ws : List Nm} (S : NmS H ta wp np ws H1) (f : Fr (MT ta) H1 H2) (t : TpAt H2 ta) : NmS H ta wp np ws H2 :=
  ⟨S.f.trans f, t, f _ _ S.w S.wt, f _ _ S.n S.nt, S.wt, S.nt, S.ns, S.nw, S.hn, S.hw⟩
theorem NmS.same {H H1 H2 : Hp} {ta : Tap} {wp np : Addr} {ws : List Nm} (S : NmS H ta wp np ws H1) (s : Same H1 H2) : NmS H ta wp np ws H2 :=
  ⟨S.f.trans (Fr.of_same s), S.t.same s, s _ _ S.w, s _ _ S.n, S.wt, S.nt, S.ns, S.nw, S.hn, S.hw⟩
theorem none_fr {M : Addr → Prop} {H H' : Hp} {b : Addr} (f : Fr M H H') (n : ¬ M b) (h : H' b = none) : H b = none := by
  cases e : H b with
  | none => rfl
  | some u => have := f b u e n; rw [h] at this; cases this
theorem Gd.nil : Gd 0 ("" : Str) := Gd.of (by decide +kernel)
def NSt (H : Hp) (ta : Tap) (wp np : Addr) (m pl k : Nat) (stem : Nm) (ws : List Nm) (c : Nat) (σ' : L2.St) (H' : Hp) : Prop := ∃ (nm : Nm) (o9 o10 : Option V), σ' = [some (.ref ta.a), some (natV m), some (.str signs63), some (.ref wp), some (.str stem), some (natV pl), some (.ref np), some (natV k), some (.str nm), o9, o10] ∧ Gd c nm ∧ NmS H ta wp np ws H'
def NSt2 (H : Hp) (ta : Tap) (wp np : Addr) (m pl k : Nat) (stem : Nm) (ws : List Nm) (c : Nat) (σ' : L2.St) (H' : Hp) : Prop := ∃ (nm : Nm) (o9 : Option V) (ch : Nat), σ' = [some (.ref ta.a), some (natV m), some (.str signs63), some (.ref wp), some (.str stem), some (natV pl), some (.ref np), some (natV k), some (.str nm), o9, some (natV ch)] ∧ Gd c nm ∧ NmS H ta wp np ws H'
section
variable {P : Program} {w : World} {K : PySem.W.Frag} {mg : Str → Option Value} {base : Heap} {fa : Nat → Addr} {fd : Nat → FuncData}
theorem ok_names (ml : BN mg) (D : DD K mg fa fd) : FnOk P w K mg base CX0 2 (fa 31) (fd 31) ["_law_tape_here", "_law_many"] spNames := by
  have G_law_draw := ok_draw (P := P) (w := w) (base := base) ml D.law_draw
  refine D.law_names.F.ok scNames (fun vs H Q E h => ?_) (fun cdv A outer s H vs Q E hr h => ?_)
  · obtain ⟨ta, m, rfl, _⟩ := h
    rfl
  obtain ⟨ta, m, rfl, tp, hm, q⟩ := h
  refine ⟨_, (pss_cons (ps_set (i := 2) scNames.nd rfl (Or.inl rfl) pe_str)
      (pss_cons (ps_set (i := 3) scNames.nd rfl (Or.inl rfl) (pe_lst (pa_cons pe_str (pa_cons pe_str (pa_cons pe_str (pa_cons pe_str (pa_cons pe_str (pa_cons pe_str (pa_cons pe_str (pa_cons pe_str (pa_cons pe_str (pa_cons pe_str (pa_cons pe_str (pa_cons pe_str pa_nil))))))))))))))
      (pss_cons (ps_set (i := 4) scNames.nd rfl (Or.inl rfl) (pe_ix ix_list (pe_lst (pa_cons pe_str (pa_cons pe_str (pa_cons pe_str (pa_cons pe_str pa_nil))))) (pe_cl D.law_draw G_law_draw (hr.mono (by omega)) (pa_cons (pv 0) (pa_cons pe_int pa_nil))) (fun _ _ => rfl)))
      (pss_cons (ps_set (i := 5) scNames.nd rfl (Or.inl rfl) (pe_cl D.law_draw G_law_draw (hr.mono (by omega)) (pa_cons (pv 0) (pa_cons (pe_op op_add (pe_callB call_len_str (by rfl) ml.len PySem.boot_len (pa_cons (pv 4) pa_nil)) pe_int) pa_nil))))
      (pss_cons (ps_set (i := 6) scNames.nd rfl (Or.inl rfl) (pe_lst pa_nil))
      (pss_cons (ps_for PassesOwn.never rfl (pi_range1 rfl ml.range (pa_cons (pv 1) pa_nil)) (pg_name (i := 7) scNames.nd rfl (Or.inl rfl)) (pss_cons (ps_set (i := 8) scNames.nd rfl (Or.inl rfl) (pe_op op_add_str (pe_op op_add_str (pe_slice sl_str (pv 4) po_none (po_some (pv 5))) (pe_ix ix_str (pv 2) (pe_cl D.law_draw G_law_draw (hr.mono (by omega)) (pa_cons (pv 0) (pa_cons pe_int pa_nil))) (fun _ _ => rfl))) (pe_slice sl_str (pv 4) (po_some (pv 5)) po_none)))
      (pss_cons (ps_for PassesOwn.never rfl (pi_range1 rfl ml.range (pa_cons (pe_ix ix_list (pe_lst (pa_cons pe_int (pa_cons pe_int (pa_cons pe_int (pa_cons pe_int (pa_cons pe_int (pa_cons pe_int pa_nil))))))) (pe_cl D.law_draw G_law_draw (hr.mono (by omega)) (pa_cons (pv 0) (pa_cons pe_int pa_nil))) (fun _ _ => rfl)) pa_nil)) (pg_name (i := 9) scNames.nd rfl (Or.inl rfl)) (pss_one (ps_set (i := 8) scNames.nd rfl (Or.inl rfl) (pe_op op_add_str (pv 8) (pe_ix ix_str (pv 2) (pe_cl D.law_draw G_law_draw (hr.mono (by omega)) (pa_cons (pv 0) (pa_cons pe_int pa_nil))) (fun _ _ => rfl))))))
      (pss_cons (ps_set (i := 10) scNames.nd rfl (Or.inl rfl) (pe_cl D.law_draw G_law_draw (hr.mono (by omega)) (pa_cons (pv 0) (pa_cons pe_int pa_nil))))
      (pss_cons (ps_if (pt_cmpR op_eq (pv 10) pe_int (nomark _)) (pss_one (ps_set (i := 8) scNames.nd rfl (Or.inl rfl) (pe_op op_add_str (pv 8) (pe_op op_mulX pe_str (pe_op op_sub pe_int (pe_callB call_len_str (by rfl) ml.len PySem.boot_len (pa_cons (pv 8) pa_nil))))))) pss_nil)
      (pss_cons (ps_if (pt_cmpR op_eq (pv 10) pe_int (nomark _)) (pss_one (ps_set (i := 8) scNames.nd rfl (Or.inl rfl) (pe_op op_add_str (pe_ix ix_list (pv 3) (pe_cl D.law_draw G_law_draw (hr.mono (by omega)) (pa_cons (pv 0) (pa_cons pe_int pa_nil))) (fun _ _ => rfl)) (pe_slice sl_str (pv 8) po_none (po_some pe_int))))) pss_nil)
      (pss_cons (ps_if (pt_cmpR op_eq (pv 10) pe_int (nomark _)) (pss_one (ps_set (i := 8) scNames.nd rfl (Or.inl rfl) (pe_slice sl_str (pe_ix ix_list (pv 3) (pe_cl D.law_draw G_law_draw (hr.mono (by omega)) (pa_cons (pv 0) (pa_cons pe_int pa_nil))) (fun _ _ => rfl)) po_none (po_some (pe_un un_neg pe_int))))) pss_nil)
      (pss_cons (ps_if (pw_or (pt_cmpR op_in_seq (pv 8) (pv 3) (by with_unfolding_all rfl)) (pw_or1 (pt_cmpR op_in_seq (pv 8) (pv 6) (by with_unfolding_all rfl)))).pt (pss_one (ps_set (i := 8) scNames.nd rfl (Or.inl rfl) (pe_op op_add_str pe_str (pe_callTy call_str_int (by rfl) ml.str (by decide +kernel) (pa_cons (pv 7) pa_nil))))) pss_nil)
      (pss_one (ps_expr (pe_bm PySem.F.plainAttrs_list PySem.F.slot_list_append PySem.F.type_list_append mt_append (pv 6) (pa_cons (pv 8) pa_nil))))))))))))
      (pss_one (ps_ret (pv 6))))))))), ?_⟩
  dsimp only [cxOf, Cx.nox]
  refine seq_cut4 (fun σ' H' => ∃ wp stem pl, σ' = [some (.ref ta.a), some (natV m), some (.str signs63), some (.ref wp), some (.str stem), some (natV pl), none, none, none, none, none] ∧ Gd 10 stem ∧ Fr (MT ta) H H' ∧ TpAt H' ta ∧ H wp = none ∧ H' wp = some (.lst (words12.map V.str))) ?_ ?_
  rotate_left
  · intro N hN
    repeat ac_rfl
    refine ⟨smN rfl, fun wp hwp => ?_⟩
    have s1 := same_new hwp (.lst (words12.map V.str))
    have e1 : (upd H wp (.lst (words12.map V.str))) wp = some (.lst (words12.map V.str)) := upd_same
    show gName 3 (V.ref wp) _ (upd H wp (.lst (words12.map V.str))) _
    have t1 := tp.same s1
    generalize upd H wp (.lst (words12.map V.str)) = H1 at s1 e1 t1
    have nwt := tp.ne hwp
    repeat ac_rfl
    refine ⟨smN rfl, fun sp hsp => ?_⟩
    have s2 := same_new hsp (.lst ((["", "", "sharedStem", "while_x"] : List Nm).map V.str))
    have e2 : (upd H1 sp (.lst ((["", "", "sharedStem", "while_x"] : List Nm).map V.str))) sp = some (.lst ((["", "", "sharedStem", "while_x"] : List Nm).map V.str)) := upd_same
    have t2 := t1.same s2
    have nst := t1.ne hsp
    show tCall spDraw [] E0 _ _ (upd H1 sp (.lst ((["", "", "sharedStem", "while_x"] : List Nm).map V.str))) _
    generalize upd H1 sp (.lst ((["", "", "sharedStem", "while_x"] : List Nm).map V.str)) = H2 at s2 e2 t2
    repeat ac_rfl
    refine ⟨ta, _, rfl, t2, by decide, fun r H3 hr3 f3 t3 => ?_⟩
    obtain ⟨stem, hat, hst⟩ := pickS (ws := ["", "", "sharedStem", "while_x"]) (r := r) (c := 10) (by show r < 4; omega) (by decide +kernel)
    refine st_ixl (.inl (.inl (f3 _ _ e2 nst))) hat ?_
    repeat ac_rfl
    have hsl := hst.1
    refine ⟨small3 (by omega), ?_⟩
    repeat ac_rfl
    refine ⟨ta, _, rfl, t3, by omega, fun r4 H4 hr4 f4 t4 => ?_⟩
    repeat ac_rfl
    exact hN _ _ ⟨wp, stem, r4, rfl, hst, (Fr.of_same (s1.trans s2)).trans (f3.trans f4), t4, hwp, f4 _ _ (f3 _ _ (s2 _ _ e1) nwt) nwt⟩
  rintro _ H1 ⟨wp, stem, pl, rfl, hst, f1, t1, hwp, ew⟩
  have hsl := hst.1
  have nwt := tp.ne hwp
  repeat ac_rfl
  refine ⟨small3 (Nat.zero_le _), fun np hnp => ?_⟩
  have s2 := same_new hnp (.lst [])
  have S2 : NmS H ta wp np [] (upd H1 np (.lst [])) := ⟨f1.trans (Fr.of_same s2), t1.same s2, s2 _ _ ew, upd_same, nwt, t1.ne hnp, t1.ne2 hnp, (fun z => by rw [z, ew] at hnp; cases hnp), none_fr f1 (t1.ne hnp) hnp, hwp⟩
  generalize upd H1 np (.lst []) = H2 at s2 S2
  repeat ac_rfl
  refine ⟨_, rfl, _, rfl, by omega, by omega, for_range (n := m) (fun k σ H' => ∃ (ws : List Nm) (o7 o8 o9 o10 : Option V), σ = [some (.ref ta.a), some (natV m), some (.str signs63), some (.ref wp), some (.str stem), some (natV pl), some (.ref np), o7, o8, o9, o10] ∧ ws.length = k ∧ (∀ n ∈ ws, nmOk n) ∧ NmS H ta wp np ws H') ⟨[], none, none, none, none, rfl, rfl, fun n h => absurd h List.not_mem_nil, S2⟩ ?_ ?_⟩
  · clear S2 s2 ew t1 f1 hnp H2 H1
    rintro k σ H2 hk ⟨ws, o7, o8, o9, o10, rfl, hwl, hwo, S⟩
    rw [Int.zero_add]
    refine st_name ?_
    refine seq_cut (NSt H ta wp np m pl k stem ws 21) ?_ ?_
    rotate_left
    · intro N hN
      repeat ac_rfl
      refine ⟨_, rfl, small3 (by omega), ?_⟩
      repeat ac_rfl
      refine ⟨ta, _, rfl, S.t, by decide, fun r H3 hr3 f3 t3 => ?_⟩
      obtain ⟨ch, hat, hch⟩ := pickC (z := signs63) (r := r) (by rw [signs_ok.2]; omega) signs_ok.1
      refine ⟨signs63, _, ch, rfl, rfl, by rw [signs_ok.2]; decide, hat, ?_⟩
      have g1 := (hst.cut (lo := none) (hi := some (pl : Int))).app (Gd.sign hch)
      have g2 := g1.app (hst.cut (lo := some (pl : Int)) (hi := none))
      have l1 := g1.1
      have l2 := (hst.cut (lo := none) (hi := some (pl : Int))).1
      have l3 := (hst.cut (lo := some (pl : Int)) (hi := none)).1
      refine ⟨_, _, rfl, rfl, small3 (by show _ + 1 ≤ _; omega), ?_⟩
      repeat ac_rfl
      refine ⟨_, rfl, small3 (by omega), ?_⟩
      refine ⟨_, _, rfl, rfl, small3 (by omega), ?_⟩
      repeat ac_rfl
      exact hN _ _ ⟨_, _, _, rfl, g2, S.draw f3 t3⟩
    clear S H2
    rintro _ H2 ⟨nm, p9, p10, rfl, hg, S⟩
    refine seq_cut (NSt H ta wp np m pl k stem ws 27) ?_ ?_
    rotate_left
    · intro N hN
      refine ⟨smN rfl, fun lp hlp => ?_⟩
      have s3 := same_new hlp (.lst (([0, 0, 0, 1, 2, 6] : List Nat).map natV))
      have e3 : (upd H2 lp (.lst (([0, 0, 0, 1, 2, 6] : List Nat).map natV))) lp = some (.lst (([0, 0, 0, 1, 2, 6] : List Nat).map natV)) := upd_same
      have S3 := S.same s3
      have nlt := S.t.ne hlp
      show tCall spDraw [] E0 _ _ (upd H2 lp (.lst (([0, 0, 0, 1, 2, 6] : List Nat).map natV))) _
      generalize upd H2 lp (.lst (([0, 0, 0, 1, 2, 6] : List Nat).map natV)) = H3 at s3 e3 S3
      repeat ac_rfl
      refine ⟨ta, _, rfl, S3.t, by decide, fun r H4 hr4 f4 t4 => ?_⟩
      obtain ⟨z, hat, hz⟩ := pickI (ws := [0, 0, 0, 1, 2, 6]) (r := r) (c := 6) (by show r < 6; omega) (by decide)
      refine st_ixl (.inl (.inl (f4 _ _ e3 nlt))) hat ?_
      repeat ac_rfl
      refine ⟨by omega, by omega, for_range (n := z) (fun j σ H' => NSt H ta wp np m pl k stem ws (21 + j) σ H') ⟨nm, p9, p10, rfl, hg, S3.draw f4 t4⟩ ?_ fun σ H' ⟨nm', p9, p10, e, hg', S'⟩ => hN _ _ ⟨nm', p9, p10, e, hg'.mono (by omega), S'⟩⟩
      rintro j _ H5 hj ⟨nm', p9, p10, rfl, hg', S'⟩
      rw [Int.zero_add]
      repeat ac_rfl
      refine ⟨ta, _, rfl, S'.t, by decide, fun r5 H6 hr6 f6 t6 => ?_⟩
      obtain ⟨ch, hat, hch⟩ := pickC (z := signs63) (r := r5) (by rw [signs_ok.2]; omega) signs_ok.1
      refine ⟨signs63, _, ch, rfl, rfl, by rw [signs_ok.2]; decide, hat, ?_⟩
      have l1 := hg'.1
      refine ⟨_, _, rfl, rfl, small3 (by show _ + 1 ≤ _; omega), ?_⟩
      repeat ac_rfl
      exact ⟨_, _, _, rfl, hg'.app (Gd.sign hch), S'.draw f6 t6⟩
    clear S hg H2
    rintro _ H2 ⟨nm2, p9, p10, rfl, hg, S⟩
    refine seq_cut (NSt2 H ta wp np m pl k stem ws 27) ?_ ?_
    rotate_left
    · intro N hN
      repeat ac_rfl
      refine ⟨ta, _, rfl, S.t, by decide, fun r H3 hr3 f3 t3 => ?_⟩
      repeat ac_rfl
      exact hN _ _ ⟨_, _, _, rfl, hg, S.draw f3 t3⟩
    clear S hg H2
    rintro _ H2 ⟨nm3, p9, ch, rfl, hg, S⟩
    refine seq_cut (NSt2 H ta wp np m pl k stem ws 30) ?_ ?_
    rotate_left
    · intro N hN
      have l1 := hg.1
      repeat ac_rfl
      refine ifb (fun hz => ?_) (fun hz => ?_)
      · repeat ac_rfl
        refine ⟨small3 (by omega), ?_⟩
        repeat ac_rfl
        refine ⟨_, rfl, rfl, by omega, by omega, fun z hzz => ?_⟩
        have l2 := hzz.1
        refine ⟨_, _, rfl, rfl, small3 (by omega), ?_⟩
        repeat ac_rfl
        exact hN _ _ ⟨_, _, _, rfl, ⟨by rw [str_app_len]; omega, (hg.app hzz).2⟩, S⟩
      · repeat ac_rfl
        exact hN _ _ ⟨_, _, _, rfl, hg.mono (by decide), S⟩
    clear S hg H2
    rintro _ H2 ⟨nm4, p9, ch, rfl, hg, S⟩
    refine seq_cut (NSt2 H ta wp np m pl k stem ws 38) ?_ ?_
    rotate_left
    · intro N hN
      have l1 := hg.1
      repeat ac_rfl
      refine ifb (fun hz => ?_) (fun hz => ?_)
      · repeat ac_rfl
        refine ⟨ta, _, rfl, S.t, by decide, fun r H3 hr3 f3 t3 => ?_⟩
        have S3 := S.draw f3 t3
        obtain ⟨z, hat, hzg⟩ := pickS (ws := words12) (r := r) (c := 8) (by show r < 12; omega) words_ok
        refine st_ixl (.inl (.inl S3.w)) hat ?_
        repeat ac_rfl
        refine ⟨_, rfl, small3 (by omega), ?_⟩
        have l2 := hzg.1
        have l3 := (hg.cut (lo := none) (hi := some (1 : Int))).1
        refine ⟨_, _, rfl, rfl, small3 (by omega), ?_⟩
        repeat ac_rfl
        exact hN _ _ ⟨_, _, _, rfl, hzg.app hg.cut, S3⟩
      · repeat ac_rfl
        exact hN _ _ ⟨_, _, _, rfl, hg.mono (by decide), S⟩
    clear S hg H2
    rintro _ H2 ⟨nm5, p9, ch, rfl, hg, S⟩
    refine seq_cut (NSt2 H ta wp np m pl k stem ws 38) ?_ ?_
    rotate_left
    · intro N hN
      have l1 := hg.1
      repeat ac_rfl
      refine ifb (fun hz => ?_) (fun hz => ?_)
      · repeat ac_rfl
        refine ⟨ta, _, rfl, S.t, by decide, fun r H3 hr3 f3 t3 => ?_⟩
        have S3 := S.draw f3 t3
        obtain ⟨z, hat, hzg⟩ := pickS (ws := words12) (r := r) (c := 8) (by show r < 12; omega) words_ok
        refine st_ixl (.inl (.inl S3.w)) hat ?_
        repeat ac_rfl
        have l2 := hzg.1
        refine ⟨_, rfl, ?_⟩
        repeat ac_rfl
        refine ⟨_, rfl, small3 (by omega), ?_⟩
        repeat ac_rfl
        exact hN _ _ ⟨_, _, _, rfl, hzg.cut.mono (by decide), S3⟩
      · repeat ac_rfl
        exact hN _ _ ⟨_, _, _, rfl, hg, S⟩
    clear S hg H2
    rintro _ H2 ⟨nm6, p9, ch, rfl, hg, S⟩
    refine seq_cut (NSt2 H ta wp np m pl k stem ws 38) ?_ ?_
    rotate_left
    · intro N hN
      have gone : Gd 38 (("one_of_two_equal_names_" : Str) ++ Str.ofString (toString (k : Int))) := ((Gd.of (c := 23) (by decide +kernel)).app (numGd (k := k) (by omega))).mono (by decide)
      have lone := gone.1
      rw [str_app_len] at lone
      have hnum := num_small (k := (k : Int)) (by omega) (by omega)
      repeat ac_rfl
      refine ⟨wp, _, rfl, .inl (.inl (.inl S.w)), rfl, all_flat _, ?_⟩
      refine ⟨_, rfl, ?_⟩
      refine ifb (fun hz => ?_) (fun hz => ?_)
      · repeat ac_rfl
        refine ⟨hnum.1, ?_⟩
        refine ⟨_, _, rfl, rfl, small3 (by omega), ?_⟩
        exact hN _ _ ⟨_, _, _, rfl, gone, S⟩
      · repeat ac_rfl
        refine ⟨np, _, rfl, .inl (.inl (.inl S.n)), rfl, all_flat _, ?_⟩
        refine ⟨_, rfl, ?_⟩
        refine ifb (fun hz => ?_) (fun hz => ?_)
        · repeat ac_rfl
          refine ⟨hnum.1, ?_⟩
          refine ⟨_, _, rfl, rfl, small3 (by omega), ?_⟩
          exact hN _ _ ⟨_, _, _, rfl, gone, S⟩
        · repeat ac_rfl
          exact hN _ _ ⟨_, _, _, rfl, hg, S⟩
    clear S hg H2
    rintro _ H2 ⟨nm7, p9, ch, rfl, hg, S⟩
    repeat ac_rfl
    refine ⟨.inl ⟨rfl, _, .inl (.inl S.n)⟩, ?_⟩
    repeat ac_rfl
    refine ⟨np, _, _, rfl, rfl, S.n, small_lt (by rw [List.length_map]; omega), ?_⟩
    have hgn := hg.nm (by decide)
    have nm1 : ¬ MT ta np := S.nt
    refine ⟨ws ++ [nm7], _, _, _, _, rfl, by rw [List.length_append, List.length_singleton, hwl], fun n hn => ?_, ⟨S.f.upd (.inr S.hn), ?_, ?_, ?_, S.wt, S.nt, S.ns, S.nw, S.hn, S.hw⟩⟩
    · rcases List.mem_append.mp hn with z | z
      · exact hwo n z
      · rw [List.mem_singleton.mp z]; exact hgn
    · exact S.t.put S.nt S.ns
    · rw [upd_ne (Ne.symm S.nw)]; exact S.w
    · rw [upd_same, List.map_append]; rfl
  · rintro σ H3 ⟨ws, o7, o8, o9, o10, rfl, hwl, hwo, S⟩
    repeat ac_rfl
    exact q np ws H3 hwl hwo S.f S.t S.hn S.n
end
end K23
namespace K23
open PySem PySem.Spec PyProof.Rows L2 Fl RT
local macro_rules | `(tactic| ac_rfl) => `(tactic| (
  first
    | with_reducible refine Stp.go ?_
    | with_reducible refine st_var (by with_unfolding_all exact rfl) ?_
    | with_reducible refine st_ixt (by with_unfolding_all assumption) (by with_unfolding_all exact rfl) ?_
    | with_reducible refine st_ixl (by with_unfolding_all assumption) (by with_unfolding_all exact rfl) ?_
    | with_reducible refine st_eq (by with_unfolding_all exact rfl) ?_
    | with_reducible refine st_bl ?_
    | with_reducible refine ifb_t ?_
    | with_reducible refine ifb_f ?_
    | with_reducible refine ifs_no (by decide +kernel) ?_
    | with_reducible refine ifs_yes rfl ?_
    | with_reducible refine ifs_yes lab_rfl ?_
    | with_reducible refine ifs_yes num_rfl ?_
    | with_reducible refine ifn_no (by decide +kernel) ?_
    | with_reducible refine ifn_yes rfl ?_
    | with_reducible refine ifnb_t ?_
    | with_reducible refine ifnb_f ?_
    | with_reducible refine st_ne (by with_unfolding_all exact rfl) ?_
    | with_reducible refine st_ix0 (by with_unfolding_all assumption) ?_
    | with_reducible refine st_sl ?_
    | with_reducible refine st_part ?_
    | with_reducible refine st_nopart ?_
    | with_reducible refine st_mulc (by decide) (by decide) ?_
    | with_reducible refine st_modc (by decide) ?_
    | with_reducible refine Or.inl ⟨_, rfl, ?_⟩
    | with_reducible refine ⟨_, rfl, ?_⟩))
structure Wld where
  a : Addr
  fr : Addr
  ca : Addr
  la : Addr
  fa : Addr
  cs : List Nm
  ls : List Nm
  fs : List Nm
/-- some names -/
def NmL (ws : List Nm) : Prop := 0 < ws.length ∧ ws.length ≤ 10 ∧ ∀ n ∈ ws, nmOk n
structure DAt (H : Hp) (T : Tap) (W : Wld) (f0 f3 : Nat) : Prop where
  t : TpAt H T
  w : H W.a = some (.lst [.ref W.fr, .ref W.ca, .ref W.la, .ref W.fa])
  fr : ∃ f1 f2 f4 f5 : Int, H W.fr = some (.lst [natV f0, .int f1, .int f2, natV f3, .int f4, .int f5])
  c : H W.ca = some (.lst (W.cs.map V.str))
  l : H W.la = some (.lst (W.ls.map V.str))
  f : H W.fa = some (.lst (W.fs.map V.str))
  oc : NmL W.cs
  ol : NmL W.ls
  of : NmL W.fs
  n : W.fr ≠ T.sa
def MD (T : Tap) (W : Wld) : Addr → Prop := fun b => b = T.a ∨ b = W.fr
theorem MT.md {T : Tap} {W : Wld} {H H' : Hp} (f : Fr (MT T) H H') : Fr (MD T W) H H' := f.weak fun _ _ _ z => .inl z
theorem nml_hd {ws : List Nm} (h : NmL ws) : ∃ n r, ws = n :: r := by
  cases ws with
  | nil => exact absurd h.1 (Nat.lt_irrefl _)
  | cons n r => exact ⟨n, r, rfl⟩
section
variable {H H' : Hp} {T : Tap} {W : Wld} {f0 f3 : Nat}
theorem DAt.nw (D : DAt H T W f0 f3) : W.a ≠ T.a ∧ W.fr ≠ T.a ∧ W.ca ≠ T.a ∧ W.la ≠ T.a ∧ W.fa ≠ T.a := by
  obtain ⟨pl, big, tot, h1, _⟩ := D.t
  obtain ⟨f1, f2, f4, f5, h2⟩ := D.fr
  obtain ⟨n1, r1, e1⟩ := nml_hd D.oc
  obtain ⟨n2, r2, e2⟩ := nml_hd D.ol
  obtain ⟨n3, r3, e3⟩ := nml_hd D.of
  have hc := D.c
  have hl := D.l
  have hf := D.f
  rw [e1] at hc
  rw [e2] at hl
  rw [e3] at hf
  refine ⟨fun z => ?_, fun z => ?_, fun z => ?_, fun z => ?_, fun z => ?_⟩
  · have := D.w; rw [z, h1] at this; simp at this
  · rw [z, h1] at h2; cases h2
  · rw [z, h1] at hc; cases hc
  · rw [z, h1] at hl; cases hl
  · rw [z, h1] at hf; cases hf
theorem DAt.nf (D : DAt H T W f0 f3) : W.a ≠ W.fr ∧ T.a ≠ W.fr ∧ W.ca ≠ W.fr ∧ W.la ≠ W.fr ∧ W.fa ≠ W.fr := by
  obtain ⟨pl, big, tot, h1, _⟩ := D.t
  obtain ⟨f1, f2, f4, f5, h2⟩ := D.fr
  obtain ⟨n1, r1, e1⟩ := nml_hd D.oc
  obtain ⟨n2, r2, e2⟩ := nml_hd D.ol
  obtain ⟨n3, r3, e3⟩ := nml_hd D.of
  have hc := D.c
  have hl := D.l
  have hf := D.f
  rw [e1] at hc
  rw [e2] at hl
  rw [e3] at hf
  refine ⟨fun z => ?_, fun z => ?_, fun z => ?_, fun z => ?_, fun z => ?_⟩
  · have := D.w; rw [z, h2] at this; cases this
  · rw [z, h2] at h1; cases h1
  · rw [z, h2] at hc; cases hc
  · rw [z, h2] at hl; cases hl
  · rw [z, h2] at hf; cases hf
theorem DAt.draw (D : DAt H T W f0 f3) (f : Fr (MT T) H H') (t : TpAt H' T) : DAt H' T W f0 f3 := by
  obtain ⟨n1, n2, n3, n4, n5⟩ := D.nw
  obtain ⟨f1, f2, f4, f5, h2⟩ := D.fr
  exact ⟨t, f _ _ D.w n1, ⟨f1, f2, f4, f5, f _ _ h2 n2⟩, f _ _ D.c n3, f _ _ D.l n4, f _ _ D.f n5, D.oc, D.ol, D.of, D.n⟩
theorem DAt.same (D : DAt H T W f0 f3) (s : Same H H') : DAt H' T W f0 f3 := by
  obtain ⟨f1, f2, f4, f5, h2⟩ := D.fr
  exact ⟨D.t.same s, s _ _ D.w, ⟨f1, f2, f4, f5, s _ _ h2⟩, s _ _ D.c, s _ _ D.l, s _ _ D.f, D.oc, D.ol, D.of, D.n⟩
theorem DAt.put (D : DAt H T W f0 f3) (g0 g3 : Nat) (f1 f2 f4 f5 : Int) : DAt (upd H W.fr (.lst [natV g0, .int f1, .int f2, natV g3, .int f4, .int f5])) T W g0 g3 := by
  obtain ⟨n1, n2, n3, n4, n5⟩ := D.nf
  refine ⟨D.t.put (Ne.symm n2) D.n, by rw [upd_ne n1]; exact D.w, ⟨f1, f2, f4, f5, upd_same⟩, by rw [upd_ne n3]; exact D.c, by rw [upd_ne n4]; exact D.l, by rw [upd_ne n5]; exact D.f, D.oc, D.ol, D.of, D.n⟩
/-- a list of one's own is written -/
theorem DAt.oth (D : DAt H T W f0 f3) {b : Addr} {o : HO} (h : b ∉ [T.a, T.sa, W.a, W.fr, W.ca, W.la, W.fa]) : DAt (upd H b o) T W f0 f3 := by
  simp only [List.mem_cons, List.not_mem_nil, or_false, not_or] at h
  obtain ⟨h1, h2, h3, h4, h5, h6, h7⟩ := h
  obtain ⟨f1, f2, f4, f5, e⟩ := D.fr
  exact ⟨D.t.put h1 h2, by rw [upd_ne (Ne.symm h3)]; exact D.w, ⟨f1, f2, f4, f5, by rw [upd_ne (Ne.symm h4)]; exact e⟩, by rw [upd_ne (Ne.symm h5)]; exact D.c, by rw [upd_ne (Ne.symm h6)]; exact D.l, by rw [upd_ne (Ne.symm h7)]; exact D.f, D.oc, D.ol, D.of, D.n⟩
theorem DAt.fresh (D : DAt H T W f0 f3) {b : Addr} (h : H b = none) : b ∉ [T.a, T.sa, W.a, W.fr, W.ca, W.la, W.fa] := by
  obtain ⟨pl, big, tot, h1, h1', _⟩ := D.t
  obtain ⟨f1, f2, f4, f5, h2⟩ := D.fr
  simp only [List.mem_cons, List.not_mem_nil, or_false, not_or]
  refine ⟨fun z => ?_, fun z => ?_, fun z => ?_, fun z => ?_, fun z => ?_, fun z => ?_, fun z => ?_⟩
  · rw [z, h1] at h; cases h
  · rw [z, h1'] at h; cases h
  · rw [z, D.w] at h; cases h
  · rw [z, h2] at h; cases h
  · rw [z, D.c] at h; cases h
  · rw [z, D.l] at h; cases h
  · rw [z, D.f] at h; cases h
end
theorem cut_to (ws : List Nm) (k : Nat) : cutV (ws.map V.str) none (some (k : Int)) = (ws.take k).map V.str := by
  unfold cutV
  rw [HT.sIx_none, HT.sIx_nat, List.length_map, List.drop_zero, Nat.sub_zero, List.map_take]
  rcases Nat.le_total k ws.length with h | h
  · rw [Nat.min_eq_left h]
  · rw [Nat.min_eq_right h, List.take_of_length_le (by rw [List.length_map]; exact Nat.le_refl _), List.take_of_length_le (by rw [List.length_map]; exact h)]
theorem cut_from (ws : List Nm) (k : Nat) : cutV (ws.map V.str) (some (k : Int)) none = (ws.drop k).map V.str := by
  unfold cutV
  rw [HT.sIx_none, HT.sIx_nat, List.length_map, List.map_drop]
  rcases Nat.le_total k ws.length with h | h
  · rw [Nat.min_eq_left h]
    exact List.take_of_length_le (by rw [List.length_drop, List.length_map]; exact Nat.le_refl _)
  · rw [Nat.min_eq_right h, List.drop_of_length_le (by rw [List.length_map]; exact Nat.le_refl _), List.drop_of_length_le (by rw [List.length_map]; exact h)]
    exact List.take_nil
def tInts : List Nat → TA
  | [] => tNil
  | k :: r => tCons (tC (natV k)) (tInts r)
def tRows : List (List Nat) → TA
  | [] => tNil
  | x :: r => tCons (tLst (tInts x)) (tRows r)
theorem st_ints : ∀ (x : List Nat) (σ : L2.St) (H : Hp) (Q : List V → Hp → Prop), Q (x.map natV) H → tInts x σ H Q
  | [], _, _, _, h => h
  | k :: r, σ, H, Q, h => st_cons (st_c (st_ints r σ H _ h))
theorem st_rows : ∀ (rows : List (List Nat)) (σ : L2.St) (H : Hp) (Q : List V → Hp → Prop), (∀ x ∈ rows, x.length ≤ 100) → (∀ (as : List Addr) H', Same H H' → as.length = rows.length → (∀ (i : Nat) (a : Addr) (x : List Nat), as[i]? = some a → rows[i]? = some x → H' a = some (.lst (x.map natV))) → Q (as.map V.ref) H') → tRows rows σ H Q
  | [], _, H, Q, _, h => h [] H (fun _ _ z => z) rfl fun i a x ha _ => by simp at ha
  | x :: r, σ, H, Q, hx, h => by
    refine st_cons ?_
    refine st_lst ?_
    refine st_ints x σ H _ ⟨small3 (by rw [List.length_map]; have := hx x List.mem_cons_self; omega), fun p hp => ?_⟩
    have s1 := same_new hp (.lst (x.map natV))
    refine st_rows r σ _ _ (fun y hy => hx y (List.mem_cons_of_mem _ hy)) fun as H' s2 hl ha => ?_
    refine h (p :: as) H' (s1.trans s2) (by rw [List.length_cons, hl]; rfl) fun i a y h1 h2 => ?_
    cases i with
    | zero =>
      cases (show some p = some a from h1)
      cases (show some x = some y from h2)
      exact s2 _ _ upd_same
    | succ i => exact ha i a y h1 h2
def rows12 : List (List Nat) := [[14, 12, 5, 0, 0], [12, 9, 4, 1, 0], [14, 8, 4, 2, 0], [12, 4, 3, 3, 0], [12, 2, 3, 4, 0], [12, 5, 5, 0, 2], [12, 3, 3, 1, 2], [12, 3, 2, 2, 2], [4, 3, 1, 1, 1], [3, 2, 1, 0, 0], [9, 6, 3, 0, 0], [0, 0, 0, 0, 0]]
def rowOk : List Nat → Bool
  | [a, _, _, d, _] => decide (a ≤ 14) && decide (d ≤ 4)
  | _ => false
theorem rows_ok : rows12.all rowOk = true := by decide
theorem row_of {x : List Nat} (h : rowOk x = true) : ∃ a b c d e, x = [a, b, c, d, e] ∧ a ≤ 14 ∧ d ≤ 4 := by
  match x, h with
  | [a, b, c, d, e], h =>
    have h' : (decide (a ≤ 14) && decide (d ≤ 4)) = true := h
    rw [Bool.and_eq_true, decide_eq_true_iff, decide_eq_true_iff] at h'
    exact ⟨a, b, c, d, e, rfl, h'.1, h'.2⟩
def spWorld : Sp := fun vs H Q _ => ∃ (T : Tap), vs = [.ref T.a] ∧ TpAt H T ∧ ∀ (W : Wld) (f0 f3 : Nat) H', f0 ≤ 14 → f3 ≤ 4 → Fr (MT T) H H' → DAt H' T W f0 f3 → H W.fr = none → Q (.ref W.a) H'
theorem scWorld : FnScope ["_law_tape_here", "_law_free", "_law_names_here", "_law_calls", "_law_labels", "_law_flags"] ["_law_tape_here"] (defScope (top 32)) := ⟨rfl, rfl, rfl, by decide +kernel, rfl, by decide +kernel, by decide +kernel⟩
section
variable {P : Program} {w : World} {K : PySem.W.Frag} {mg : Str → Option Value} {base : Heap} {fa : Nat → Addr} {fd : Nat → FuncData}
theorem ok_world (ml : BN mg) (D : DD K mg fa fd) : FnOk P w K mg base CX0 3 (fa 32) (fd 32) ["_law_tape_here"] spWorld := by
  have G_law_draw := ok_draw (P := P) (w := w) (base := base) ml D.law_draw
  have G_law_names := ok_names (P := P) (w := w) (base := base) ml D
  refine D.law_world.F.ok scWorld (fun vs H Q E h => ?_) (fun cdv A outer s H vs Q E hr h => ?_)
  · obtain ⟨T, rfl, _⟩ := h
    rfl
  obtain ⟨T, rfl, tp, q⟩ := h
  refine ⟨_, (pss_cons (ps_set (i := 1) scWorld.nd rfl (Or.inl rfl) (pe_lst (pa_cons (pe_lst (pa_cons pe_int (pa_cons pe_int (pa_cons pe_int (pa_cons pe_int (pa_cons pe_int pa_nil)))))) (pa_cons (pe_lst (pa_cons pe_int (pa_cons pe_int (pa_cons pe_int (pa_cons pe_int (pa_cons pe_int pa_nil)))))) (pa_cons (pe_lst (pa_cons pe_int (pa_cons pe_int (pa_cons pe_int (pa_cons pe_int (pa_cons pe_int pa_nil)))))) (pa_cons (pe_lst (pa_cons pe_int (pa_cons pe_int (pa_cons pe_int (pa_cons pe_int (pa_cons pe_int pa_nil)))))) (pa_cons (pe_lst (pa_cons pe_int (pa_cons pe_int (pa_cons pe_int (pa_cons pe_int (pa_cons pe_int pa_nil)))))) (pa_cons (pe_lst (pa_cons pe_int (pa_cons pe_int (pa_cons pe_int (pa_cons pe_int (pa_cons pe_int pa_nil)))))) (pa_cons (pe_lst (pa_cons pe_int (pa_cons pe_int (pa_cons pe_int (pa_cons pe_int (pa_cons pe_int pa_nil)))))) (pa_cons (pe_lst (pa_cons pe_int (pa_cons pe_int (pa_cons pe_int (pa_cons pe_int (pa_cons pe_int pa_nil)))))) (pa_cons (pe_lst (pa_cons pe_int (pa_cons pe_int (pa_cons pe_int (pa_cons pe_int (pa_cons pe_int pa_nil)))))) (pa_cons (pe_lst (pa_cons pe_int (pa_cons pe_int (pa_cons pe_int (pa_cons pe_int (pa_cons pe_int pa_nil)))))) (pa_cons (pe_lst (pa_cons pe_int (pa_cons pe_int (pa_cons pe_int (pa_cons pe_int (pa_cons pe_int pa_nil)))))) (pa_cons (pe_lst (pa_cons pe_int (pa_cons pe_int (pa_cons pe_int (pa_cons pe_int (pa_cons pe_int pa_nil)))))) pa_nil))))))))))))))
      (pss_cons (ps_set (i := 2) scWorld.nd rfl (Or.inl rfl) (pe_cl D.law_names G_law_names (hr.mono (by omega)) (pa_cons (pv 0) (pa_cons pe_int pa_nil))))
      (pss_cons (ps_set (i := 3) scWorld.nd rfl (Or.inl rfl) (pe_slice sl_list (pv 2) po_none (po_some (pe_op op_add pe_int (pe_cl D.law_draw G_law_draw (hr.mono (by omega)) (pa_cons (pv 0) (pa_cons pe_int pa_nil)))))))
      (pss_cons (ps_set (i := 4) scWorld.nd rfl (Or.inl rfl) (pe_slice sl_list (pv 2) (po_some (pe_cl D.law_draw G_law_draw (hr.mono (by omega)) (pa_cons (pv 0) (pa_cons pe_int pa_nil)))) po_none))
      (pss_cons (ps_set (i := 5) scWorld.nd rfl (Or.inl rfl) (pe_slice sl_list (pv 2) (po_some (pe_cl D.law_draw G_law_draw (hr.mono (by omega)) (pa_cons (pv 0) (pa_cons pe_int pa_nil)))) po_none))
      (pss_one (ps_ret (pe_lst (pa_cons (pe_op op_cat (pe_ix ix_list (pv 1) (pe_cl D.law_draw G_law_draw (hr.mono (by omega)) (pa_cons (pv 0) (pa_cons pe_int pa_nil))) (fun _ _ => rfl)) (pe_lst (pa_cons pe_int pa_nil))) (pa_cons (pv 3) (pa_cons (pe_slice sl_list (pv 4) po_none (po_some (pe_op op_add pe_int (pe_cl D.law_draw G_law_draw (hr.mono (by omega)) (pa_cons (pv 0) (pa_cons pe_int pa_nil)))))) (pa_cons (pe_slice sl_list (pv 5) po_none (po_some (pe_op op_add pe_int (pe_cl D.law_draw G_law_draw (hr.mono (by omega)) (pa_cons (pv 0) (pa_cons pe_int pa_nil)))))) pa_nil)))))))))))), ?_⟩
  dsimp only [cxOf, Cx.nox]
  refine st_seq (st_asg (st_lst ?_))
  show tRows rows12 _ _ _
  refine st_rows rows12 _ _ _ (by decide) fun as H1 s1 hal hax => ⟨smN (by rw [List.length_map, hal]; rfl), fun fr hfr => ?_⟩
  have s2 := same_new hfr (.lst (as.map V.ref))
  have e2 : (upd H1 fr (.lst (as.map V.ref))) fr = some (.lst (as.map V.ref)) := upd_same
  have t2 := (tp.same s1).same s2
  have nfr := (tp.same s1).ne hfr
  generalize upd H1 fr (.lst (as.map V.ref)) = H2 at s2 e2 t2
  repeat ac_rfl
  refine ⟨T, 5, rfl, t2, by decide, fun np ws H3 hwl hwo f3 t3 hnp enp => ?_⟩
  repeat ac_rfl
  refine ⟨T, _, rfl, t3, by decide, fun r1 H4 hr1 f4 t4 => ?_⟩
  repeat ac_rfl
  have nnp := t2.ne hnp
  have e4 := f4 _ _ enp nnp
  refine ⟨np, _, rfl, .inl (.inl e4), fun ca hca => ?_⟩
  rw [show (1 : Int) + ((r1 : Nat) : Int) = ((1 + r1 : Nat) : Int) by omega, cut_to]
  have s5 := same_new hca (.lst ((ws.take (1 + r1)).map V.str))
  have e5 : (upd H4 ca (.lst ((ws.take (1 + r1)).map V.str))) ca = some (.lst ((ws.take (1 + r1)).map V.str)) := upd_same
  have t5 := t4.same s5
  have nca := t4.ne hca
  generalize upd H4 ca (.lst ((ws.take (1 + r1)).map V.str)) = H5 at s5 e5 t5
  repeat ac_rfl
  refine ⟨T, _, rfl, t5, by decide, fun r2 H6 hr2 f6 t6 => ?_⟩
  repeat ac_rfl
  have e6 := f6 _ _ (s5 _ _ e4) nnp
  refine ⟨np, _, rfl, .inl (.inl e6), fun la hla => ?_⟩
  rw [cut_from]
  have s7 := same_new hla (.lst ((ws.drop r2).map V.str))
  have e7 : (upd H6 la (.lst ((ws.drop r2).map V.str))) la = some (.lst ((ws.drop r2).map V.str)) := upd_same
  have t7 := t6.same s7
  have nla := t6.ne hla
  generalize upd H6 la (.lst ((ws.drop r2).map V.str)) = H7 at s7 e7 t7
  repeat ac_rfl
  refine ⟨T, _, rfl, t7, by decide, fun r3 H8 hr3 f8 t8 => ?_⟩
  repeat ac_rfl
  have e8 := f8 _ _ (s7 _ _ e6) nnp
  refine ⟨np, _, rfl, .inl (.inl e8), fun fl hfl => ?_⟩
  rw [cut_from]
  have s9 := same_new hfl (.lst ((ws.drop r3).map V.str))
  have e9 : (upd H8 fl (.lst ((ws.drop r3).map V.str))) fl = some (.lst ((ws.drop r3).map V.str)) := upd_same
  have t9 := t8.same s9
  have nfl := t8.ne hfl
  generalize upd H8 fl (.lst ((ws.drop r3).map V.str)) = H9 at s9 e9 t9
  have k39 : ∀ b o, b ≠ T.a → H3 b = some o → H9 b = some o := fun b o hb h => s9 _ _ (f8 _ _ (s7 _ _ (f6 _ _ (s5 _ _ (f4 _ _ h hb)) hb)) hb)
  have k19 : ∀ b o, b ≠ T.a → H1 b = some o → H9 b = some o := fun b o hb h => k39 b o hb (f3 _ _ (s2 _ _ h) hb)
  repeat ac_rfl
  refine ⟨T, _, rfl, t9, by decide, fun r4 H10 hr4 f10 t10 => ?_⟩
  have hr4' : r4 < as.length := by rw [hal]; show r4 < 12; omega
  have hr4'' : r4 < rows12.length := by show r4 < 12; omega
  obtain ⟨n0, n1, n2, n3, n4, ex, h14, h04⟩ := row_of (x := rows12[r4]) (List.all_eq_true.mp rows_ok _ (List.getElem_mem hr4''))
  have ea := hax r4 as[r4] _ (List.getElem?_eq_getElem hr4') (List.getElem?_eq_getElem hr4'')
  rw [ex] at ea
  have nat : as[r4] ≠ T.a := fun z => by
    obtain ⟨pl, big, tot, h1, _⟩ := tp.same s1
    rw [z, h1] at ea; simp at ea
  have ea10 := f10 _ _ (k19 _ _ nat ea) nat
  refine st_ixl (.inl (.inl (f10 _ _ (k39 _ _ nfr (f3 _ _ e2 nfr)) nfr))) (atI_nat (by rw [List.getElem?_map, List.getElem?_eq_getElem hr4']; rfl)) ?_
  repeat ac_rfl
  refine ⟨smN rfl, fun l6 hl6 => ?_⟩
  have s11 := same_new hl6 (.lst [.int 60])
  have e11 : (upd H10 l6 (.lst [.int 60])) l6 = some (.lst [.int 60]) := upd_same
  have t11 := t10.same s11
  generalize upd H10 l6 (.lst [.int 60]) = H11 at s11 e11 t11
  refine ⟨_, _, _, _, rfl, rfl, s11 _ _ ea10, e11, smN rfl, fun fr2 hfr2 => ?_⟩
  have s12 := same_new hfr2 (.lst ([n0, n1, n2, n3, n4].map natV ++ [.int 60]))
  have e12 : (upd H11 fr2 (.lst ([n0, n1, n2, n3, n4].map natV ++ [.int 60]))) fr2 = some (.lst [natV n0, .int n1, .int n2, natV n3, .int n4, .int 60]) := upd_same
  have t12 := t11.same s12
  have nf2 := t11.ne hfr2
  have nf2' := t11.ne2 hfr2
  generalize upd H11 fr2 (.lst ([n0, n1, n2, n3, n4].map natV ++ [.int 60])) = H12 at s12 e12 t12
  repeat ac_rfl
  refine ⟨T, _, rfl, t12, by decide, fun r5 H13 hr5 f13 t13 => ?_⟩
  repeat ac_rfl
  have ela := f13 _ _ (s12 _ _ (s11 _ _ (f10 _ _ (s9 _ _ (f8 _ _ e7 nla)) nla))) nla
  refine ⟨la, _, rfl, .inl (.inl ela), fun lb hlb => ?_⟩
  rw [show (1 : Int) + ((r5 : Nat) : Int) = ((1 + r5 : Nat) : Int) by omega, cut_to]
  have s14 := same_new hlb (.lst (((ws.drop r2).take (1 + r5)).map V.str))
  have e14 : (upd H13 lb (.lst (((ws.drop r2).take (1 + r5)).map V.str))) lb = some (.lst (((ws.drop r2).take (1 + r5)).map V.str)) := upd_same
  have t14 := t13.same s14
  have nlb := t13.ne hlb
  generalize upd H13 lb (.lst (((ws.drop r2).take (1 + r5)).map V.str)) = H14 at s14 e14 t14
  repeat ac_rfl
  refine ⟨T, _, rfl, t14, by decide, fun r6 H15 hr6 f15 t15 => ?_⟩
  repeat ac_rfl
  have efl := f15 _ _ (s14 _ _ (f13 _ _ (s12 _ _ (s11 _ _ (f10 _ _ e9 nfl))) nfl)) nfl
  refine ⟨fl, _, rfl, .inl (.inl efl), fun fb hfb => ?_⟩
  rw [show (1 : Int) + ((r6 : Nat) : Int) = ((1 + r6 : Nat) : Int) by omega, cut_to]
  have s16 := same_new hfb (.lst (((ws.drop r3).take (1 + r6)).map V.str))
  have e16 : (upd H15 fb (.lst (((ws.drop r3).take (1 + r6)).map V.str))) fb = some (.lst (((ws.drop r3).take (1 + r6)).map V.str)) := upd_same
  have t16 := t15.same s16
  generalize upd H15 fb (.lst (((ws.drop r3).take (1 + r6)).map V.str)) = H16 at s16 e16 t16
  repeat ac_rfl
  refine ⟨smN rfl, fun wa hwa => ?_⟩
  have s17 := same_new hwa (.lst [.ref fr2, .ref ca, .ref lb, .ref fb])
  have F9 : Fr (MT T) H H9 := (Fr.of_same (s1.trans s2)).trans (f3.trans (f4.trans ((Fr.of_same s5).trans (f6.trans ((Fr.of_same s7).trans (f8.trans (Fr.of_same s9)))))))
  have F11 : Fr (MT T) H H11 := F9.trans (f10.trans (Fr.of_same s11))
  have F17 := F11.trans ((Fr.of_same s12).trans (f13.trans ((Fr.of_same s14).trans (f15.trans (Fr.of_same (s16.trans s17))))))
  have eca := s17 _ _ (s16 _ _ (f15 _ _ (s14 _ _ (f13 _ _ (s12 _ _ (s11 _ _ (f10 _ _ (s9 _ _ (f8 _ _ (s7 _ _ (f6 _ _ e5 nca)) nca)) nca))) nca)) nca))
  have efr := s17 _ _ (s16 _ _ (f15 _ _ (s14 _ _ (f13 _ _ e12 nf2)) nf2))
  have elb := s17 _ _ (s16 _ _ (f15 _ _ e14 nlb))
  have m1 : ∀ {k : Nat} {n : Nm} {l : List Nm}, n ∈ l.take k → n ∈ l := fun h => List.mem_of_mem_take h
  refine q ⟨wa, fr2, ca, lb, fb, ws.take (1 + r1), (ws.drop r2).take (1 + r5), (ws.drop r3).take (1 + r6)⟩ n0 n3 _ h14 h04 F17 ⟨t16.same s17, upd_same, ⟨n1, n2, n4, 60, efr⟩, eca, elb, s17 _ _ e16, ⟨?_, ?_, fun n hn => hwo n (m1 hn)⟩, ⟨?_, ?_, fun n hn => hwo n (List.mem_of_mem_drop (m1 hn))⟩, ⟨?_, ?_, fun n hn => hwo n (List.mem_of_mem_drop (m1 hn))⟩, nf2'⟩ (none_fr F11 nf2 hfr2)
  all_goals
    simp only [List.length_take, List.length_drop, hwl]
    omega
end
end K23
namespace K23
open PySem PySem.Spec PyProof.Rows L2 Fl RT
local macro_rules | `(tactic| ac_rfl) => `(tactic| (
  first
    | with_reducible refine Stp.go ?_
    | with_reducible refine st_var (by with_unfolding_all exact rfl) ?_
    | with_reducible refine st_ixt (by with_unfolding_all assumption) (by with_unfolding_all exact rfl) ?_
    | with_reducible refine st_ixl (by with_unfolding_all assumption) (by with_unfolding_all exact rfl) ?_
    | with_reducible refine st_eq (by with_unfolding_all exact rfl) ?_
    | with_reducible refine st_bl ?_
    | with_reducible refine ifb_t ?_
    | with_reducible refine ifb_f ?_
    | with_reducible refine ifs_no (by decide +kernel) ?_
    | with_reducible refine ifs_yes rfl ?_
    | with_reducible refine ifs_yes lab_rfl ?_
    | with_reducible refine ifs_yes num_rfl ?_
    | with_reducible refine ifn_no (by decide +kernel) ?_
    | with_reducible refine ifn_yes rfl ?_
    | with_reducible refine ifnb_t ?_
    | with_reducible refine ifnb_f ?_
    | with_reducible refine st_ne (by with_unfolding_all exact rfl) ?_
    | with_reducible refine st_ix0 (by with_unfolding_all assumption) ?_
    | with_reducible refine st_sl ?_
    | with_reducible refine st_part ?_
    | with_reducible refine st_nopart ?_
    | with_reducible refine st_mulc (by decide) (by decide) ?_
    | with_reducible refine st_modc (by decide) ?_
    | with_reducible refine Or.inl ⟨_, rfl, ?_⟩
    | with_reducible refine ⟨_, rfl, ?_⟩))
def EncCL (K : PySem.W.Frag) (H : Hp) : List Cond → List V → Prop
  | [], us => us = []
  | c :: r, us => ∃ u t, us = u :: t ∧ EncC K H c u ∧ EncCL K H r t
def szL : List Cond → Nat
  | [] => 0
  | c :: r => szC c + szL r
def ofL : List Cond → Conds
  | [] => .nil
  | c :: r => .cons c (ofL r)
section
variable {K : PySem.W.Frag} {H H' : Hp}
theorem EncCL.mono (k : TK K H H') : ∀ {l : List Cond} {us : List V}, EncCL K H l us → EncCL K H' l us
  | [], _, h => h
  | _ :: _, _, ⟨u, t, e, h1, h2⟩ => ⟨u, t, e, EncC.mono k _ h1, EncCL.mono k h2⟩
theorem EncCL.len : ∀ {l : List Cond} {us : List V}, EncCL K H l us → us.length = l.length
  | [], _, h => by cases (show _ = _ from h); rfl
  | _ :: _, _, ⟨u, t, e, h1, h2⟩ => by rw [e, List.length_cons, List.length_cons, EncCL.len h2]
theorem EncCL.app : ∀ {l m : List Cond} {us vs : List V}, EncCL K H l us → EncCL K H m vs → EncCL K H (l ++ m) (us ++ vs)
  | [], _, _, _, h, q => by cases (show _ = _ from h); exact q
  | _ :: _, _, _, _, ⟨u, t, e, h1, h2⟩, q => by rw [e]; exact ⟨u, _, rfl, h1, EncCL.app h2 q⟩
theorem EncCL.take : ∀ {l : List Cond} {us : List V} (i : Nat), EncCL K H l us → EncCL K H (l.take i) (us.take i)
  | _, _, 0, _ => rfl
  | [], _, _ + 1, h => by cases (show _ = _ from h); exact rfl
  | _ :: _, _, i + 1, ⟨u, t, e, h1, h2⟩ => by rw [e]; exact ⟨u, _, rfl, h1, EncCL.take i h2⟩
theorem EncCL.drop : ∀ {l : List Cond} {us : List V} (i : Nat), EncCL K H l us → EncCL K H (l.drop i) (us.drop i)
  | _, _, 0, h => h
  | [], _, _ + 1, h => by cases (show _ = _ from h); exact rfl
  | _ :: _, _, i + 1, ⟨u, t, e, h1, h2⟩ => by rw [e]; exact EncCL.drop i h2
theorem EncCL.at : ∀ {l : List Cond} {us : List V} {i : Nat} {c : Cond}, EncCL K H l us → l[i]? = some c → ∃ u, us[i]? = some u ∧ EncC K H c u
  | [], _, _, _, _, h => by simp at h
  | _ :: _, _, 0, c, ⟨u, t, e, h1, h2⟩, h => by
    cases (show some _ = some c from h)
    exact ⟨u, by rw [e]; rfl, h1⟩
  | _ :: _, _, i + 1, c, ⟨u, t, e, h1, h2⟩, h => by
    obtain ⟨v, hv, q⟩ := EncCL.at (i := i) h2 h
    exact ⟨v, by rw [e]; exact hv, q⟩
theorem EncCL.to : ∀ {l : List Cond} {us : List V}, EncCL K H l us → EncCs K H (ofL l) us
  | [], _, h => h
  | _ :: _, _, ⟨u, t, e, h1, h2⟩ => ⟨u, t, e, h1, EncCL.to h2⟩
theorem EncCL.of : ∀ {cs : Conds} {us : List V}, EncCs K H cs us → EncCL K H (toL cs) us
  | .nil, _, h => h
  | .cons _ _, _, ⟨u, t, e, h1, h2⟩ => ⟨u, t, e, h1, EncCL.of h2⟩
end
theorem szL_of : ∀ l : List Cond, szCs (ofL l) = szL l
  | [] => rfl
  | c :: r => by show szC c + szCs (ofL r) = szC c + szL r; rw [szL_of r]
theorem szL_to : ∀ cs : Conds, szL (toL cs) = szCs cs
  | .nil => rfl
  | .cons c r => by show szC c + szL (toL r) = szC c + szCs r; rw [szL_to r]
theorem szL_app : ∀ l m : List Cond, szL (l ++ m) = szL l + szL m
  | [], m => by show szL m = 0 + szL m; omega
  | c :: r, m => by show szC c + szL (r ++ m) = szC c + szL r + szL m; rw [szL_app r m]; omega
theorem szL_len : ∀ l : List Cond, l.length ≤ szL l
  | [] => Nat.le_refl _
  | c :: r => by
    have := szL_len r
    have := szC_pos c
    show r.length + 1 ≤ szC c + szL r
    omega
theorem wfL_of {vis : List Nm} : ∀ {l : List Cond}, (∀ c ∈ l, wfC vis c) → wfCs vis (ofL l)
  | [], _ => trivial
  | c :: r, h => ⟨h c List.mem_cons_self, wfL_of fun d hd => h d (List.mem_cons_of_mem _ hd)⟩
theorem wfL_to {vis : List Nm} : ∀ {cs : Conds}, wfCs vis cs → ∀ c ∈ toL cs, wfC vis c
  | .nil, _, c, h => absurd h List.not_mem_nil
  | .cons d r, ⟨h1, h2⟩, c, h => by
    rcases List.mem_cons.mp h with z | z
    · rw [z]; exact h1
    · exact wfL_to h2 c z
def spLeaf (K : PySem.W.Frag) : Sp := fun vs H Q _ => ∃ (T : Tap) (W : Wld) (f0 f3 : Nat) (ga : Addr) (vis : List Nm), vs = [.ref T.a, .ref W.a, .ref ga] ∧ DAt H T W f0 f3 ∧ H ga = some (.lst (vis.map V.str)) ∧ vis.length ≤ 500 ∧ ga ≠ T.a ∧ ga ≠ W.fr ∧
  ∀ (t : Addr) (c : Cond) H', Fr (MD T W) H H' → DAt H' T W f0 f3 → EncC K H' c (.ref t) → szC c = 1 → wfC vis c → Q (.ref t) H'
theorem scLeaf : FnScope ["_law_tape_here", "_law_world_here", "_law_flags", "_law_free"] ["_law_tape_here", "_law_world_here", "_law_flags"] (defScope (top 33)) := ⟨rfl, rfl, rfl, by decide +kernel, rfl, by decide +kernel, by decide +kernel⟩
section
variable {P : Program} {w : World} {K : PySem.W.Frag} {mg : Str → Option Value} {base : Heap} {fa : Nat → Addr} {fd : Nat → FuncData}
theorem ok_leaf (ml : BN mg) (D : DD K mg fa fd) : FnOk P w K mg base CX0 2 (fa 33) (fd 33) ["_law_tape_here", "_law_world_here", "_law_flags"] (spLeaf K) := by
  have G_law_draw := ok_draw (P := P) (w := w) (base := base) ml D.law_draw
  refine D.law_leaf.F.ok scLeaf (fun vs H Q E h => ?_) (fun cdv A outer s H vs Q E hr h => ?_)
  · obtain ⟨T, W, f0, f3, ga, vis, rfl, _⟩ := h
    rfl
  obtain ⟨T, W, f0, f3, ga, vis, rfl, d, hg, hvl, hgt, hgf, q⟩ := h
  refine ⟨_, (pss_cons (ps_set (i := 3) scLeaf.nd rfl (Or.inl rfl) (pe_ix ix_list (pv 1) pe_int (fun _ _ => rfl)))
      (pss_cons (ps_if (pw_and (pt_truth (pv 2) (fun _ => rfl)) (pw_and1 (pw_or (pt_cmpR op_eq (pe_ix ix_list (pv 3) pe_int (fun _ _ => rfl)) pe_int (nomark _)) (pw_or1 (pt_cmpR op_eq (pe_cl D.law_draw G_law_draw (hr.mono (by omega)) (pa_cons (pv 0) (pa_cons pe_int pa_nil))) pe_int (nomark _)))).pt)).pt (pss_one (ps_ret (pe_tup (pa_cons pe_str (pa_cons (pe_ix ix_list (pv 2) (pe_cl D.law_draw G_law_draw (hr.mono (by omega)) (pa_cons (pv 0) (pa_cons (pe_len ml.len (pv 2)) pa_nil))) (fun _ _ => rfl)) pa_nil))))) pss_nil)
      (pss_cons (ps_asg (pe_op op_sub (pe_ix ix_list (pv 3) pe_int (fun _ _ => rfl)) pe_int) (pg_sub (pv 3) pe_int set_list))
      (pss_one (ps_ret (pe_tup (pa_cons pe_str (pa_cons (pe_ix ix_list (pe_ix ix_list (pv 1) pe_int (fun _ _ => rfl)) (pe_cl D.law_draw G_law_draw (hr.mono (by omega)) (pa_cons (pv 0) (pa_cons (pe_len ml.len (pe_ix ix_list (pv 1) pe_int (fun _ _ => rfl))) pa_nil))) (fun _ _ => rfl)) pa_nil)))))))), ?_⟩
  dsimp only [cxOf, Cx.nox]
  have hgm : ¬ MD T W ga := fun z => by
    rcases z with z | z
    · exact hgt z
    · exact hgf z
  refine seq_cut2 (fun σ' H' => σ' = [some (.ref T.a), some (.ref W.a), some (.ref ga), some (.ref W.fr)] ∧ Fr (MD T W) H H' ∧ DAt H' T W f0 f3) ?_ ?_
  · rintro _ H1 ⟨rfl, f1, d1⟩
    obtain ⟨g1, g2, g4, g5, efr⟩ := d1.fr
    have lfr : SqL K H1 W.fr _ := .inl (.inl efr)
    repeat ac_rfl
    refine ⟨_, rfl, W.fr, _, 1, 1, rfl, rfl, efr, rfl, ?_⟩
    have d2 := d1.put f0 f3 (g1 - 1) g2 g4 g5
    have f2 : Fr (MD T W) H (upd H1 W.fr (.lst [natV f0, .int (g1 - 1), .int g2, natV f3, .int g4, .int g5])) := f1.upd (.inl (.inr rfl))
    have es : [natV f0, .int g1, .int g2, natV f3, .int g4, .int g5].set 1 (.int (g1 - 1)) = [natV f0, .int (g1 - 1), .int g2, natV f3, .int g4, .int g5] := rfl
    rw [es]
    generalize upd H1 W.fr (.lst [natV f0, .int (g1 - 1), .int g2, natV f3, .int g4, .int g5]) = H2 at d2 f2
    have lw : SqL K H2 W.a _ := .inl (.inl d2.w)
    repeat ac_rfl
    refine ⟨W.ca, _, rfl, .inl (.inl (.inl d2.c)), ?_⟩
    repeat ac_rfl
    have hc1 := d2.oc.1
    have hc2 := d2.oc.2.1
    refine ⟨T, _, rfl, d2.t, by rw [List.length_map]; omega, fun r H3 hr3 f3' t3 => ?_⟩
    have d3 := d2.draw f3' t3
    rw [List.length_map] at hr3
    have hlt : r < W.cs.length := by omega
    refine st_ixl (.inl (.inl d3.c)) (atI_nat (by rw [List.getElem?_map, List.getElem?_eq_getElem hlt]; rfl)) ?_
    repeat ac_rfl
    refine ⟨smN rfl, fun t ht => ?_⟩
    have s6 := same_new ht (.tup [.str "call", .str W.cs[r]])
    exact q t (.call W.cs[r]) _ ((f2.trans (MT.md f3')).trans (Fr.of_same s6)) (d3.same s6) (Tp.of upd_same) rfl (d.oc.2.2 _ (List.getElem_mem hlt))
  intro N hN
  obtain ⟨g1, g2, g4, g5, efr⟩ := d.fr
  have lfr : SqL K H W.fr _ := .inl (.inl efr)
  repeat ac_rfl
  refine st_ixl (.inl (.inl d.w)) rfl ?_
  repeat ac_rfl
  refine ⟨!(vis.map V.str).isEmpty, .inl ⟨_, .inl (.inl hg), rfl⟩, ?_⟩
  refine ifb (fun hz => ?_) (fun hz => ?_)
  · have hvp : 0 < vis.length := by
      cases vis with
      | nil => exact absurd hz (by decide)
      | cons a r => exact Nat.succ_pos _
    repeat ac_rfl
    refine ifb (fun hz => ?_) (fun hz => ?_)
    · skip
      repeat ac_rfl
      have eg := (Fr.refl : Fr (MD T W) H H) _ _ hg hgm
      refine ⟨ga, _, rfl, .inl (.inl (.inl eg)), ?_⟩
      repeat ac_rfl
      refine ⟨T, _, rfl, d.t, by rw [List.length_map]; omega, fun r2 H5 hr5 f5 t5 => ?_⟩
      have d5 := d.draw f5 t5
      rw [List.length_map] at hr5
      have hlt : r2 < vis.length := by omega
      have eg5 := f5 _ _ eg hgt
      refine st_ixl (.inl (.inl eg5)) (atI_nat (by rw [List.getElem?_map, List.getElem?_eq_getElem hlt]; rfl)) ?_
      repeat ac_rfl
      refine ⟨smN rfl, fun t ht => ?_⟩
      have s6 := same_new ht (.tup [.str "flag", .str vis[r2]])
      exact q t (.flag vis[r2]) _ (((Fr.refl : Fr (MD T W) H H).trans (MT.md f5)).trans (Fr.of_same s6)) (d5.same s6) (Tp.of upd_same) rfl (List.getElem_mem hlt)
    · repeat ac_rfl
      refine ⟨T, _, rfl, d.t, by decide, fun r H3 hr3 f3' t3 => ?_⟩
      have d3 := d.draw f3' t3
      have f3m : Fr (MD T W) H H3 := MT.md f3'
      repeat ac_rfl
      refine ifb (fun hz => ?_) (fun hz => ?_)
      · skip
        repeat ac_rfl
        have eg := f3m _ _ hg hgm
        refine ⟨ga, _, rfl, .inl (.inl (.inl eg)), ?_⟩
        repeat ac_rfl
        refine ⟨T, _, rfl, d3.t, by rw [List.length_map]; omega, fun r2 H5 hr5 f5 t5 => ?_⟩
        have d5 := d3.draw f5 t5
        rw [List.length_map] at hr5
        have hlt : r2 < vis.length := by omega
        have eg5 := f5 _ _ eg hgt
        refine st_ixl (.inl (.inl eg5)) (atI_nat (by rw [List.getElem?_map, List.getElem?_eq_getElem hlt]; rfl)) ?_
        repeat ac_rfl
        refine ⟨smN rfl, fun t ht => ?_⟩
        have s6 := same_new ht (.tup [.str "flag", .str vis[r2]])
        exact q t (.flag vis[r2]) _ ((f3m.trans (MT.md f5)).trans (Fr.of_same s6)) (d5.same s6) (Tp.of upd_same) rfl (List.getElem_mem hlt)
      · repeat ac_rfl
        exact hN _ _ ⟨rfl, f3m, d3⟩
  · repeat ac_rfl
    exact hN _ _ ⟨rfl, Fr.refl, d⟩
end
end K23
namespace K23
open PySem PySem.Spec PyProof.Rows L2 Fl RT
local macro_rules | `(tactic| ac_rfl) => `(tactic| (
  first
    | with_reducible refine Stp.go ?_
    | with_reducible refine st_var (by with_unfolding_all exact rfl) ?_
    | with_reducible refine st_ixt (by with_unfolding_all assumption) (by with_unfolding_all exact rfl) ?_
    | with_reducible refine st_ixl (by with_unfolding_all assumption) (by with_unfolding_all exact rfl) ?_
    | with_reducible refine st_eq (by with_unfolding_all exact rfl) ?_
    | with_reducible refine st_bl ?_
    | with_reducible refine ifb_t ?_
    | with_reducible refine ifb_f ?_
    | with_reducible refine ifs_no (by decide +kernel) ?_
    | with_reducible refine ifs_yes rfl ?_
    | with_reducible refine ifs_yes lab_rfl ?_
    | with_reducible refine ifs_yes num_rfl ?_
    | with_reducible refine ifn_no (by decide +kernel) ?_
    | with_reducible refine ifn_yes rfl ?_
    | with_reducible refine ifnb_t ?_
    | with_reducible refine ifnb_f ?_
    | with_reducible refine st_ne (by with_unfolding_all exact rfl) ?_
    | with_reducible refine st_ix0 (by with_unfolding_all assumption) ?_
    | with_reducible refine st_sl ?_
    | with_reducible refine st_part ?_
    | with_reducible refine st_nopart ?_
    | with_reducible refine st_mulc (by decide) (by decide) ?_
    | with_reducible refine st_modc (by decide) ?_
    | with_reducible refine Or.inl ⟨_, rfl, ?_⟩
    | with_reducible refine ⟨_, rfl, ?_⟩))
def wd (o : Bool) : Nm := if o then "or" else "and"
def mkJ (o : Bool) (l : List Cond) : Cond := if o then .or (ofL l) else .and (ofL l)
theorem mkJ_sz (o : Bool) (l : List Cond) : szC (mkJ o l) = szL l + 1 := by
  cases o <;> (show szCs (ofL l) + 1 = _; rw [szL_of])
theorem mkJ_wf {o : Bool} {vis : List Nm} {l : List Cond} (h : ∀ c ∈ l, wfC vis c) : wfC vis (mkJ o l) := by
  cases o <;> exact wfL_of h
theorem mkJ_enc {K : PySem.W.Frag} {H : Hp} {o : Bool} {l : List Cond} {a b : Addr} {us : List V} (h : SqT K H a [.str (wd o), .ref b]) (hb : SqT K H b us) (he : EncCL K H l us) : EncC K H (mkJ o l) (.ref a) := by
  cases o <;> exact ⟨b, us, ⟨a, rfl, h⟩, hb, he.to⟩
def spJoined (K : PySem.W.Frag) : Sp := fun vs H Q _ => ∃ (o : Bool) (l r : V) (c1 c2 : Cond) (vis : List Nm), vs = [.str (wd o), l, r] ∧ EncC K H c1 l ∧ EncC K H c2 r ∧ wfC vis c1 ∧ wfC vis c2 ∧ szC c1 + szC c2 ≤ 100 ∧
  ∀ (t : Addr) (c : Cond) H', Same H H' → EncC K H' c (.ref t) → szC c ≤ szC c1 + szC c2 + 1 → wfC vis c → Q (.ref t) H'
def spParts (K : PySem.W.Frag) (n : Nat) : Sp := fun vs H Q _ => ∃ (v : V) (c : Cond), vs = [v] ∧ EncC K H c v ∧ szC c < n ∧ szC c ≤ 100 ∧ ∀ (i : Int) H', Same H H' → Q (.int i) H'
theorem scJoined : FnScope ["_law_word", "_law_left", "_law_right", "_law_parts_here", "_law_side"] ["_law_word", "_law_left", "_law_right"] (defScope (top 34)) := ⟨rfl, rfl, rfl, by decide +kernel, rfl, by decide +kernel, by decide +kernel⟩
theorem scParts0 : FnScope ["_law_condition_here"] ["_law_condition_here"] (defScope (top 49)) := ⟨rfl, rfl, rfl, by decide +kernel, rfl, by decide +kernel, by decide +kernel⟩
theorem scParts : FnScope ["_law_condition_here", "_law_part"] ["_law_condition_here"] (defScope (top 49)) := ⟨rfl, rfl, rfl, by decide +kernel, rfl, by decide +kernel, by decide +kernel⟩
section
variable {P : Program} {w : World} {K : PySem.W.Frag} {mg : Str → Option Value} {base : Heap} {fa : Nat → Addr} {fd : Nat → FuncData}
theorem ok_joined (ml : BN mg) (D : DD K mg fa fd) : FnOk P w K mg base CX0 1 (fa 34) (fd 34) ["_law_word", "_law_left", "_law_right"] (spJoined K) := by
  refine D.law_joined.F.ok scJoined (fun vs H Q E h => ?_) (fun cdv A outer s H vs Q E hr h => ?_)
  · obtain ⟨o, l, r, c1, c2, vis, rfl, _⟩ := h
    rfl
  obtain ⟨o, l, r, c1, c2, vis, rfl, hl, hr2, hw1, hw2, hsz, q⟩ := h
  refine ⟨_, (pss_cons (ps_set (i := 3) scJoined.nd rfl (Or.inl rfl) (pe_lst pa_nil))
      (pss_cons (ps_for PassesOwn.never rfl (pi_list (pe_lst (pa_cons (pv 1) (pa_cons (pv 2) pa_nil)))) (pg_name (i := 4) scJoined.nd rfl (Or.inl rfl)) (pss_one (ps_if (pt_cmpR op_eq (pe_ix ix_tup (pv 4) pe_int (fun _ _ => rfl)) (pv 0) (nomark _)) (pss_one (ps_set (i := 3) scJoined.nd rfl (Or.inl rfl) (pe_op op_cat (pv 3) (pe_callTy call_list_of (by rfl) ml.list (by decide +kernel) (pa_cons (pe_ix ix_tup (pv 4) pe_int (fun _ _ => rfl)) pa_nil))))) (pss_one (ps_expr (pe_bm PySem.F.plainAttrs_list PySem.F.slot_list_append PySem.F.type_list_append mt_append (pv 3) (pa_cons (pv 4) pa_nil)))))))
      (pss_one (ps_ret (pe_tup (pa_cons (pv 0) (pa_cons (pe_callTy call_tuple_of (by rfl) ml.tuple (by decide +kernel) (pa_cons (pv 3) pa_nil)) pa_nil))))))), ?_⟩
  dsimp only [cxOf, Cx.nox]
  repeat ac_rfl
  refine ⟨small3 (Nat.zero_le _), fun pa hpa => ?_⟩
  have s1 := same_new hpa (.lst [])
  have e1 : (upd H pa (.lst [])) pa = some (.lst []) := upd_same
  generalize upd H pa (.lst []) = H1 at s1 e1
  repeat ac_rfl
  refine ⟨_, rfl, _, rfl, smN rfl, fun lp hlp => ?_⟩
  have s2 := same_new hlp (.lst [l, r])
  have e2 : (upd H1 lp (.lst [l, r])) lp = some (.lst [l, r]) := upd_same
  generalize upd H1 lp (.lst [l, r]) = H2 at s2 e2
  have nlp : H lp = none := none_same s1 hlp
  refine ⟨lp, rfl, ⟨_, .inl (.inl e2)⟩, for_list (K := K) (a := lp) (xs := [l, r]) (fun i σ H' => ∃ (pa : Addr) (us : List V) (cl : List Cond) (o4 : Option V), σ = [some (.str (wd o)), some l, some r, some (.ref pa), o4] ∧ Same H H' ∧ H' lp = some (.lst [l, r]) ∧ H pa = none ∧ pa ≠ lp ∧ H' pa = some (.lst us) ∧ EncCL K H' cl us ∧ (∀ c ∈ cl, wfC vis c) ∧ szL cl ≤ (if i = 0 then 0 else if i = 1 then szC c1 else szC c1 + szC c2)) ⟨pa, [], [], none, rfl, s1.trans s2, e2, hpa, (fun z => by rw [z, hlp] at e1; cases e1), s2 _ _ e1, rfl, fun c h => absurd h List.not_mem_nil, Nat.le_refl _⟩ (fun i σ H' _ ⟨_, _, _, _, _, _, h, _⟩ => .inl (.inl h)) ?_ ?_⟩
  · clear e1 e2 s1 s2 hpa hlp H2 H1 pa
    rintro i x σ H2 hx ⟨pa, us, cl, o4, rfl, s2, elp, npa, npl, epa, hcl, hwl, hzl⟩
    obtain ⟨c, hcx, hwc, hc100, hbd⟩ : ∃ c, EncC K H c x ∧ wfC vis c ∧ szC c ≤ 100 ∧ (if i = 0 then 0 else if i = 1 then szC c1 else szC c1 + szC c2) + szC c = (if i + 1 = 0 then 0 else if i + 1 = 1 then szC c1 else szC c1 + szC c2) := by
      match i, hx with
      | 0, hx => cases (show some l = some x from hx); exact ⟨c1, hl, hw1, by omega, by simp⟩
      | 1, hx => cases (show some r = some x from hx); exact ⟨c2, hr2, hw2, by omega, by simp⟩
      | i + 2, hx => simp at hx
    have hbl : (if i = 0 then 0 else if i = 1 then szC c1 else szC c1 + szC c2) ≤ 100 := by split <;> (try split) <;> omega
    generalize (if i = 0 then 0 else if i = 1 then szC c1 else szC c1 + szC c2) = bi at hzl hbd hbl
    have k2 : TK K H H2 := TK.of_same s2
    have hul := hcl.len
    have hll := szL_len cl
    have appfin : ∀ o4', ∃ (pa' : Addr) (us' : List V) (cl' : List Cond) (o4 : Option V), [some (.str (wd o)), some l, some r, some (.ref pa), o4'] = [some (.str (wd o)), some l, some r, some (.ref pa'), o4] ∧ Same H (upd H2 pa (.lst (us ++ [x]))) ∧ (upd H2 pa (.lst (us ++ [x]))) lp = some (.lst [l, r]) ∧ H pa' = none ∧ pa' ≠ lp ∧ (upd H2 pa (.lst (us ++ [x]))) pa' = some (.lst us') ∧ EncCL K (upd H2 pa (.lst (us ++ [x]))) cl' us' ∧ (∀ c ∈ cl', wfC vis c) ∧ szL cl' ≤ (if i + 1 = 0 then 0 else if i + 1 = 1 then szC c1 else szC c1 + szC c2) := fun o4' => by
      have kp : TK K H2 (upd H2 pa (.lst (us ++ [x]))) := TK.put _ epa (fun _ z => (by cases z)) fun _ _ z => (by cases z)
      refine ⟨pa, us ++ [x], cl ++ [c], o4', rfl, fun b u hb => ?_, by rw [upd_ne (Ne.symm npl)]; exact elp, npa, npl, upd_same, (EncCL.mono kp hcl).app ⟨x, [], rfl, EncC.mono (k2.trans kp) c hcx, rfl⟩, fun d hd => ?_, ?_⟩
      · rw [upd_ne (ne_of_none hb npa)]; exact s2 b u hb
      · rcases List.mem_append.mp hd with z | z
        · exact hwl d z
        · rw [List.mem_singleton.mp z]; exact hwc
      · rw [szL_app, ← hbd]; show _ + (szC c + 0) ≤ _; omega
    cases c with
    | call n =>
      obtain ⟨a0, rfl, h0⟩ := EncC.mono k2 _ hcx
      repeat ac_rfl
      refine ifs_no (by cases o <;> decide +kernel) ?_
      repeat ac_rfl
      refine ⟨.inl ⟨rfl, _, .inl (.inl epa)⟩, ?_⟩
      repeat ac_rfl
      refine ⟨pa, _, _, rfl, rfl, epa, small_lt (by omega), ?_⟩
      exact appfin _
    | flag n =>
      obtain ⟨a0, rfl, h0⟩ := EncC.mono k2 _ hcx
      repeat ac_rfl
      refine ifs_no (by cases o <;> decide +kernel) ?_
      repeat ac_rfl
      refine ⟨.inl ⟨rfl, _, .inl (.inl epa)⟩, ?_⟩
      repeat ac_rfl
      refine ⟨pa, _, _, rfl, rfl, epa, small_lt (by omega), ?_⟩
      exact appfin _
    | not d =>
      obtain ⟨u, ⟨a0, rfl, h0⟩, hd⟩ := EncC.mono k2 _ hcx
      repeat ac_rfl
      refine ifs_no (by cases o <;> decide +kernel) ?_
      repeat ac_rfl
      refine ⟨.inl ⟨rfl, _, .inl (.inl epa)⟩, ?_⟩
      repeat ac_rfl
      refine ⟨pa, _, _, rfl, rfl, epa, small_lt (by omega), ?_⟩
      exact appfin _
    | and cs =>
      obtain ⟨b, us2, ⟨a0, rfl, h0⟩, h1', h2⟩ := EncC.mono k2 _ hcx
      cases o with
      | true =>
        repeat ac_rfl
        refine ⟨.inl ⟨rfl, _, .inl (.inl epa)⟩, ?_⟩
        repeat ac_rfl
        refine ⟨pa, _, _, rfl, rfl, epa, small_lt (by omega), ?_⟩
        exact appfin _
      | false =>
        repeat ac_rfl
        refine ⟨b, _, rfl, .inr h1', fun l1 hl1 => ?_⟩
        have s3 := same_new hl1 (.lst us2)
        have e3 : (upd H2 l1 (.lst us2)) l1 = some (.lst us2) := upd_same
        generalize upd H2 l1 (.lst us2) = H3 at s3 e3
        have hcl2 := EncCL.of (h2)
        have hus2 := hcl2.len
        have hz2 := szL_len (toL cs)
        rw [szL_to] at hz2
        have ecs : szC (.and cs) = szCs cs + 1 := rfl
        refine ⟨_, _, _, _, rfl, rfl, s3 _ _ epa, e3, small3 (by omega), fun pn hpn => ?_⟩
        have s4 := same_new hpn (.lst (us ++ us2))
        have hn : H pn = none := none_same (s2.trans s3) hpn
        repeat ac_rfl
        refine ⟨pn, us ++ us2, cl ++ toL cs, _, rfl, (s2.trans s3).trans s4, s4 _ _ (s3 _ _ elp), hn, (fun z => by rw [z, s3 _ _ elp] at hpn; cases hpn), upd_same, (EncCL.mono (TK.of_same (s3.trans s4)) hcl).app (EncCL.mono (TK.of_same (s3.trans s4)) hcl2), fun d hd => ?_, ?_⟩
        · rcases List.mem_append.mp hd with z | z
          · exact hwl d z
          · exact wfL_to (cs := cs) hwc d z
        · rw [szL_app, szL_to, ← hbd]; omega
    | or cs =>
      obtain ⟨b, us2, ⟨a0, rfl, h0⟩, h1', h2⟩ := EncC.mono k2 _ hcx
      cases o with
      | false =>
        repeat ac_rfl
        refine ⟨.inl ⟨rfl, _, .inl (.inl epa)⟩, ?_⟩
        repeat ac_rfl
        refine ⟨pa, _, _, rfl, rfl, epa, small_lt (by omega), ?_⟩
        exact appfin _
      | true =>
        repeat ac_rfl
        refine ⟨b, _, rfl, .inr h1', fun l1 hl1 => ?_⟩
        have s3 := same_new hl1 (.lst us2)
        have e3 : (upd H2 l1 (.lst us2)) l1 = some (.lst us2) := upd_same
        generalize upd H2 l1 (.lst us2) = H3 at s3 e3
        have hcl2 := EncCL.of (h2)
        have hus2 := hcl2.len
        have hz2 := szL_len (toL cs)
        rw [szL_to] at hz2
        have ecs : szC (.or cs) = szCs cs + 1 := rfl
        refine ⟨_, _, _, _, rfl, rfl, s3 _ _ epa, e3, small3 (by omega), fun pn hpn => ?_⟩
        have s4 := same_new hpn (.lst (us ++ us2))
        have hn : H pn = none := none_same (s2.trans s3) hpn
        repeat ac_rfl
        refine ⟨pn, us ++ us2, cl ++ toL cs, _, rfl, (s2.trans s3).trans s4, s4 _ _ (s3 _ _ elp), hn, (fun z => by rw [z, s3 _ _ elp] at hpn; cases hpn), upd_same, (EncCL.mono (TK.of_same (s3.trans s4)) hcl).app (EncCL.mono (TK.of_same (s3.trans s4)) hcl2), fun d hd => ?_, ?_⟩
        · rcases List.mem_append.mp hd with z | z
          · exact hwl d z
          · exact wfL_to (cs := cs) hwc d z
        · rw [szL_app, szL_to, ← hbd]; omega
  · rintro σ H3 ⟨pa3, us, cl, o4, rfl, s3, _, npa, npl, epa, hcl, hwl, hzl⟩
    have hzl' : szL cl ≤ szC c1 + szC c2 := hzl
    repeat ac_rfl
    refine ⟨pa3, _, rfl, .inl ⟨.inl (.inl epa), fun t ht => ?_⟩⟩
    have s4 := same_new ht (.tup us)
    have e4 : (upd H3 t (.tup us)) t = some (.tup us) := upd_same
    generalize upd H3 t (.tup us) = H4 at s4 e4
    repeat ac_rfl
    refine ⟨smN rfl, fun t2 ht2 => ?_⟩
    have s5 := same_new ht2 (.tup [.str (wd o), .ref t])
    refine q t2 (mkJ o cl) _ ((s3.trans s4).trans s5) (mkJ_enc (.inl (.inl upd_same)) (.inl (.inl (s5 _ _ e4))) (EncCL.mono (TK.of_same (s4.trans s5)) hcl)) ?_ (mkJ_wf hwl)
    rw [mkJ_sz]; omega
theorem ok_parts {n : Nat} (ml : BN mg) (D : DD K mg fa fd) (G : FnOk P w K mg base CX0 (n + 1) (fa 49) (fd 49) ["_law_condition_here"] (spParts K n)) : FnOk P w K mg base CX0 (n + 2) (fa 49) (fd 49) ["_law_condition_here"] (spParts K (n + 1)) := by
  refine D.law_parts.F.ok scParts (fun vs H Q E h => ?_) (fun cdv A outer s H vs Q E hr h => ?_)
  · obtain ⟨v, c, rfl, _⟩ := h
    rfl
  obtain ⟨v, c, rfl, he, hsz, hs100, q⟩ := h
  refine ⟨_, (pss_cons (ps_if (pt_cmpR op_eq (pe_ix ix_tup (pv 0) pe_int (fun _ _ => rfl)) pe_str (nomark _)) (pss_one (ps_ret (pe_op op_add pe_int (pe_cl D.law_parts G (hr.mono (by omega)) (pa_cons (pe_ix ix_tup (pv 0) pe_int (fun _ _ => rfl)) pa_nil))))) pss_nil)
      (pss_cons (ps_if (pw_or (pt_cmpR op_eq (pe_ix ix_tup (pv 0) pe_int (fun _ _ => rfl)) pe_str (nomark _)) (pw_or1 (pt_cmpR op_eq (pe_ix ix_tup (pv 0) pe_int (fun _ _ => rfl)) pe_str (nomark _)))).pt (pss_one (ps_ret (pe_op op_add pe_int (pe_callB (cr_sum rfl) (by rfl) ml.sum (by decide +kernel) (pa_cons (pe_lc (own := [("_law_part", 1)]) (g := gName 1) (tt := tYes) (te := tCall (spParts K n) [] E0 (tCons (tVar 1) tNil)) rfl scParts.nd (pi_tup (pe_ix ix_tup (pv 0) pe_int (fun _ _ => rfl))) (blkOk_by (N := ["_law_condition_here", "_law_part"]) (sc := defScope (top 49)) (by decide +kernel)) (fun _ _ _ _ _ => pg_name (i := 1) scParts.nd rfl (Or.inl rfl)) (fun _ _ _ _ _ => pts_nil) (fun _ _ _ _ _ => pe_cl D.law_parts G (hr.mono (by omega)) (pa_cons (pv 1) pa_nil))) pa_nil))))) pss_nil)
      (pss_one (ps_ret pe_int)))), ?_⟩
  dsimp only [cxOf, Cx.nox]
  have many : ∀ (a0 b : Addr) (us : List V) (cs : Conds) (k : V) (R : VK), SqT K H a0 [k, .ref b] → SqT K H b us → EncCs K H cs us → szCs cs < n → szCs cs ≤ 100 → (∀ d H' (ns : List Int), Same H H' → H' d = some (.lst (ns.map V.int)) → R (.ref d) H') →
      tLc (iTup K (tOp (rIxT K) (tVar 0) (tC (.int 1)))) (gName 1) tYes (tCall (spParts K n) [] E0 (tCons (tVar 1) tNil)) [1] [some (.ref a0), none] H R := by
    intro a0 b us cs k R h0 h1 h2 hn h100 hR
    have hcl := EncCL.of h2
    refine ⟨_, rfl, a0, _, 1, _, rfl, rfl, h0, rfl, b, rfl, ⟨us, h1⟩, fun d hd => ?_⟩
    refine lc_tup (K := K) (a := b) (xs := us) (fun i H' => Same H H' ∧ ∃ ns : List Int, H' d = some (.lst (ns.map V.int)) ∧ ns.length = i) ⟨same_new hd _, [], upd_same, rfl⟩ (fun i H' _ ⟨z, _⟩ => (TK.of_same z) _ _ h1) ?_ ?_
    · rintro i x H' hi ⟨s1, ns, ed, hns⟩
      have hlt : i < (toL cs).length := by
        rw [← hcl.len]; exact (List.getElem?_eq_some_iff.mp hi).1
      obtain ⟨u, hu, hue⟩ := hcl.at (List.getElem?_eq_getElem hlt)
      rw [hi] at hu
      cases hu
      have hmem := List.getElem_mem hlt
      have hsz1 := szCs_mem hmem
      have hl1 := szL_len (toL cs)
      rw [szL_to] at hl1
      refine ⟨rfl, ?_⟩
      refine st_yes ?_
      repeat ac_rfl
      refine ⟨x, _, rfl, EncC.mono (TK.of_same s1) _ hue, by omega, by omega, fun j H2 s2 => ?_⟩
      refine ⟨_, s2 _ _ ed, small_lt (by rw [List.length_map]; omega), fun b u hb => ?_, ns ++ [j], by rw [upd_same, List.map_append]; rfl, by rw [List.length_append, hns]; rfl⟩
      rw [upd_ne (ne_of_none hb hd)]; exact s2 _ _ (s1 b u hb)
    · rintro H' ⟨s1, ns, ed, _⟩
      exact hR d H' ns s1 ed
  cases c with
  | call m =>
    obtain ⟨a0, rfl, h0⟩ := he
    repeat ac_rfl
    exact q 1 H fun _ _ z => z
  | flag m =>
    obtain ⟨a0, rfl, h0⟩ := he
    repeat ac_rfl
    exact q 1 H fun _ _ z => z
  | not d =>
    obtain ⟨u, ⟨a0, rfl, h0⟩, hd⟩ := he
    have ez : szC (.not d) = szC d + 1 := rfl
    repeat ac_rfl
    refine ⟨u, d, rfl, hd, by omega, by omega, fun i H' s' => ?_⟩
    repeat ac_rfl
    exact q _ H' s'
  | and cs =>
    obtain ⟨b, us, ⟨a0, rfl, h0⟩, h1, h2⟩ := he
    have ez : szC (.and cs) = szCs cs + 1 := rfl
    repeat ac_rfl
    refine many a0 b us cs _ _ h0 h1 h2 (by omega) (by omega) fun d H' ns s' ed => ?_
    repeat ac_rfl
    refine ⟨d, ns, rfl, .inl (.inl ed), ?_⟩
    repeat ac_rfl
    exact q _ H' s'
  | or cs =>
    obtain ⟨b, us, ⟨a0, rfl, h0⟩, h1, h2⟩ := he
    have ez : szC (.or cs) = szCs cs + 1 := rfl
    repeat ac_rfl
    refine many a0 b us cs _ _ h0 h1 h2 (by omega) (by omega) fun d H' ns s' ed => ?_
    repeat ac_rfl
    refine ⟨d, ns, rfl, .inl (.inl ed), ?_⟩
    repeat ac_rfl
    exact q _ H' s'
theorem parts_all (ml : BN mg) (D : DD K mg fa fd) : ∀ n : Nat, FnOk P w K mg base CX0 (n + 1) (fa 49) (fd 49) ["_law_condition_here"] (spParts K n)
  | 0 => fn_none fun vs H Q E ⟨_, _, _, _, h, _⟩ => absurd h (Nat.not_lt_zero _)
  | n + 1 => ok_parts ml D (parts_all ml D n)
end
end K23
namespace K23
open PySem PySem.Spec PyProof.Rows L2 Fl RT
local macro_rules | `(tactic| ac_rfl) => `(tactic| (
  first
    | with_reducible refine Stp.go ?_
    | with_reducible refine st_var (by with_unfolding_all exact rfl) ?_
    | with_reducible refine st_ixt (by with_unfolding_all assumption) (by with_unfolding_all exact rfl) ?_
    | with_reducible refine st_ixl (by with_unfolding_all assumption) (by with_unfolding_all exact rfl) ?_
    | with_reducible refine st_eq (by with_unfolding_all exact rfl) ?_
    | with_reducible refine st_bl ?_
    | with_reducible refine ifb_t ?_
    | with_reducible refine ifb_f ?_
    | with_reducible refine ifs_no (by decide +kernel) ?_
    | with_reducible refine ifs_yes rfl ?_
    | with_reducible refine ifs_yes lab_rfl ?_
    | with_reducible refine ifs_yes num_rfl ?_
    | with_reducible refine ifn_no (by decide +kernel) ?_
    | with_reducible refine ifn_yes rfl ?_
    | with_reducible refine ifnb_t ?_
    | with_reducible refine ifnb_f ?_
    | with_reducible refine st_ne (by with_unfolding_all exact rfl) ?_
    | with_reducible refine st_ix0 (by with_unfolding_all assumption) ?_
    | with_reducible refine st_sl ?_
    | with_reducible refine st_part ?_
    | with_reducible refine st_nopart ?_
    | with_reducible refine st_mulc (by decide) (by decide) ?_
    | with_reducible refine st_modc (by decide) ?_
    | with_reducible refine Or.inl ⟨_, rfl, ?_⟩
    | with_reducible refine ⟨_, rfl, ?_⟩))
theorem cutV_to (xs : List V) (k : Nat) : cutV xs none (some (k : Int)) = xs.take k := by
  unfold cutV
  rw [HT.sIx_none, HT.sIx_nat, List.drop_zero, Nat.sub_zero]
  rcases Nat.le_total k xs.length with h | h
  · rw [Nat.min_eq_left h]
  · rw [Nat.min_eq_right h, List.take_of_length_le (Nat.le_refl _), List.take_of_length_le h]
theorem cutV_from (xs : List V) (k : Nat) : cutV xs (some (k : Int)) none = xs.drop k := by
  unfold cutV
  rw [HT.sIx_none, HT.sIx_nat]
  rcases Nat.le_total k xs.length with h | h
  · rw [Nat.min_eq_left h]
    exact List.take_of_length_le (by rw [List.length_drop]; exact Nat.le_refl _)
  · rw [Nat.min_eq_right h, List.drop_of_length_le (Nat.le_refl _), List.drop_of_length_le h]
    exact List.take_nil
theorem DAt.tk {K : PySem.W.Frag} {H H' : Hp} {T : Tap} {W : Wld} {f0 f3 : Nat} (d : DAt H T W f0 f3) (f : Fr (MD T W) H H') : TK K H H' :=
  f.tk fun b z => by
    obtain ⟨pl, big, tot, h1, _⟩ := d.t
    obtain ⟨f1, f2, f4, f5, h2⟩ := d.fr
    rcases z with z | z
    · rw [z, h1]; exact ⟨fun xs e => (by cases e), fun o u e => (by cases e)⟩
    · rw [z, h2]; exact ⟨fun xs e => (by cases e), fun o u e => (by cases e)⟩
theorem DAt.md {H : Hp} {T : Tap} {W : Wld} {f0 f3 : Nat} (d : DAt H T W f0 f3) {b : Addr} (h : H b = none) : ¬ MD T W b := fun z => by
  have := d.fresh h
  simp only [List.mem_cons, List.not_mem_nil, or_false, not_or] at this
  rcases z with z | z
  · exact this.1 z
  · exact this.2.2.2.1 z
theorem szL_two {cl : List Cond} {p : Nat} {a b : Cond} (h1 : cl[p]? = some a) (h2 : cl[p + 1]? = some b) : szL cl = szL (cl.take p) + szC a + szC b + szL (cl.drop (p + 2)) := by
  have hp : p + 1 < cl.length := (List.getElem?_eq_some_iff.mp h2).1
  have e1 : cl.drop p = a :: cl.drop (p + 1) := by
    rw [List.drop_eq_getElem_cons (by omega)]
    rw [List.getElem?_eq_getElem (by omega)] at h1
    rw [Option.some.inj h1]
  have e2 : cl.drop (p + 1) = b :: cl.drop (p + 2) := by
    rw [List.drop_eq_getElem_cons hp]
    rw [List.getElem?_eq_getElem hp] at h2
    rw [Option.some.inj h2]
  have e3 : szL cl = szL (cl.take p) + szL (cl.drop p) := by rw [← szL_app, List.take_append_drop]
  rw [e3, e1, e2]
  show _ + (szC a + (szC b + _)) = _
  omega
def spCond (K : PySem.W.Frag) : Sp := fun vs H Q _ => ∃ (T : Tap) (W : Wld) (f0 f3 : Nat) (ga : Addr) (vis : List Nm), vs = [.ref T.a, .ref W.a, .ref ga] ∧ DAt H T W f0 f3 ∧ H ga = some (.lst (vis.map V.str)) ∧ vis.length ≤ 500 ∧ ga ≠ T.a ∧ ga ≠ W.fr ∧
  ∀ (v : V) (c : Cond) H', Fr (MD T W) H H' → DAt H' T W f0 f3 → EncC K H' c v → szC c ≤ 18 → wfC vis c → Q v H'
theorem scCond : FnScope ["_law_tape_here", "_law_world_here", "_law_flags", "_law_limit", "_law_parts_here", "_law_k", "_law_part", "_law_j", "_law_place"] ["_law_tape_here", "_law_world_here", "_law_flags"] (defScope (top 35)) := ⟨rfl, rfl, rfl, by decide +kernel, rfl, by decide +kernel, by decide +kernel⟩
/-- while the parts are made -/
structure CInv (K : PySem.W.Frag) (T : Tap) (W : Wld) (f0 f3 : Nat) (vis : List Nm) (H H' : Hp) (pa : Addr) (us : List V) (cl : List Cond) : Prop where
  f : Fr (MD T W) H H'
  d : DAt H' T W f0 f3
  n : H pa = none
  p : H' pa = some (.lst us)
  c : EncCL K H' cl us
  w : ∀ c ∈ cl, wfC vis c
section
variable {K : PySem.W.Frag} {T : Tap} {W : Wld} {f0 f3 : Nat} {vis : List Nm} {H H1 H2 : Hp} {pa : Addr} {us : List V} {cl : List Cond}
theorem CInv.go (C : CInv K T W f0 f3 vis H H1 pa us cl) (d0 : DAt H T W f0 f3) (f : Fr (MD T W) H1 H2) (d : DAt H2 T W f0 f3) : CInv K T W f0 f3 vis H H2 pa us cl :=
  ⟨C.f.trans f, d, C.n, f _ _ C.p (d0.md C.n), C.c.mono (C.d.tk f), C.w⟩
theorem CInv.same (C : CInv K T W f0 f3 vis H H1 pa us cl) (s : Same H1 H2) : CInv K T W f0 f3 vis H H2 pa us cl :=
  ⟨C.f.trans (Fr.of_same s), C.d.same s, C.n, s _ _ C.p, C.c.mono (TK.of_same s), C.w⟩
theorem CInv.snoc (C : CInv K T W f0 f3 vis H H1 pa us cl) (d0 : DAt H T W f0 f3) {v : V} {c : Cond} (he : EncC K H1 c v) (hw : wfC vis c) : CInv K T W f0 f3 vis H (upd H1 pa (.lst (us ++ [v]))) pa (us ++ [v]) (cl ++ [c]) := by
  have kp : TK K H1 (upd H1 pa (.lst (us ++ [v]))) := TK.put _ C.p (fun _ z => (by cases z)) fun _ _ z => (by cases z)
  exact ⟨C.f.upd (.inr C.n), C.d.oth (d0.fresh C.n), C.n, upd_same, (C.c.mono kp).app ⟨v, [], rfl, EncC.mono kp c he, rfl⟩, fun x hx => by
    rcases List.mem_append.mp hx with z | z
    · exact C.w x z
    · rw [List.mem_singleton.mp z]; exact hw⟩
end
section
variable {P : Program} {w : World} {K : PySem.W.Frag} {mg : Str → Option Value} {base : Heap} {fa : Nat → Addr} {fd : Nat → FuncData}
theorem ok_cond (ml : BN mg) (D : DD K mg fa fd) : FnOk P w K mg base CX0 21 (fa 35) (fd 35) ["_law_tape_here", "_law_world_here", "_law_flags"] (spCond K) := by
  have G_law_draw := ok_draw (P := P) (w := w) (base := base) ml D.law_draw
  have G_law_leaf := ok_leaf (P := P) (w := w) (base := base) ml D
  have G_law_joined := ok_joined (P := P) (w := w) (base := base) ml D
  have G_law_parts := parts_all (P := P) (w := w) (base := base) ml D 19
  refine D.law_condition.F.ok scCond (fun vs H Q E h => ?_) (fun cdv A outer s H vs Q E hr h => ?_)
  · obtain ⟨T, W, f0, f3, ga, vis, rfl, _⟩ := h
    rfl
  obtain ⟨T, W, f0, f3, ga, vis, rfl, d, hg, hvl, hgt, hgf, q⟩ := h
  refine ⟨_, (pss_cons (ps_set (i := 3) scCond.nd rfl (Or.inl rfl) pe_int)
      (pss_cons (ps_if (pt_not (pt_truth (pv 2) (fun _ => rfl))) (pss_one (ps_set (i := 3) scCond.nd rfl (Or.inl rfl) (pe_callB (call_min2 rfl) (by rfl) ml.min boot_min (pa_cons pe_int (pa_cons (pe_ix ix_list (pe_ix ix_list (pv 1) pe_int (fun _ _ => rfl)) pe_int (fun _ _ => rfl)) pa_nil))))) pss_nil)
      (pss_cons (ps_if (pt_cmpR op_lt (pe_ix ix_list (pe_ix ix_list (pv 1) pe_int (fun _ _ => rfl)) pe_int (fun _ _ => rfl)) pe_int (nomark _)) (pss_cons (ps_asg (pe_op op_sub (pe_ix ix_list (pe_ix ix_list (pv 1) pe_int (fun _ _ => rfl)) pe_int (fun _ _ => rfl)) pe_int) (pg_sub (pe_ix ix_list (pv 1) pe_int (fun _ _ => rfl)) pe_int set_list))
      (pss_one (ps_ret (pe_cl D.law_leaf G_law_leaf (hr.mono (by omega)) (pa_cons (pv 0) (pa_cons (pv 1) (pa_cons (pv 2) pa_nil))))))) pss_nil)
      (pss_cons (ps_set (i := 4) scCond.nd rfl (Or.inl rfl) (pe_lst pa_nil))
      (pss_cons (ps_for PassesOwn.never rfl (pi_range1 rfl ml.range (pa_cons (pe_op op_add pe_int (pe_cl D.law_draw G_law_draw (hr.mono (by omega)) (pa_cons (pv 0) (pa_cons (pe_ix ix_list (pe_lst (pa_cons pe_int (pa_cons pe_int (pa_cons (pv 3) pa_nil)))) (pe_cl D.law_draw G_law_draw (hr.mono (by omega)) (pa_cons (pv 0) (pa_cons pe_int pa_nil))) (fun _ _ => rfl)) pa_nil)))) pa_nil)) (pg_name (i := 5) scCond.nd rfl (Or.inl rfl)) (pss_cons (ps_set (i := 6) scCond.nd rfl (Or.inl rfl) (pe_cl D.law_leaf G_law_leaf (hr.mono (by omega)) (pa_cons (pv 0) (pa_cons (pv 1) (pa_cons (pv 2) pa_nil)))))
      (pss_cons (ps_for PassesOwn.never rfl (pi_range1 rfl ml.range (pa_cons (pe_ix ix_list (pe_lst (pa_cons pe_int (pa_cons pe_int (pa_cons pe_int (pa_cons pe_int (pa_cons pe_int pa_nil)))))) (pe_cl D.law_draw G_law_draw (hr.mono (by omega)) (pa_cons (pv 0) (pa_cons pe_int pa_nil))) (fun _ _ => rfl)) pa_nil)) (pg_name (i := 7) scCond.nd rfl (Or.inl rfl)) (pss_one (ps_set (i := 6) scCond.nd rfl (Or.inl rfl) (pe_tup (pa_cons pe_str (pa_cons (pv 6) pa_nil))))))
      (pss_one (ps_expr (pe_bm PySem.F.plainAttrs_list PySem.F.slot_list_append PySem.F.type_list_append mt_append (pv 4) (pa_cons (pv 6) pa_nil)))))))
      (pss_cons (ps_for PassesOwn.never rfl (pi_range1 rfl ml.range (pa_cons pe_int pa_nil)) (pg_name (i := 5) scCond.nd rfl (Or.inl rfl)) (pss_one (ps_if (pt_cmpR op_gt (pe_len ml.len (pv 4)) pe_int (nomark _)) (pss_cons (ps_set (i := 8) scCond.nd rfl (Or.inl rfl) (pe_cl D.law_draw G_law_draw (hr.mono (by omega)) (pa_cons (pv 0) (pa_cons (pe_op op_sub (pe_len ml.len (pv 4)) pe_int) pa_nil))))
      (pss_cons (ps_set (i := 6) scCond.nd rfl (Or.inl rfl) (pe_cl D.law_joined G_law_joined (hr.mono (by omega)) (pa_cons (pe_ix ix_list (pe_lst (pa_cons pe_str (pa_cons pe_str pa_nil))) (pe_cl D.law_draw G_law_draw (hr.mono (by omega)) (pa_cons (pv 0) (pa_cons pe_int pa_nil))) (fun _ _ => rfl)) (pa_cons (pe_ix ix_list (pv 4) (pv 8) (fun _ _ => rfl)) (pa_cons (pe_ix ix_list (pv 4) (pe_op op_add (pv 8) pe_int) (fun _ _ => rfl)) pa_nil)))))
      (pss_cons (ps_if (pt_cmpR op_eq (pe_cl D.law_draw G_law_draw (hr.mono (by omega)) (pa_cons (pv 0) (pa_cons pe_int pa_nil))) pe_int (nomark _)) (pss_one (ps_set (i := 6) scCond.nd rfl (Or.inl rfl) (pe_tup (pa_cons pe_str (pa_cons (pv 6) pa_nil))))) pss_nil)
      (pss_one (ps_set (i := 4) scCond.nd rfl (Or.inl rfl) (pe_op op_cat (pe_op op_cat (pe_slice sl_list (pv 4) po_none (po_some (pv 8))) (pe_lst (pa_cons (pv 6) pa_nil))) (pe_slice sl_list (pv 4) (po_some (pe_op op_add (pv 8) pe_int)) po_none))))))) pss_nil)))
      (pss_cons (ps_asg (pe_op op_sub (pe_ix ix_list (pe_ix ix_list (pv 1) pe_int (fun _ _ => rfl)) pe_int (fun _ _ => rfl)) (pe_cl D.law_parts G_law_parts (hr.mono (by omega)) (pa_cons (pe_ix ix_list (pv 4) pe_int (fun _ _ => rfl)) pa_nil))) (pg_sub (pe_ix ix_list (pv 1) pe_int (fun _ _ => rfl)) pe_int set_list))
      (pss_one (ps_ret (pe_ix ix_list (pv 4) pe_int (fun _ _ => rfl))))))))))), ?_⟩
  dsimp only [cxOf, Cx.nox]
  have hgm : ¬ MD T W ga := fun z => by
    rcases z with z | z
    · exact hgt z
    · exact hgf z
  refine seq_cut2 (fun σ' H' => H' = H ∧ ∃ lim : Int, σ' = [some (.ref T.a), some (.ref W.a), some (.ref ga), some (.int lim), none, none, none, none, none] ∧ lim ≤ 4) ?_ ?_
  rotate_left
  · intro N hN
    obtain ⟨g1, g2, g4, g5, efr⟩ := d.fr
    repeat ac_rfl
    refine ⟨!(vis.map V.str).isEmpty, .inl ⟨_, .inl (.inl hg), rfl⟩, ?_⟩
    refine ifb (fun hz => ?_) (fun hz => ?_)
    · repeat ac_rfl
      refine st_ixl (.inl (.inl d.w)) rfl ?_
      repeat ac_rfl
      refine st_ixl (.inl (.inl efr)) rfl ?_
      repeat ac_rfl
      refine ⟨_, _, rfl, ?_⟩
      repeat ac_rfl
      exact hN _ _ ⟨rfl, _, rfl, by split <;> omega⟩
    · repeat ac_rfl
      exact hN _ _ ⟨rfl, _, rfl, by decide⟩
  rintro _ H0 ⟨hH, lim, rfl, hlim⟩
  rw [hH]
  clear hH H0
  refine seq_cut (fun σ' H' => H' = H ∧ σ' = [some (.ref T.a), some (.ref W.a), some (.ref ga), some (.int lim), none, none, none, none, none]) ?_ ?_
  rotate_left
  · intro N hN
    obtain ⟨g1, g2, g4, g5, efr⟩ := d.fr
    repeat ac_rfl
    refine st_ixl (.inl (.inl d.w)) rfl ?_
    repeat ac_rfl
    refine st_ixl (.inl (.inl efr)) rfl ?_
    repeat ac_rfl
    refine ifb (fun hz => ?_) (fun hz => ?_)
    · repeat ac_rfl
      refine st_ixl (.inl (.inl d.w)) rfl ?_
      repeat ac_rfl
      refine st_ixl (.inl (.inl efr)) rfl ?_
      repeat ac_rfl
      refine ⟨_, rfl, W.a, _, 0, .ref W.fr, rfl, rfl, .inl (.inl d.w), rfl, W.fr, _, 5, 5, rfl, rfl, efr, rfl, ?_⟩
      have d2 := d.put f0 f3 g1 g2 g4 (g5 - 1)
      have es : [natV f0, .int g1, .int g2, natV f3, .int g4, .int g5].set 5 (.int (g5 - 1)) = [natV f0, .int g1, .int g2, natV f3, .int g4, .int (g5 - 1)] := rfl
      rw [es]
      have f2 : Fr (MD T W) H (upd H W.fr (.lst [natV f0, .int g1, .int g2, natV f3, .int g4, .int (g5 - 1)])) := Fr.refl.upd (.inl (.inr rfl))
      have eg2 := f2 _ _ hg hgm
      generalize upd H W.fr (.lst [natV f0, .int g1, .int g2, natV f3, .int g4, .int (g5 - 1)]) = H2 at d2 f2 eg2
      repeat ac_rfl
      refine ⟨T, W, f0, f3, ga, vis, rfl, d2, eg2, hvl, hgt, hgf, fun t c H3 f3' d3 he hs hw => ?_⟩
      exact q _ c H3 (f2.trans f3') d3 he (by omega) hw
    · repeat ac_rfl
      exact hN _ _ ⟨rfl, rfl⟩
  rintro _ H0 ⟨hH, rfl⟩
  rw [hH]
  clear hH H0
  repeat ac_rfl
  refine ⟨small3 (Nat.zero_le _), fun pa hpa => ?_⟩
  have C1 : CInv K T W f0 f3 vis H (upd H pa (.lst [])) pa [] [] := ⟨Fr.of_same (same_new hpa _), d.same (same_new hpa _), hpa, upd_same, rfl, fun c h => absurd h List.not_mem_nil⟩
  generalize upd H pa (.lst []) = H1 at C1
  refine st_name ?_
  with_reducible refine seq_cut (fun σ' H' => ∃ (pa : Addr) (us : List V) (cl : List Cond) (o5 o6 o7 : Option V), σ' = [some (.ref T.a), some (.ref W.a), some (.ref ga), some (.int lim), some (.ref pa), o5, o6, o7, none] ∧ CInv K T W f0 f3 vis H H' pa us cl ∧ 0 < cl.length ∧ cl.length ≤ 4 ∧ szL cl ≤ 12) ?_ ?_
  rotate_left
  · intro N hN
    refine ⟨_, rfl, _, rfl, smN rfl, fun lp hlp => ?_⟩
    have s2 := same_new hlp (.lst [.int 1, .int 1, .int lim])
    have e2 : (upd H1 lp (.lst [.int 1, .int 1, .int lim])) lp = some (.lst [.int 1, .int 1, .int lim]) := upd_same
    have nlp := C1.d.t.ne hlp
    have C2 := C1.same s2
    show tCall spDraw [] E0 _ _ (upd H1 lp (.lst [.int 1, .int 1, .int lim])) _
    generalize upd H1 lp (.lst [.int 1, .int 1, .int lim]) = H2 at s2 e2 C2
    repeat ac_rfl
    refine ⟨T, _, rfl, C2.d.t, by decide, fun r H3 hr3 f3' t3 => ?_⟩
    have C3 := C2.go d (MT.md f3') (C2.d.draw f3' t3)
    have hr3' : r < 3 := by omega
    obtain ⟨m, hat, hm⟩ : ∃ m : Int, atI [V.int 1, V.int 1, V.int lim] ((r : Nat) : Int) = some (.int m) ∧ m ≤ 4 := by
      match r, hr3' with
      | 0, _ => exact ⟨1, rfl, by decide⟩
      | 1, _ => exact ⟨1, rfl, by decide⟩
      | 2, _ => exact ⟨lim, rfl, hlim⟩
    refine st_ixl (.inl (.inl (f3' _ _ e2 nlp))) hat ?_
    repeat ac_rfl
    refine ⟨T, _, rfl, C3.d.t, by omega, fun r4 H4 hr4 f4 t4 => ?_⟩
    have C4 := C3.go d (MT.md f4) (C3.d.draw f4 t4)
    have hr4' : r4 < 4 := by omega
    repeat ac_rfl
    rw [show (1 : Int) + ((r4 : Nat) : Int) = ((1 + r4 : Nat) : Int) by omega]
    refine ⟨by omega, by omega, for_range (n := 1 + r4) (fun k σ' H' => ∃ (pa : Addr) (us : List V) (cl : List Cond) (o5 o6 o7 : Option V), σ' = [some (.ref T.a), some (.ref W.a), some (.ref ga), some (.int lim), some (.ref pa), o5, o6, o7, none] ∧ CInv K T W f0 f3 vis H H' pa us cl ∧ cl.length = k ∧ szL cl ≤ 3 * k) ⟨pa, [], [], none, none, none, rfl, C4, rfl, Nat.zero_le _⟩ ?_ ?_⟩
    · clear C1 C2 C3 C4 e2 s2 hlp hpa hat t3 t4 f3' f4 H1 H2 H3 H4 pa
      rintro k σ H1 hk ⟨pa, us, cl, o5, o6, o7, rfl, C, hcl, hcz⟩
      rw [Int.zero_add]
      repeat ac_rfl
      refine ⟨T, W, f0, f3, ga, vis, rfl, C.d, C.f _ _ hg hgm, hvl, hgt, hgf, fun t c H2 f2 d2 he hs hw => ?_⟩
      have C2 := C.go d f2 d2
      refine st_name ?_
      with_reducible refine seq_cut (fun σ' H' => ∃ (v : V) (c : Cond) (o7 : Option V), σ' = [some (.ref T.a), some (.ref W.a), some (.ref ga), some (.int lim), some (.ref pa), some (.int k), some v, o7, none] ∧ CInv K T W f0 f3 vis H H' pa us cl ∧ EncC K H' c v ∧ wfC vis c ∧ szC c ≤ 3) ?_ ?_
      · clear C C2 he hs hw
        rintro _ H3 ⟨v, c, o7, rfl, C, he, hw, hs⟩
        repeat ac_rfl
        refine ⟨.inl ⟨rfl, _, .inl (.inl C.p)⟩, ?_⟩
        repeat ac_rfl
        have hul := C.c.len
        refine ⟨pa, _, _, rfl, rfl, C.p, small_lt (by omega), ?_⟩
        refine ⟨pa, us ++ [v], cl ++ [c], _, _, _, rfl, C.snoc d he hw, by rw [List.length_append, List.length_singleton, hcl], ?_⟩
        rw [szL_app]; show _ + (szC c + 0) ≤ _; omega
      intro N2 hN2
      refine ⟨smN rfl, fun lp hlp => ?_⟩
      have s3 := same_new hlp (.lst (([0, 0, 0, 1, 2] : List Nat).map natV))
      have e3 : (upd H2 lp (.lst (([0, 0, 0, 1, 2] : List Nat).map natV))) lp = some (.lst (([0, 0, 0, 1, 2] : List Nat).map natV)) := upd_same
      have nlp := C2.d.t.ne hlp
      have C3 := C2.same s3
      have he3 := EncC.mono (TK.of_same s3) c he
      show tCall spDraw [] E0 _ _ (upd H2 lp (.lst (([0, 0, 0, 1, 2] : List Nat).map natV))) _
      generalize upd H2 lp (.lst (([0, 0, 0, 1, 2] : List Nat).map natV)) = H3 at s3 e3 C3 he3
      repeat ac_rfl
      refine ⟨T, _, rfl, C3.d.t, by decide, fun r H4 hr4 f4 t4 => ?_⟩
      have C4 := C3.go d (MT.md f4) (C3.d.draw f4 t4)
      have he4 := EncC.mono (C3.d.tk (MT.md f4)) c he3
      obtain ⟨z, hat, hz⟩ := pickI (ws := [0, 0, 0, 1, 2]) (r := r) (c := 2) (by show r < 5; omega) (by decide)
      refine st_ixl (.inl (.inl (f4 _ _ e3 nlp))) hat ?_
      repeat ac_rfl
      refine ⟨by omega, by omega, for_range (n := z) (fun j σ' H' => ∃ (v : V) (c : Cond) (o7 : Option V), σ' = [some (.ref T.a), some (.ref W.a), some (.ref ga), some (.int lim), some (.ref pa), some (.int k), some v, o7, none] ∧ CInv K T W f0 f3 vis H H' pa us cl ∧ EncC K H' c v ∧ wfC vis c ∧ szC c ≤ 1 + j) ⟨_, c, _, rfl, C4, he4, hw, by omega⟩ ?_ fun σ' H' ⟨v, c, o7, e, C', he', hw', hs'⟩ => hN2 _ _ ⟨v, c, o7, e, C', he', hw', by omega⟩⟩
      rintro j _ H5 hj ⟨v, c5, o7, rfl, C5, he5, hw5, hs5⟩
      rw [Int.zero_add]
      repeat ac_rfl
      refine ⟨smN rfl, fun t2 ht2 => ?_⟩
      have s6 := same_new ht2 (.tup [.str "not", v])
      exact ⟨_, .not c5, _, rfl, C5.same s6, ⟨v, Tp.of upd_same, EncC.mono (TK.of_same s6) c5 he5⟩, hw5, by show szC c5 + 1 ≤ _; omega⟩
    · rintro σ H5 ⟨pa, us, cl, o5, o6, o7, rfl, C, hcl, hcz⟩
      exact hN _ _ ⟨pa, us, cl, _, _, _, rfl, C, by omega, by omega, by omega⟩
  clear C1 H1 hpa pa
  rintro _ H1 ⟨pa, us, cl, o5, o6, o7, rfl, C, hc0, hc4, hcz⟩
  refine seq_cut (fun σ' H' => ∃ (pa : Addr) (us : List V) (c : Cond) (o5 o6 o7 o8 : Option V), σ' = [some (.ref T.a), some (.ref W.a), some (.ref ga), some (.int lim), some (.ref pa), o5, o6, o7, o8] ∧ CInv K T W f0 f3 vis H H' pa us [c] ∧ szC c ≤ 18) ?_ ?_
  rotate_left
  · intro N hN
    refine ⟨(3 : Int), rfl, by decide, by decide, for_range (n := 3) (fun k σ' H' => ∃ (pa : Addr) (us : List V) (cl : List Cond) (o5 o6 o7 o8 : Option V), σ' = [some (.ref T.a), some (.ref W.a), some (.ref ga), some (.int lim), some (.ref pa), o5, o6, o7, o8] ∧ CInv K T W f0 f3 vis H H' pa us cl ∧ 0 < cl.length ∧ cl.length ≤ max 1 (4 - k) ∧ szL cl ≤ 12 + 2 * k) ⟨pa, us, cl, o5, o6, o7, none, rfl, C, hc0, by omega, hcz⟩ ?_ ?_⟩
    · clear C hc0 hc4 hcz H1 pa us cl o5 o6 o7
      rintro k σ H1 hk ⟨pa, us, cl, o5, o6, o7, o8, rfl, C, hc0, hck, hcz⟩
      have hul := C.c.len
      repeat ac_rfl
      refine ⟨pa, _, rfl, .inl (.inl (.inl C.p)), ?_⟩
      repeat ac_rfl
      refine ifb (fun hz => ?_) (fun hz => ?_)
      · have h2l : 1 < cl.length := by
          have := of_decide_eq_true hz
          omega
        repeat ac_rfl
        refine ⟨pa, _, rfl, .inl (.inl (.inl C.p)), ?_⟩
        repeat ac_rfl
        refine ⟨T, _, rfl, C.d.t, by omega, fun r H2 hr2 f2 t2 => ?_⟩
        have C2 := C.go d (MT.md f2) (C.d.draw f2 t2)
        have hrl : r + 1 < cl.length := by omega
        repeat ac_rfl
        refine ⟨smN rfl, fun lp hlp => ?_⟩
        have s3 := same_new hlp (.lst [.str (wd false), .str (wd true)])
        have e3 : (upd H2 lp (.lst [.str (wd false), .str (wd true)])) lp = some (.lst [.str (wd false), .str (wd true)]) := upd_same
        have nlp := C2.d.t.ne hlp
        have C3 := C2.same s3
        show tCall spDraw [] E0 _ _ (upd H2 lp (.lst [.str (wd false), .str (wd true)])) _
        generalize upd H2 lp (.lst [.str (wd false), .str (wd true)]) = H3 at s3 e3 C3
        repeat ac_rfl
        refine ⟨T, _, rfl, C3.d.t, by decide, fun r4 H4 hr4 f4 t4 => ?_⟩
        have C4 := C3.go d (MT.md f4) (C3.d.draw f4 t4)
        have hr4' : r4 < 2 := by omega
        obtain ⟨o, hat⟩ : ∃ o, atI [V.str (wd false), V.str (wd true)] ((r4 : Nat) : Int) = some (.str (wd o)) := by
          match r4, hr4' with
          | 0, _ => exact ⟨false, rfl⟩
          | 1, _ => exact ⟨true, rfl⟩
        refine st_ixl (.inl (.inl (f4 _ _ e3 nlp))) hat ?_
        obtain ⟨l, hul1, hel⟩ := C4.c.at (i := r) (List.getElem?_eq_getElem (by omega))
        obtain ⟨u, hul2, heu⟩ := C4.c.at (i := r + 1) (List.getElem?_eq_getElem hrl)
        have htwo := szL_two (List.getElem?_eq_getElem (show r < cl.length by omega)) (List.getElem?_eq_getElem hrl)
        have wl := C.w _ (List.getElem_mem (show r < cl.length by omega))
        have wu := C.w _ (List.getElem_mem hrl)
        generalize cl[r] = c1 at hel htwo wl
        generalize cl[r + 1] = c2 at heu htwo wu
        repeat ac_rfl
        refine st_ixl (.inl (.inl C4.p)) (atI_nat hul1) ?_
        repeat ac_rfl
        rw [show ((r : Nat) : Int) + 1 = ((r + 1 : Nat) : Int) by omega]
        refine st_ixl (.inl (.inl C4.p)) (atI_nat hul2) ?_
        repeat ac_rfl
        refine ⟨o, l, u, c1, c2, vis, rfl, hel, heu, wl, wu, by omega, fun t c H5 s5 he hs hw => ?_⟩
        have C5 := C4.same s5
        clear C C2 C3 C4 hel heu wl wu hul1 hul2 hat f4 t4 e3 s3 hlp f2 t2
        refine st_name ?_
        with_reducible refine seq_cut (fun σ' H' => ∃ (v : V) (c : Cond), σ' = [some (.ref T.a), some (.ref W.a), some (.ref ga), some (.int lim), some (.ref pa), some (.int (k : Int)), some v, o7, some (natV r)] ∧ CInv K T W f0 f3 vis H H' pa us cl ∧ EncC K H' c v ∧ wfC vis c ∧ szC c ≤ szC c1 + szC c2 + 2) ?_ ?_
        rotate_left
        · intro N2 hN2
          repeat ac_rfl
          refine ⟨T, _, rfl, C5.d.t, by decide, fun r6 H6 hr6 f6 t6 => ?_⟩
          have C6 := C5.go d (MT.md f6) (C5.d.draw f6 t6)
          have he6 := EncC.mono (C5.d.tk (MT.md f6)) c he
          repeat ac_rfl
          refine ifb (fun hz => ?_) (fun hz => ?_)
          · repeat ac_rfl
            refine ⟨smN rfl, fun t2 ht2 => ?_⟩
            have s7 := same_new ht2 (.tup [.str "not", .ref t])
            exact hN2 _ _ ⟨_, .not c, by rw [Int.zero_add]; rfl, C6.same s7, ⟨_, Tp.of upd_same, EncC.mono (TK.of_same s7) c he6⟩, hw, by show szC c + 1 ≤ _; omega⟩
          · repeat ac_rfl
            exact hN2 _ _ ⟨_, c, by rw [Int.zero_add]; rfl, C6, he6, hw, by omega⟩
        clear C5 he hs hw
        rintro _ H6 ⟨v, c, rfl, C, he, hw, hs⟩
        repeat ac_rfl
        refine ⟨pa, _, rfl, .inl (.inl C.p), fun la hla => ?_⟩
        rw [cutV_to]
        have s7 := same_new hla (.lst (us.take r))
        have e7 : (upd H6 la (.lst (us.take r))) la = some (.lst (us.take r)) := upd_same
        generalize upd H6 la (.lst (us.take r)) = H7 at s7 e7
        repeat ac_rfl
        refine ⟨smN rfl, fun lb hlb => ?_⟩
        have s8 := same_new hlb (.lst [v])
        have e8 : (upd H7 lb (.lst [v])) lb = some (.lst [v]) := upd_same
        generalize upd H7 lb (.lst [v]) = H8 at s8 e8
        refine ⟨_, _, _, _, rfl, rfl, s8 _ _ e7, e8, small3 (by rw [List.length_take]; show _ + 1 ≤ _; omega), fun lc hlc => ?_⟩
        have s9 := same_new hlc (.lst (us.take r ++ [v]))
        have e9 : (upd H8 lc (.lst (us.take r ++ [v]))) lc = some (.lst (us.take r ++ [v])) := upd_same
        generalize upd H8 lc (.lst (us.take r ++ [v])) = H9 at s9 e9
        have s69 := (s7.trans s8).trans s9
        repeat ac_rfl
        rw [show ((r : Nat) : Int) + 2 = ((r + 2 : Nat) : Int) by omega]
        refine ⟨pa, _, rfl, .inl (.inl (s69 _ _ C.p)), fun ld hld => ?_⟩
        rw [cutV_from]
        have s10 := same_new hld (.lst (us.drop (r + 2)))
        have e10 : (upd H9 ld (.lst (us.drop (r + 2)))) ld = some (.lst (us.drop (r + 2))) := upd_same
        generalize upd H9 ld (.lst (us.drop (r + 2))) = H10 at s10 e10
        refine ⟨_, _, _, _, rfl, rfl, s10 _ _ e9, e10, small3 (by rw [List.length_append, List.length_take, List.length_drop, List.length_singleton]; omega), fun pn hpn => ?_⟩
        have s11 := same_new hpn (.lst (us.take r ++ [v] ++ us.drop (r + 2)))
        have S := (s69.trans s10).trans s11
        have kS : TK K H6 (upd H10 pn (.lst (us.take r ++ [v] ++ us.drop (r + 2)))) := TK.of_same S
        have C10 := C.same (s69.trans s10)
        repeat ac_rfl
        refine ⟨pn, us.take r ++ [v] ++ us.drop (r + 2), cl.take r ++ [c] ++ cl.drop (r + 2), _, _, _, _, rfl, ⟨C.f.trans (Fr.of_same S), C.d.same S, none_fr C10.f (C10.d.md hpn) hpn, upd_same, (((C.c.take r).app (show EncCL K H6 [c] [v] from ⟨v, [], rfl, he, rfl⟩)).app (C.c.drop (r + 2))).mono kS, fun x hx => ?_⟩, ?_, ?_, ?_⟩
        · rcases List.mem_append.mp hx with z | z
          · rcases List.mem_append.mp z with z | z
            · exact C.w x (List.mem_of_mem_take z)
            · rw [List.mem_singleton.mp z]; exact hw
          · exact C.w x (List.mem_of_mem_drop z)
        · simp only [List.length_append, List.length_singleton]; omega
        · simp only [List.length_append, List.length_singleton, List.length_take, List.length_drop]; omega
        · rw [szL_app, szL_app]
          have e0 : szL [c] = szC c := rfl
          omega
      · have h1l : cl.length = 1 := by
          have := of_decide_eq_false hz
          omega
        repeat ac_rfl
        exact ⟨pa, us, cl, _, _, _, _, rfl, C, hc0, by omega, by omega⟩
    · rintro σ H5 ⟨pa, us, cl, o5, o6, o7, o8, rfl, C, hc0, hck, hcz⟩
      have h1l : cl.length = 1 := by omega
      obtain ⟨c, rfl⟩ := List.length_eq_one_iff.mp h1l
      refine hN _ _ ⟨pa, us, c, _, _, _, _, rfl, C, ?_⟩
      have e0 : szL [c] = szC c := rfl
      omega
  clear C hcz hc4 hc0 H1
  rintro _ H1 ⟨pa, us, c, o5, o6, o7, o8, rfl, C, hcz⟩
  obtain ⟨v, t, rfl, he, ht⟩ := C.c
  cases (show t = [] from ht)
  have lp : SqL K H1 pa [v] := .inl (.inl C.p)
  obtain ⟨g1, g2, g4, g5, efr⟩ := C.d.fr
  repeat ac_rfl
  refine st_ixl (.inl (.inl C.d.w)) rfl ?_
  repeat ac_rfl
  refine st_ixl (.inl (.inl efr)) rfl ?_
  repeat ac_rfl
  refine ⟨v, c, rfl, he, by omega, by omega, fun i H2 s2 => ?_⟩
  have C2 := C.same s2
  have efr2 := s2 _ _ efr
  repeat ac_rfl
  refine ⟨_, rfl, W.a, _, 0, .ref W.fr, rfl, rfl, .inl (.inl C2.d.w), rfl, W.fr, _, 5, 5, rfl, rfl, efr2, rfl, ?_⟩
  have d3 := C2.d.put f0 f3 g1 g2 g4 (g5 - i)
  have es : [natV f0, .int g1, .int g2, natV f3, .int g4, .int g5].set 5 (.int (g5 - i)) = [natV f0, .int g1, .int g2, natV f3, .int g4, .int (g5 - i)] := rfl
  rw [es]
  have f3' : Fr (MD T W) H2 (upd H2 W.fr (.lst [natV f0, .int g1, .int g2, natV f3, .int g4, .int (g5 - i)])) := Fr.refl.upd (.inl (.inr rfl))
  have C3 := C2.go d f3' d3
  obtain ⟨v', t', hvt, he3, ht'⟩ := C3.c
  cases hvt
  generalize upd H2 W.fr (.lst [natV f0, .int g1, .int g2, natV f3, .int g4, .int (g5 - i)]) = H3 at C3 he3
  have lp3 : SqL K H3 pa [v] := .inl (.inl C3.p)
  repeat ac_rfl
  exact q v c H3 C3.f C3.d he3 hcz (C3.w c List.mem_cons_self)
end
end K23
namespace K23
open PySem PySem.Spec PyProof.Rows L2 Fl RT
local macro_rules | `(tactic| ac_rfl) => `(tactic| (
  first
    | with_reducible refine Stp.go ?_
    | with_reducible refine st_var (by with_unfolding_all exact rfl) ?_
    | with_reducible refine st_ixt (by with_unfolding_all assumption) (by with_unfolding_all exact rfl) ?_
    | with_reducible refine st_ixl (by with_unfolding_all assumption) (by with_unfolding_all exact rfl) ?_
    | with_reducible refine st_eq (by with_unfolding_all exact rfl) ?_
    | with_reducible refine st_bl ?_
    | with_reducible refine ifb_t ?_
    | with_reducible refine ifb_f ?_
    | with_reducible refine ifs_no (by decide +kernel) ?_
    | with_reducible refine ifs_yes rfl ?_
    | with_reducible refine ifs_yes lab_rfl ?_
    | with_reducible refine ifs_yes num_rfl ?_
    | with_reducible refine ifn_no (by decide +kernel) ?_
    | with_reducible refine ifn_yes rfl ?_
    | with_reducible refine ifnb_t ?_
    | with_reducible refine ifnb_f ?_
    | with_reducible refine st_ne (by with_unfolding_all exact rfl) ?_
    | with_reducible refine st_ix0 (by with_unfolding_all assumption) ?_
    | with_reducible refine st_sl ?_
    | with_reducible refine st_part ?_
    | with_reducible refine st_nopart ?_
    | with_reducible refine st_mulc (by decide) (by decide) ?_
    | with_reducible refine st_modc (by decide) ?_
    | with_reducible refine Or.inl ⟨_, rfl, ?_⟩
    | with_reducible refine ⟨_, rfl, ?_⟩))
def spStop (K : PySem.W.Frag) : Sp := fun vs H Q _ => ∃ (T : Tap) (W : Wld) (f0 f3 lp : Nat), vs = [.ref T.a, .ref W.a, natV lp] ∧ DAt H T W f0 f3 ∧
  ∀ (v : V) (s : Stm) H', Fr (MT T) H H' → DAt H' T W f0 f3 → EncS K H' s v → szS s = 1 → letsS s = 0 → addsS s = [] → (∀ vis own la, wfS vis own lp la s) → Q v H'
def sev (T : Tap) (W : Wld) : List Addr := [T.a, T.sa, W.a, W.fr, W.ca, W.la, W.fa]
def MD2 (T : Tap) (W : Wld) (ga oa : Addr) : Addr → Prop := fun b => MD T W b ∨ b = ga ∨ b = oa
def spBd (K : PySem.W.Frag) (n : Nat) : Sp := fun vs H Q _ => ∃ (T : Tap) (W : Wld) (f0 f3 : Nat) (ga : Addr) (vis : List Nm) (lp : Nat) (la : Bool) (dep : Nat), vs = [.ref T.a, .ref W.a, .ref ga, natV lp, .bl la, natV dep] ∧ DAt H T W f0 f3 ∧ H ga = some (.lst (vis.map V.str)) ∧ ga ∉ sev T W ∧ vis.length + f0 ≤ 100 ∧ dep < n ∧
  ∀ (v : V) (ss : Stms) (g0 g3 : Nat) H', Fr (MD T W) H H' → DAt H' T W g0 g3 → EncR K H' ss v → wfR vis [] lp la ss → szR ss + g0 ≤ f0 → letsR ss + g3 ≤ f3 → Q v H'
def spStm (K : PySem.W.Frag) (n : Nat) : Sp := fun vs H Q _ => ∃ (T : Tap) (W : Wld) (f0 f3 : Nat) (ga oa : Addr) (vis own : List Nm) (lp : Nat) (la : Bool) (dep : Nat), vs = [.ref T.a, .ref W.a, .ref ga, .ref oa, natV lp, .bl la, natV dep] ∧ DAt H T W f0 f3 ∧ H ga = some (.lst (vis.map V.str)) ∧ H oa = some (.lst (own.map V.str)) ∧ ga ∉ sev T W ∧ oa ∉ sev T W ∧ ga ≠ oa ∧ vis.length + f0 ≤ 100 ∧ own.length ≤ 200 ∧ dep < n ∧
  ∀ (v : V) (s : Stm) (g0 g3 : Nat) H', Fr (MD2 T W ga oa) H H' → DAt H' T W g0 g3 → EncS K H' s v → wfS vis own lp la s → szS s + g0 ≤ f0 + 1 → letsS s + g3 ≤ f3 → H' ga = some (.lst ((vis ++ addsS s).map V.str)) → H' oa = some (.lst ((own ++ addsS s).map V.str)) → Q v H'
def spNest (K : PySem.W.Frag) (n : Nat) : Sp := fun vs H Q _ => ∃ (T : Tap) (W : Wld) (f0 f3 : Nat) (ga : Addr) (vis : List Nm) (lp : Nat) (la : Bool) (dep : Nat), vs = [.ref T.a, .ref W.a, .ref ga, natV lp, .bl la, natV dep] ∧ DAt H T W f0 f3 ∧ H ga = some (.lst (vis.map V.str)) ∧ ga ∉ sev T W ∧ vis.length + f0 ≤ 100 ∧ 0 < dep ∧ dep < n ∧
  ∀ (v : V) (s : Stm) (g0 g3 : Nat) H', Fr (MD T W) H H' → DAt H' T W g0 g3 → EncS K H' s v → (∀ own, wfS vis own lp la s) → addsS s = [] → szS s + g0 ≤ f0 + 1 → letsS s + g3 ≤ f3 → Q v H'
theorem sev_md {T : Tap} {W : Wld} {b : Addr} (h : b ∉ sev T W) : ¬ MD T W b := fun z => by
  unfold sev at h
  simp only [List.mem_cons, List.not_mem_nil, or_false, not_or] at h
  rcases z with z | z
  · exact h.1 z
  · exact h.2.2.2.1 z
theorem sev_ta {T : Tap} {W : Wld} {b : Addr} (h : b ∉ sev T W) : b ≠ T.a ∧ b ≠ W.fr := ⟨fun z => sev_md h (.inl z), fun z => sev_md h (.inr z)⟩
theorem scStop : FnScope ["_law_tape_here", "_law_world_here", "_law_loops", "_law_kind", "_law_label"] ["_law_tape_here", "_law_world_here", "_law_loops"] (defScope (top 36)) := ⟨rfl, rfl, rfl, by decide +kernel, rfl, by decide +kernel, by decide +kernel⟩
section
variable {P : Program} {w : World} {K : PySem.W.Frag} {mg : Str → Option Value} {base : Heap} {fa : Nat → Addr} {fd : Nat → FuncData}
theorem ok_stop (ml : BN mg) (D : DD K mg fa fd) : FnOk P w K mg base CX0 2 (fa 36) (fd 36) ["_law_tape_here", "_law_world_here", "_law_loops"] (spStop K) := by
  have G_law_draw := ok_draw (P := P) (w := w) (base := base) ml D.law_draw
  refine D.law_stop.F.ok scStop (fun vs H Q E h => ?_) (fun cdv A outer s H vs Q E hr h => ?_)
  · obtain ⟨T, W, f0, f3, lp, rfl, _⟩ := h
    rfl
  obtain ⟨T, W, f0, f3, lp, rfl, d, q⟩ := h
  refine ⟨_, (pss_cons (ps_set (i := 3) scStop.nd rfl (Or.inl rfl) (pe_cl D.law_draw G_law_draw (hr.mono (by omega)) (pa_cons (pv 0) (pa_cons pe_int pa_nil))))
      (pss_cons (ps_if (pt_cmpR op_eq (pv 3) pe_int (nomark _)) (pss_one (ps_ret (pe_tup (pa_cons pe_str (pa_cons (pe_ix ix_list (pe_lst (pa_cons pe_non (pa_cons pe_int (pa_cons pe_int (pa_cons pe_int (pa_cons pe_int (pa_cons (pe_cl D.law_draw G_law_draw (hr.mono (by omega)) (pa_cons (pv 0) (pa_cons pe_int pa_nil))) pa_nil))))))) (pe_cl D.law_draw G_law_draw (hr.mono (by omega)) (pa_cons (pv 0) (pa_cons pe_int pa_nil))) (fun _ _ => rfl)) pa_nil))))) pss_nil)
      (pss_cons (ps_set (i := 4) scStop.nd rfl (Or.inl rfl) (pe_ix ix_list (pe_ix ix_list (pv 1) pe_int (fun _ _ => rfl)) (pe_cl D.law_draw G_law_draw (hr.mono (by omega)) (pa_cons (pv 0) (pa_cons (pe_len ml.len (pe_ix ix_list (pv 1) pe_int (fun _ _ => rfl))) pa_nil))) (fun _ _ => rfl)))
      (pss_cons (ps_if (pw_and (pt_cmpR op_gt (pv 2) pe_int (nomark _)) (pw_and1 (pt_cmpR op_eq (pe_cl D.law_draw G_law_draw (hr.mono (by omega)) (pa_cons (pv 0) (pa_cons pe_int pa_nil))) pe_int (nomark _)))).pt (pss_one (ps_set (i := 4) scStop.nd rfl (Or.inl rfl) pe_non)) pss_nil)
      (pss_one (ps_ret (pe_tup (pa_cons (pe_ix ix_list (pe_lst (pa_cons pe_str (pa_cons pe_str pa_nil))) (pe_op op_fdiv (pv 3) pe_int) (fun _ _ => rfl)) (pa_cons (pv 4) pa_nil))))))))), ?_⟩
  dsimp only [cxOf, Cx.nox]
  repeat ac_rfl
  refine ⟨T, _, rfl, d.t, by decide, fun kd H1 hk1 f1 t1 => ?_⟩
  have d1 := d.draw f1 t1
  repeat ac_rfl
  refine ifb (fun hz => ?_) (fun hz => ?_)
  · repeat ac_rfl
    refine ⟨T, _, rfl, d1.t, by decide, fun k2 H2 hk2 f2 t2 => ?_⟩
    have d2 := d1.draw f2 t2
    repeat ac_rfl
    refine ⟨smN rfl, fun lq hlq => ?_⟩
    have s3 := same_new hlq (.lst [.non, .int 0, .int 9, .int 10, .int 99, natV k2])
    have e3 : (upd H2 lq (.lst [.non, .int 0, .int 9, .int 10, .int 99, natV k2])) lq = some (.lst [.non, .int 0, .int 9, .int 10, .int 99, natV k2]) := upd_same
    have d3 := d2.same s3
    have nlq := d2.t.ne hlq
    generalize upd H2 lq (.lst [.non, .int 0, .int 9, .int 10, .int 99, natV k2]) = H3 at s3 e3 d3
    repeat ac_rfl
    refine ⟨T, _, rfl, d3.t, by decide, fun k4 H4 hk4 f4 t4 => ?_⟩
    have d4 := d3.draw f4 t4
    have hk4' : k4 < 6 := by omega
    obtain ⟨n, hat, hn⟩ : ∃ n : Option Int, atI [V.non, V.int 0, V.int 9, V.int 10, V.int 99, natV k2] ((k4 : Nat) : Int) = some (numV n) ∧ ∀ k, n = some k → 0 ≤ k ∧ k < 100 := by
      match k4, hk4' with
      | 0, _ => exact ⟨none, rfl, fun k e => by cases e⟩
      | 1, _ => exact ⟨some 0, rfl, fun k e => by cases e; decide⟩
      | 2, _ => exact ⟨some 9, rfl, fun k e => by cases e; decide⟩
      | 3, _ => exact ⟨some 10, rfl, fun k e => by cases e; decide⟩
      | 4, _ => exact ⟨some 99, rfl, fun k e => by cases e; decide⟩
      | 5, _ => exact ⟨some k2, rfl, fun k e => by cases e; omega⟩
    refine st_ixl (.inl (.inl (f4 _ _ e3 nlq))) hat ?_
    repeat ac_rfl
    refine ⟨smN rfl, fun t ht => ?_⟩
    have s5 := same_new ht (.tup [.str "return", numV n])
    exact q _ (.ret n) _ ((f1.trans (f2.trans ((Fr.of_same s3).trans f4))).trans (Fr.of_same s5)) (d4.same s5) (Tp.of upd_same) rfl rfl rfl fun _ _ _ => hn
  · have hkd : 0 < kd := by
      have := of_decide_eq_false hz
      rcases Nat.eq_zero_or_pos kd with h | h
      · rw [h] at this; exact absurd rfl this
      · exact h
    repeat ac_rfl
    refine st_ixl (.inl (.inl d1.w)) rfl ?_
    repeat ac_rfl
    refine st_ixl (.inl (.inl d1.w)) rfl ?_
    repeat ac_rfl
    refine ⟨W.la, _, rfl, .inl (.inl (.inl d1.l)), ?_⟩
    repeat ac_rfl
    have hl1 := d1.ol.1
    have hl2 := d1.ol.2.1
    refine ⟨T, _, rfl, d1.t, by rw [List.length_map]; omega, fun r H2 hr2 f2 t2 => ?_⟩
    have d2 := d1.draw f2 t2
    rw [List.length_map] at hr2
    have hlt : r < W.ls.length := by omega
    refine st_ixl (.inl (.inl d2.l)) (atI_nat (by rw [List.getElem?_map, List.getElem?_eq_getElem hlt]; rfl)) ?_
    have hnm := d.ol.2.2 _ (List.getElem_mem hlt)
    generalize W.ls[r] = x at hnm
    refine st_name ?_
    with_reducible refine seq_cut (fun σ' H' => ∃ l : Option Nm, σ' = [some (.ref T.a), some (.ref W.a), some (natV lp), some (natV kd), some (labV l)] ∧ Fr (MT T) H H' ∧ DAt H' T W f0 f3 ∧ labOk l ∧ (l = none → 0 < lp)) ?_ ?_
    rotate_left
    · intro N hN
      have one : labOk (some x) := fun n e => by cases e; exact hnm
      repeat ac_rfl
      refine ifb (fun hz => ?_) (fun hz => ?_)
      · have hlp : 0 < lp := by
          have := of_decide_eq_true hz
          omega
        repeat ac_rfl
        refine ⟨T, _, rfl, d2.t, by decide, fun k4 H4 hk4 f4 t4 => ?_⟩
        have d4 := d2.draw f4 t4
        repeat ac_rfl
        refine ifb (fun hz => ?_) (fun hz => ?_)
        · repeat ac_rfl
          exact hN _ _ ⟨none, rfl, f1.trans (f2.trans f4), d4, fun n e => (by cases e), fun _ => hlp⟩
        · repeat ac_rfl
          exact hN _ _ ⟨some x, rfl, f1.trans (f2.trans f4), d4, one, fun e => by cases e⟩
      · repeat ac_rfl
        exact hN _ _ ⟨some x, rfl, f1.trans f2, d2, one, fun e => by cases e⟩
    clear d1 d2 f1 f2 t1 t2 hr2
    rintro _ H2 ⟨l, rfl, f2, d2, hl, hlp⟩
    repeat ac_rfl
    refine ⟨smN rfl, fun lq hlq => ?_⟩
    have s3 := same_new hlq (.lst [.str "break", .str "continue"])
    have e3 : (upd H2 lq (.lst [.str "break", .str "continue"])) lq = some (.lst [.str "break", .str "continue"]) := upd_same
    have d3 := d2.same s3
    generalize upd H2 lq (.lst [.str "break", .str "continue"]) = H3 at s3 e3 d3
    repeat ac_rfl
    refine ⟨_, _, rfl, rfl, ⟨by decide, by decide⟩, ?_⟩
    have hkd' : kd < 5 := by omega
    have fin : ∀ (b : Bool), ∀ t, H3 t = none → Q (.ref t) (upd H3 t (.tup [.str (if b then "break" else "continue"), labV l])) := fun b t ht => by
      have s5 := same_new ht (.tup [.str (if b then "break" else "continue"), labV l])
      cases b with
      | true => exact q _ (.brk l) _ ((f2.trans (Fr.of_same s3)).trans (Fr.of_same s5)) (d3.same s5) (Tp.of upd_same) rfl rfl rfl fun _ _ _ => ⟨hl, hlp⟩
      | false => exact q _ (.cont l) _ ((f2.trans (Fr.of_same s3)).trans (Fr.of_same s5)) (d3.same s5) (Tp.of upd_same) rfl rfl rfl fun _ _ _ => ⟨hl, hlp⟩
    obtain ⟨b, hat⟩ : ∃ b : Bool, atI [V.str ("break" : Str), V.str ("continue" : Str)] (((kd : Nat) : Int) / 3) = some (.str (if b then "break" else "continue")) := by
      match kd, hkd, hkd' with
      | 1, _, _ => exact ⟨true, rfl⟩
      | 2, _, _ => exact ⟨true, rfl⟩
      | 3, _, _ => exact ⟨false, rfl⟩
      | 4, _, _ => exact ⟨false, rfl⟩
    refine st_ixl (.inl (.inl e3)) hat ?_
    repeat ac_rfl
    exact ⟨smN rfl, fin b⟩
end
end K23
namespace K23
open PySem PySem.Spec PyProof.Rows L2 Fl RT
local macro_rules | `(tactic| ac_rfl) => `(tactic| (
  first
    | with_reducible refine Stp.go ?_
    | with_reducible refine st_var (by with_unfolding_all exact rfl) ?_
    | with_reducible refine st_ixt (by with_unfolding_all assumption) (by with_unfolding_all exact rfl) ?_
    | with_reducible refine st_ixl (by with_unfolding_all assumption) (by with_unfolding_all exact rfl) ?_
    | with_reducible refine st_eq (by with_unfolding_all exact rfl) ?_
    | with_reducible refine st_bl ?_
    | with_reducible refine ifb_t ?_
    | with_reducible refine ifb_f ?_
    | with_reducible refine ifs_no (by decide +kernel) ?_
    | with_reducible refine ifs_yes rfl ?_
    | with_reducible refine ifs_yes lab_rfl ?_
    | with_reducible refine ifs_yes num_rfl ?_
    | with_reducible refine ifn_no (by decide +kernel) ?_
    | with_reducible refine ifn_yes rfl ?_
    | with_reducible refine ifnb_t ?_
    | with_reducible refine ifnb_f ?_
    | with_reducible refine st_ne (by with_unfolding_all exact rfl) ?_
    | with_reducible refine st_ix0 (by with_unfolding_all assumption) ?_
    | with_reducible refine st_sl ?_
    | with_reducible refine st_part ?_
    | with_reducible refine st_nopart ?_
    | with_reducible refine st_mulc (by decide) (by decide) ?_
    | with_reducible refine st_modc (by decide) ?_
    | with_reducible refine Or.inl ⟨_, rfl, ?_⟩
    | with_reducible refine ⟨_, rfl, ?_⟩))
theorem scNest : FnScope ["_law_tape_here", "_law_world_here", "_law_flags", "_law_loops", "_law_last", "_law_depth", "_law_free", "_law_choice", "_law_body_here", "_law_label", "_law_condition_here", "_law_second"] ["_law_tape_here", "_law_world_here", "_law_flags", "_law_loops", "_law_last", "_law_depth"] (defScope (top 37)) := ⟨rfl, rfl, rfl, by decide +kernel, rfl, by decide +kernel, by decide +kernel⟩
section
variable {P : Program} {w : World} {K : PySem.W.Frag} {mg : Str → Option Value} {base : Heap} {fa : Nat → Addr} {fd : Nat → FuncData}
theorem ok_nest {n k : Nat} (hk : 21 ≤ k) (ml : BN mg) (D : DD K mg fa fd) (G_law_body : FnOk P w K mg base CX0 k (fa 39) (fd 39) ["_law_tape_here", "_law_world_here", "_law_flags", "_law_loops", "_law_last", "_law_depth"] (spBd K n)) : FnOk P w K mg base CX0 (k + 1) (fa 37) (fd 37) ["_law_tape_here", "_law_world_here", "_law_flags", "_law_loops", "_law_last", "_law_depth"] (spNest K (n + 1)) := by
  have G_law_draw := ok_draw (P := P) (w := w) (base := base) ml D.law_draw
  have G_law_condition := ok_cond (P := P) (w := w) (base := base) ml D
  refine D.law_nest.F.ok scNest (fun vs H Q E h => ?_) (fun cdv A outer s H vs Q E hr h => ?_)
  · obtain ⟨T, W, f0, f3, ga, vis, lp, la, dep, rfl, _⟩ := h
    rfl
  obtain ⟨T, W, f0, f3, ga, vis, lp, la, dep, rfl, d, hg, hga, hvl, hd0, hdn, q⟩ := h
  obtain ⟨e, rfl⟩ : ∃ e, dep = e + 1 := ⟨dep - 1, by omega⟩
  have hde : ((e + 1 : Nat) : Int) - 1 = (e : Int) := by omega
  refine ⟨_, (pss_cons (ps_set (i := 6) scNest.nd rfl (Or.inl rfl) (pe_ix ix_list (pv 1) pe_int (fun _ _ => rfl)))
      (pss_cons (ps_set (i := 7) scNest.nd rfl (Or.inl rfl) (pe_cl D.law_draw G_law_draw (hr.mono (by omega)) (pa_cons (pv 0) (pa_cons pe_int pa_nil))))
      (pss_cons (ps_if (pw_and (pt_cmpR op_lt (pv 7) pe_int (nomark _)) (pw_and (pt_cmpR op_gt (pe_ix ix_list (pv 6) pe_int (fun _ _ => rfl)) pe_int (nomark _)) (pw_and1 (pt_not (pt_val (pv 4)))))).pt (pss_cons (ps_asg (pe_op op_sub (pe_ix ix_list (pv 6) pe_int (fun _ _ => rfl)) pe_int) (pg_sub (pv 6) pe_int set_list))
      (pss_cons (ps_set (i := 8) scNest.nd rfl (Or.inl rfl) (pe_cl D.law_body G_law_body (hr.mono (by omega)) (pa_cons (pv 0) (pa_cons (pv 1) (pa_cons (pv 2) (pa_cons (pv 3) (pa_cons (pv 4) (pa_cons (pe_op op_sub (pv 5) pe_int) pa_nil))))))))
      (pss_one (ps_ret (pe_tup (pa_cons pe_str (pa_cons (pv 8) (pa_cons (pe_cl D.law_body G_law_body (hr.mono (by omega)) (pa_cons (pv 0) (pa_cons (pv 1) (pa_cons (pv 2) (pa_cons (pv 3) (pa_cons pe_bl (pa_cons (pe_op op_sub (pv 5) pe_int) pa_nil))))))) pa_nil)))))))) pss_nil)
      (pss_cons (ps_if (pt_cmpR op_eq (pv 7) pe_int (nomark _)) (pss_one (ps_ret (pe_tup (pa_cons pe_str (pa_cons (pe_cl D.law_body G_law_body (hr.mono (by omega)) (pa_cons (pv 0) (pa_cons (pv 1) (pa_cons (pv 2) (pa_cons (pv 3) (pa_cons (pv 4) (pa_cons (pe_op op_sub (pv 5) pe_int) pa_nil))))))) pa_nil))))) pss_nil)
      (pss_cons (ps_set (i := 9) scNest.nd rfl (Or.inl rfl) (pe_ix ix_list (pe_lst (pa_cons pe_non (pa_cons pe_non (pa_cons (pe_ix ix_list (pe_ix ix_list (pv 1) pe_int (fun _ _ => rfl)) (pe_cl D.law_draw G_law_draw (hr.mono (by omega)) (pa_cons (pv 0) (pa_cons (pe_len ml.len (pe_ix ix_list (pv 1) pe_int (fun _ _ => rfl))) pa_nil))) (fun _ _ => rfl)) pa_nil)))) (pe_cl D.law_draw G_law_draw (hr.mono (by omega)) (pa_cons (pv 0) (pa_cons pe_int pa_nil))) (fun _ _ => rfl)))
      (pss_cons (ps_if (pw_or (pt_cmpR op_eq (pv 7) pe_int (nomark _)) (pw_or1 (pw_and (pt_cmpR op_eq (pe_ix ix_list (pv 6) pe_int (fun _ _ => rfl)) pe_int (nomark _)) (pw_and1 (pt_not (pt_truth (pv 2) (fun _ => rfl))))).pt)).pt (pss_one (ps_ret (pe_tup (pa_cons pe_str (pa_cons (pv 9) (pa_cons (pe_cl D.law_body G_law_body (hr.mono (by omega)) (pa_cons (pv 0) (pa_cons (pv 1) (pa_cons (pv 2) (pa_cons (pe_op op_add (pv 3) pe_int) (pa_cons (pv 4) (pa_cons (pe_op op_sub (pv 5) pe_int) pa_nil))))))) pa_nil)))))) pss_nil)
      (pss_cons (ps_set (i := 10) scNest.nd rfl (Or.inl rfl) (pe_cl D.law_condition G_law_condition (hr.mono (by omega)) (pa_cons (pv 0) (pa_cons (pv 1) (pa_cons (pv 2) pa_nil)))))
      (pss_cons (ps_if (pt_cmpR op_lt (pv 7) pe_int (nomark _)) (pss_cons (ps_set (i := 8) scNest.nd rfl (Or.inl rfl) (pe_cl D.law_body G_law_body (hr.mono (by omega)) (pa_cons (pv 0) (pa_cons (pv 1) (pa_cons (pv 2) (pa_cons (pv 3) (pa_cons (pv 4) (pa_cons (pe_op op_sub (pv 5) pe_int) pa_nil))))))))
      (pss_cons (ps_set (i := 11) scNest.nd rfl (Or.inl rfl) (pe_tup pa_nil))
      (pss_cons (ps_if (pt_cmpR op_eq (pe_cl D.law_draw G_law_draw (hr.mono (by omega)) (pa_cons (pv 0) (pa_cons pe_int pa_nil))) pe_int (nomark _)) (pss_one (ps_set (i := 11) scNest.nd rfl (Or.inl rfl) (pe_cl D.law_body G_law_body (hr.mono (by omega)) (pa_cons (pv 0) (pa_cons (pv 1) (pa_cons (pv 2) (pa_cons (pv 3) (pa_cons (pv 4) (pa_cons (pe_op op_sub (pv 5) pe_int) pa_nil))))))))) pss_nil)
      (pss_one (ps_ret (pe_tup (pa_cons pe_str (pa_cons (pv 10) (pa_cons (pv 8) (pa_cons (pv 11) pa_nil)))))))))) pss_nil)
      (pss_one (ps_ret (pe_tup (pa_cons pe_str (pa_cons (pv 9) (pa_cons (pv 10) (pa_cons (pe_cl D.law_body G_law_body (hr.mono (by omega)) (pa_cons (pv 0) (pa_cons (pv 1) (pa_cons (pv 2) (pa_cons (pe_op op_add (pv 3) pe_int) (pa_cons (pv 4) (pa_cons (pe_op op_sub (pv 5) pe_int) pa_nil))))))) pa_nil))))))))))))))), ?_⟩
  dsimp only [cxOf, Cx.nox]
  have hgm := sev_md hga
  have hgt := sev_ta hga
  refine seq_cut3 (fun σ' H' => ∃ ch : Nat, σ' = [some (.ref T.a), some (.ref W.a), some (.ref ga), some (natV lp), some (.bl la), some (natV (e + 1)), some (.ref W.fr), some (natV ch), none, none, none, none] ∧ Fr (MD T W) H H' ∧ DAt H' T W f0 f3) ?_ ?_
  rotate_left
  · intro N hN
    repeat ac_rfl
    refine st_ixl (.inl (.inl d.w)) rfl ?_
    repeat ac_rfl
    refine ⟨T, _, rfl, d.t, by decide, fun ch H1 hr1 f1 t1 => ?_⟩
    have d1 := d.draw f1 t1
    have F1 : Fr (MD T W) H H1 := MT.md f1
    obtain ⟨g1, g2, g4, g5, efr⟩ := d1.fr
    have lfr : SqL K H1 W.fr _ := .inl (.inl efr)
    have no := hN _ _ ⟨ch, rfl, F1, d1⟩
    repeat ac_rfl
    refine ifb (fun hz => ?_) (fun hz => ?_)
    · repeat ac_rfl
      refine ifb (fun hz => ?_) (fun hz => ?_)
      · repeat ac_rfl
        cases la with
        | true =>
          repeat ac_rfl
          exact no
        | false =>
          repeat ac_rfl
          refine ⟨_, rfl, W.fr, _, 4, 4, rfl, rfl, efr, rfl, ?_⟩
          have d2 := d1.put f0 f3 g1 g2 (g4 - 1) g5
          have es : [natV f0, .int g1, .int g2, natV f3, .int g4, .int g5].set 4 (.int (g4 - 1)) = [natV f0, .int g1, .int g2, natV f3, .int (g4 - 1), .int g5] := rfl
          rw [es]
          have F2 : Fr (MD T W) H (upd H1 W.fr (.lst [natV f0, .int g1, .int g2, natV f3, .int (g4 - 1), .int g5])) := F1.upd (.inl (.inr rfl))
          generalize upd H1 W.fr (.lst [natV f0, .int g1, .int g2, natV f3, .int (g4 - 1), .int g5]) = H2 at d2 F2
          repeat ac_rfl
          rw [hde]
          refine ⟨T, W, f0, f3, ga, vis, lp, false, e, rfl, d2, F2 _ _ hg hgm, hga, hvl, by omega, fun v1 b1 p0 p3 H3 f3' d3 e1 w1 z1 l1 => ?_⟩
          have F3 := F2.trans f3'
          repeat ac_rfl
          rw [hde]
          refine ⟨T, W, p0, p3, ga, vis, lp, true, e, rfl, d3, F3 _ _ hg hgm, hga, by omega, by omega, fun v2 b2 r0 r3 H4 f4 d4 e2 w2 z2 l2 => ?_⟩
          have F4 := F3.trans f4
          obtain ⟨pb, ps, rfl, hb1, hb2⟩ := EncR.mono (d3.tk f4) b1 e1
          obtain ⟨qb, qs, rfl, hc1, hc2⟩ := e2
          repeat ac_rfl
          refine ⟨smN rfl, fun t ht => ?_⟩
          have s5 := same_new ht (.tup [.str "try", .ref pb, .ref qb])
          have k5 : TK K H4 (upd H4 t (.tup [.str "try", .ref pb, .ref qb])) := TK.of_same s5
          exact q _ (.tryf b1 b2) r0 r3 _ (F4.trans (Fr.of_same s5)) (d4.same s5) ⟨pb, qb, ps, qs, Tp.of upd_same, k5 _ _ hb1, EncX.mono k5 b1 hb2, k5 _ _ hc1, EncX.mono k5 b2 hc2⟩ (fun _ => ⟨rfl, w1, w2⟩) rfl (by show szR b1 + szR b2 + 1 + r0 ≤ _; omega) (by show letsR b1 + letsR b2 + r3 ≤ _; omega)
      · repeat ac_rfl
        exact no
    · repeat ac_rfl
      exact no
  rintro _ H1 ⟨ch, rfl, F1, d1⟩
  have eg1 := F1 _ _ hg hgm
  repeat ac_rfl
  refine ifb (fun hz => ?_) (fun hz => ?_)
  · repeat ac_rfl
    rw [hde]
    refine ⟨T, W, f0, f3, ga, vis, lp, la, e, rfl, d1, eg1, hga, hvl, by omega, fun v1 b1 p0 p3 H3 f3' d3 e1 w1 z1 l1 => ?_⟩
    obtain ⟨pb, ps, rfl, hb1, hb2⟩ := e1
    repeat ac_rfl
    refine ⟨smN rfl, fun t ht => ?_⟩
    have s5 := same_new ht (.tup [.str "block", .ref pb])
    have k5 : TK K H3 (upd H3 t (.tup [.str "block", .ref pb])) := TK.of_same s5
    exact q _ (.block b1) p0 p3 _ ((F1.trans f3').trans (Fr.of_same s5)) (d3.same s5) ⟨pb, ps, Tp.of upd_same, k5 _ _ hb1, EncX.mono k5 b1 hb2⟩ (fun _ => w1) rfl (by show szR b1 + 1 + p0 ≤ _; omega) l1
  repeat ac_rfl
  refine st_ixl (.inl (.inl d1.w)) rfl ?_
  repeat ac_rfl
  refine st_ixl (.inl (.inl d1.w)) rfl ?_
  repeat ac_rfl
  refine ⟨W.la, _, rfl, .inl (.inl (.inl d1.l)), ?_⟩
  repeat ac_rfl
  have hl1 := d1.ol.1
  have hl2 := d1.ol.2.1
  refine ⟨T, _, rfl, d1.t, by rw [List.length_map]; omega, fun r H2 hr2 f2 t2 => ?_⟩
  have d2 := d1.draw f2 t2
  rw [List.length_map] at hr2
  have hlt : r < W.ls.length := by omega
  refine st_ixl (.inl (.inl d2.l)) (atI_nat (by rw [List.getElem?_map, List.getElem?_eq_getElem hlt]; rfl)) ?_
  have hnm := d.ol.2.2 _ (List.getElem_mem hlt)
  generalize W.ls[r] = x at hnm
  repeat ac_rfl
  refine ⟨smN rfl, fun lq hlq => ?_⟩
  have s3 := same_new hlq (.lst [.non, .non, .str x])
  have e3 : (upd H2 lq (.lst [.non, .non, .str x])) lq = some (.lst [.non, .non, .str x]) := upd_same
  have d3 := d2.same s3
  have nlq := d2.t.ne hlq
  generalize upd H2 lq (.lst [.non, .non, .str x]) = H3 at s3 e3 d3
  repeat ac_rfl
  refine ⟨T, _, rfl, d3.t, by decide, fun k4 H4 hk4 f4 t4 => ?_⟩
  have d4 := d3.draw f4 t4
  have hk4' : k4 < 3 := by omega
  obtain ⟨l, hat, hl⟩ : ∃ l : Option Nm, atI [V.non, V.non, V.str x] ((k4 : Nat) : Int) = some (labV l) ∧ labOk l := by
    match k4, hk4' with
    | 0, _ => exact ⟨none, rfl, fun n e => by cases e⟩
    | 1, _ => exact ⟨none, rfl, fun n e => by cases e⟩
    | 2, _ => exact ⟨some x, rfl, fun n e => by cases e; exact hnm⟩
  refine st_ixl (.inl (.inl (f4 _ _ e3 nlq))) hat ?_
  have F4 : Fr (MD T W) H H4 := F1.trans ((MT.md f2).trans ((Fr.of_same s3).trans (MT.md f4)))
  clear d1 d2 d3 f2 s3 e3 f4 t2 t4 hlq nlq eg1 F1
  refine st_name ?_
  with_reducible refine seq_cut (fun σ' H' => H' = H4 ∧ σ' = [some (.ref T.a), some (.ref W.a), some (.ref ga), some (natV lp), some (.bl la), some (natV (e + 1)), some (.ref W.fr), some (natV ch), none, some (labV l), none, none]) ?_ ?_
  rotate_left
  · intro N hN
    have no := hN _ _ ⟨rfl, rfl⟩
    obtain ⟨g1, g2, g4, g5, efr⟩ := d4.fr
    have lfr : SqL K H4 W.fr _ := .inl (.inl efr)
    have eg4 := F4 _ _ hg hgm
    repeat ac_rfl
    refine ifb (fun hz => ?_) (fun hz => ?_)
    · skip
      repeat ac_rfl
      rw [hde]
      refine ⟨T, W, f0, f3, ga, vis, lp + 1, la, e, rfl, d4, eg4, hga, hvl, by omega, fun v1 b1 p0 p3 H6 f6 d6 e1 w1 z1 l1 => ?_⟩
      obtain ⟨pb, ps, rfl, hb1, hb2⟩ := e1
      repeat ac_rfl
      refine ⟨smN rfl, fun t ht => ?_⟩
      have s7 := same_new ht (.tup [.str "for", labV l, .ref pb])
      have k7 : TK K H6 (upd H6 t (.tup [.str "for", labV l, .ref pb])) := TK.of_same s7
      exact q _ (.forl l b1) p0 p3 _ ((F4.trans f6).trans (Fr.of_same s7)) (d6.same s7) ⟨pb, ps, Tp.of upd_same, k7 _ _ hb1, EncX.mono k7 b1 hb2⟩ (fun _ => ⟨hl, w1⟩) rfl (by show szR b1 + 1 + p0 ≤ _; omega) l1
    repeat ac_rfl
    refine ifb (fun hz => ?_) (fun hz => ?_)
    · repeat ac_rfl
      refine ⟨!(vis.map V.str).isEmpty, .inl ⟨_, .inl (.inl eg4), rfl⟩, ?_⟩
      refine ifb (fun hz => ?_) (fun hz => ?_)
      · skip
        repeat ac_rfl
        rw [hde]
        refine ⟨T, W, f0, f3, ga, vis, lp + 1, la, e, rfl, d4, eg4, hga, hvl, by omega, fun v1 b1 p0 p3 H6 f6 d6 e1 w1 z1 l1 => ?_⟩
        obtain ⟨pb, ps, rfl, hb1, hb2⟩ := e1
        repeat ac_rfl
        refine ⟨smN rfl, fun t ht => ?_⟩
        have s7 := same_new ht (.tup [.str "for", labV l, .ref pb])
        have k7 : TK K H6 (upd H6 t (.tup [.str "for", labV l, .ref pb])) := TK.of_same s7
        exact q _ (.forl l b1) p0 p3 _ ((F4.trans f6).trans (Fr.of_same s7)) (d6.same s7) ⟨pb, ps, Tp.of upd_same, k7 _ _ hb1, EncX.mono k7 b1 hb2⟩ (fun _ => ⟨hl, w1⟩) rfl (by show szR b1 + 1 + p0 ≤ _; omega) l1
      · repeat ac_rfl
        exact no
    · repeat ac_rfl
      exact no
  rintro _ H4' ⟨hH, rfl⟩
  rw [hH]
  have eg4 := F4 _ _ hg hgm
  repeat ac_rfl
  refine ⟨T, W, f0, f3, ga, vis, rfl, d4, eg4, by omega, hgt.1, hgt.2, fun u c H5 f5 d5 hc hcz hcw => ?_⟩
  have F5 := F4.trans f5
  have eg5 := F5 _ _ hg hgm
  repeat ac_rfl
  refine ifb (fun hz => ?_) (fun hz => ?_)
  · repeat ac_rfl
    rw [hde]
    refine ⟨T, W, f0, f3, ga, vis, lp, la, e, rfl, d5, eg5, hga, hvl, by omega, fun v1 b1 p0 p3 H6 f6 d6 e1 w1 z1 l1 => ?_⟩
    obtain ⟨pb, ps, rfl, hb1, hb2⟩ := e1
    have hc6 := EncC.mono (d5.tk f6) c hc
    have F6 := F5.trans f6
    repeat ac_rfl
    refine ⟨smN rfl, fun z hz => ?_⟩
    have s7 := same_new hz (.tup [])
    have e7 : (upd H6 z (.tup [])) z = some (.tup []) := upd_same
    have d7 := d6.same s7
    have hc7 := EncC.mono (TK.of_same s7) c hc6
    have hb17 := (TK.of_same (K := K) s7) _ _ hb1
    have hb27 := EncX.mono (TK.of_same s7) b1 hb2
    have F7 := F6.trans (Fr.of_same s7)
    generalize upd H6 z (.tup []) = H7 at s7 e7 d7 hc7 hb17 hb27 F7
    refine st_name ?_
    with_reducible refine seq_cut (fun σ' H' => ∃ (v2 : V) (b2 : Stms) (r0 r3 : Nat), σ' = [some (.ref T.a), some (.ref W.a), some (.ref ga), some (natV lp), some (.bl la), some (natV (e + 1)), some (.ref W.fr), some (natV ch), some (.ref pb), some (labV l), some u, some v2] ∧ Fr (MD T W) H7 H' ∧ DAt H' T W r0 r3 ∧ EncR K H' b2 v2 ∧ wfR vis [] lp la b2 ∧ szR b2 + r0 ≤ p0 ∧ letsR b2 + r3 ≤ p3) ?_ ?_
    rotate_left
    · intro N hN
      repeat ac_rfl
      refine ⟨T, _, rfl, d7.t, by decide, fun k8 H8 hk8 f8 t8 => ?_⟩
      have d8 := d7.draw f8 t8
      have F8 := F7.trans (MT.md f8)
      repeat ac_rfl
      refine ifb (fun hz => ?_) (fun hz => ?_)
      · repeat ac_rfl
        rw [hde]
        refine ⟨T, W, p0, p3, ga, vis, lp, la, e, rfl, d8, F8 _ _ hg hgm, hga, by omega, by omega, fun v2 b2 r0 r3 H9 f9 d9 e2 w2 z2 l2 => ?_⟩
        repeat ac_rfl
        exact hN _ _ ⟨v2, b2, r0, r3, rfl, (MT.md f8).trans f9, d9, e2, w2, z2, l2⟩
      · repeat ac_rfl
        exact hN _ _ ⟨.ref z, .nil, p0, p3, rfl, MT.md f8, d8, ⟨z, [], rfl, .inl (.inl (f8 _ _ e7 (d6.t.ne ‹_›))), rfl⟩, trivial, by show 0 + _ ≤ _; omega, by show 0 + _ ≤ _; omega⟩
    rintro _ H9 ⟨v2, b2, r0, r3, rfl, f9, d9, e2, w2, z2, l2⟩
    have k9 := d7.tk (K := K) f9
    have hc9 := EncC.mono k9 c hc7
    obtain ⟨qb, qs, rfl, hd1, hd2⟩ := e2
    repeat ac_rfl
    refine ⟨smN rfl, fun t ht => ?_⟩
    have s10 := same_new ht (.tup [.str "if", u, .ref pb, .ref qb])
    have k10 : TK K H9 (upd H9 t (.tup [.str "if", u, .ref pb, .ref qb])) := TK.of_same s10
    exact q _ (.ite c b1 b2) r0 r3 _ ((F7.trans f9).trans (Fr.of_same s10)) (d9.same s10) ⟨u, pb, qb, ps, qs, Tp.of upd_same, EncC.mono k10 c hc9, k10 _ _ (k9 _ _ hb17), EncX.mono (k9.trans k10) b1 hb27, k10 _ _ hd1, EncX.mono k10 b2 hd2⟩ (fun _ => ⟨hcw, hcz, w1, w2⟩) rfl (by show szR b1 + szR b2 + 1 + r0 ≤ _; omega) (by show letsR b1 + letsR b2 + r3 ≤ _; omega)
  · repeat ac_rfl
    rw [hde]
    refine ⟨T, W, f0, f3, ga, vis, lp + 1, la, e, rfl, d5, eg5, hga, hvl, by omega, fun v1 b1 p0 p3 H6 f6 d6 e1 w1 z1 l1 => ?_⟩
    obtain ⟨pb, ps, rfl, hb1, hb2⟩ := e1
    have hc6 := EncC.mono (d5.tk f6) c hc
    repeat ac_rfl
    refine ⟨smN rfl, fun t ht => ?_⟩
    have s7 := same_new ht (.tup [.str "while", labV l, u, .ref pb])
    have k7 : TK K H6 (upd H6 t (.tup [.str "while", labV l, u, .ref pb])) := TK.of_same s7
    exact q _ (.whl l c b1) p0 p3 _ ((F5.trans f6).trans (Fr.of_same s7)) (d6.same s7) ⟨u, pb, ps, Tp.of upd_same, EncC.mono k7 c hc6, k7 _ _ hb1, EncX.mono k7 b1 hb2⟩ (fun _ => ⟨hl, hcw, hcz, w1⟩) rfl (by show szR b1 + 1 + p0 ≤ _; omega) l1
end
end K23
namespace K23
open PySem PySem.Spec PyProof.Rows L2 Fl RT
local macro_rules | `(tactic| ac_rfl) => `(tactic| (
  first
    | with_reducible refine Stp.go ?_
    | with_reducible refine st_var (by with_unfolding_all exact rfl) ?_
    | with_reducible refine st_ixt (by with_unfolding_all assumption) (by with_unfolding_all exact rfl) ?_
    | with_reducible refine st_ixl (by with_unfolding_all assumption) (by with_unfolding_all exact rfl) ?_
    | with_reducible refine st_eq (by with_unfolding_all exact rfl) ?_
    | with_reducible refine st_bl ?_
    | with_reducible refine ifb_t ?_
    | with_reducible refine ifb_f ?_
    | with_reducible refine ifs_no (by decide +kernel) ?_
    | with_reducible refine ifs_yes rfl ?_
    | with_reducible refine ifs_yes lab_rfl ?_
    | with_reducible refine ifs_yes num_rfl ?_
    | with_reducible refine ifn_no (by decide +kernel) ?_
    | with_reducible refine ifn_yes rfl ?_
    | with_reducible refine ifnb_t ?_
    | with_reducible refine ifnb_f ?_
    | with_reducible refine st_ne (by with_unfolding_all exact rfl) ?_
    | with_reducible refine st_ix0 (by with_unfolding_all assumption) ?_
    | with_reducible refine st_sl ?_
    | with_reducible refine st_part ?_
    | with_reducible refine st_nopart ?_
    | with_reducible refine st_mulc (by decide) (by decide) ?_
    | with_reducible refine st_modc (by decide) ?_
    | with_reducible refine Or.inl ⟨_, rfl, ?_⟩
    | with_reducible refine ⟨_, rfl, ?_⟩))
theorem scStm : FnScope ["_law_tape_here", "_law_world_here", "_law_flags", "_law_own", "_law_loops", "_law_last", "_law_depth", "_law_free", "_law_choice", "_law_names_here", "_law_name"] ["_law_tape_here", "_law_world_here", "_law_flags", "_law_own", "_law_loops", "_law_last", "_law_depth"] (defScope (top 38)) := ⟨rfl, rfl, rfl, by decide +kernel, rfl, by decide +kernel, by decide +kernel⟩
theorem notIn_dec (x : Nm) (l : List Nm) : inV (.str x) (l.map V.str) = decide (x ∈ l) := by
  unfold inV
  rw [List.any_map, Bool.eq_iff_iff, List.any_eq_true, decide_eq_true_iff]
  constructor
  · rintro ⟨y, hy, e⟩
    have e' : (y == x) = true := e
    rw [← beq_iff_eq.mp e']; exact hy
  · intro h
    exact ⟨x, h, (beq_iff_eq (a := x)).mpr rfl⟩
section
variable {P : Program} {w : World} {K : PySem.W.Frag} {mg : Str → Option Value} {base : Heap} {fa : Nat → Addr} {fd : Nat → FuncData}
/-- the names that are not declared here -/
theorem own_lc {σ : L2.St} {H : Hp} {W : Wld} {T : Tap} {f0 f3 : Nat} {oa : Addr} {own : List Nm} {Q : VK} (d : DAt H T W f0 f3) (ho : H oa = some (.lst (own.map V.str))) (h1 : σ[1]? = some (some (.ref W.a))) (h3 : σ[3]? = some (some (.ref oa))) (h10 : 10 < σ.length)
    (q : ∀ p (ws : List Nm) H', Same H H' → H p = none → H' p = some (.lst (ws.map V.str)) → ws.length ≤ 10 → (∀ n ∈ ws, nmOk n ∧ n ∉ own) → Q (.ref p) H') :
    tLc (iList K (tOp (rIxL K) (tVar 1) (tC (.int 3)))) (gName 10) (tTest (tOp (rIn K true) (tVar 10) (tVar 3))) (tVar 10) [10] σ H Q := by
  refine ⟨_, h1, W.a, _, 3, _, rfl, rfl, .inl (.inl d.w), rfl, W.fa, rfl, ⟨_, .inl (.inl d.f)⟩, fun p hp => ?_⟩
  refine lc_list (K := K) (a := W.fa) (xs := W.fs.map V.str) (fun i H' => Same H H' ∧ ∃ ws : List Nm, H' p = some (.lst (ws.map V.str)) ∧ ws.length ≤ i ∧ ∀ n ∈ ws, nmOk n ∧ n ∉ own) ⟨same_new hp _, [], upd_same, Nat.le_refl _, fun n h => absurd h List.not_mem_nil⟩ (fun i H' _ ⟨z, _⟩ => .inl (.inl (z _ _ d.f))) ?_ ?_
  · rintro i x H' hi ⟨s1, ws, ep, hwl, hws⟩
    rw [List.getElem?_map] at hi
    obtain ⟨n, hn, rfl⟩ := Option.map_eq_some_iff.mp hi
    have hi10 : i < W.fs.length := (List.getElem?_eq_some_iff.mp hn).1
    have h10' := d.of.2.1
    have hself : ((wipe σ [10]).set 10 (some (.str n)))[10]? = some (some (.str n)) := List.getElem?_set_self (by rw [wipe_length]; exact h10)
    have hoth : ((wipe σ [10]).set 10 (some (.str n)))[3]? = some (some (.ref oa)) := by
      show ((σ.set 10 none).set 10 (some (.str n)))[3]? = _
      rw [List.set_set, List.getElem?_set_ne (by decide)]; exact h3
    refine ⟨?_, ?_⟩
    · show (((σ.set 10 none).set 10 (some (.str n))).set 10 none) = σ.set 10 none
      rw [List.set_set, List.set_set]
    refine ⟨_, hself, _, hoth, oa, _, rfl, .inl (.inl (.inl (s1 _ _ ho))), rfl, all_flat _, ?_⟩
    refine ⟨_, rfl, ?_⟩
    have e5 : (if (true : Bool) = true then !inV (.str n) (own.map V.str) else inV (.str n) (own.map V.str)) = !decide (n ∈ own) := by rw [notIn_dec]; rfl
    by_cases hno : n ∈ own
    · refine ifb_no (by rw [e5, decide_eq_true hno]; rfl) ?_
      exact ⟨s1, ws, ep, by omega, hws⟩
    · refine ifb_yes (by rw [e5, decide_eq_false hno]; rfl) ?_
      refine ⟨_, hself, _, ep, small_lt (by rw [List.length_map]; omega), fun b u hb => ?_, ws ++ [n], by rw [upd_same, List.map_append]; rfl, by rw [List.length_append, List.length_singleton]; omega, fun m hm => ?_⟩
      · rw [upd_ne (ne_of_none hb hp)]; exact s1 b u hb
      · rcases List.mem_append.mp hm with z | z
        · exact hws m z
        · rw [List.mem_singleton.mp z]; exact ⟨d.of.2.2 n (List.mem_of_getElem? hn), hno⟩
  · rintro H' ⟨s1, ws, ep, hwl, hws⟩
    rw [List.length_map] at hwl
    exact q p ws H' s1 hp ep (Nat.le_trans hwl d.of.2.1) hws
theorem ok_stm {n k : Nat} (hk : 2 ≤ k) (ml : BN mg) (D : DD K mg fa fd) (G_law_nest : FnOk P w K mg base CX0 k (fa 37) (fd 37) ["_law_tape_here", "_law_world_here", "_law_flags", "_law_loops", "_law_last", "_law_depth"] (spNest K n)) : FnOk P w K mg base CX0 (k + 1) (fa 38) (fd 38) ["_law_tape_here", "_law_world_here", "_law_flags", "_law_own", "_law_loops", "_law_last", "_law_depth"] (spStm K n) := by
  have G_law_draw := ok_draw (P := P) (w := w) (base := base) ml D.law_draw
  have G_law_stop := ok_stop (P := P) (w := w) (base := base) ml D
  refine D.law_statement.F.ok scStm (fun vs H Q E h => ?_) (fun cdv A outer s H vs Q E hr h => ?_)
  · obtain ⟨T, W, f0, f3, ga, oa, vis, own, lp, la, dep, rfl, _⟩ := h
    rfl
  obtain ⟨T, W, f0, f3, ga, oa, vis, own, lp, la, dep, rfl, d, hg, ho, hga, hoa, hgo, hvl, hol, hdn, q⟩ := h
  refine ⟨_, (pss_cons (ps_set (i := 7) scStm.nd rfl (Or.inl rfl) (pe_ix ix_list (pv 1) pe_int (fun _ _ => rfl)))
      (pss_cons (ps_set (i := 8) scStm.nd rfl (Or.inl rfl) (pe_cl D.law_draw G_law_draw (hr.mono (by omega)) (pa_cons (pv 0) (pa_cons pe_int pa_nil))))
      (pss_cons (ps_setLc (i := 9) (own := [("_law_name", 10)]) (g := gName 10) (tt := tTest (tOp (rIn K true) (tVar 10) (tVar 3))) (te := tVar 10) rfl scStm.nd rfl rfl (sw_true rfl rfl rfl (by decide +kernel)) (pi_list (pe_ix ix_list (pv 1) pe_int (fun _ _ => rfl))) (blkOk_by (N := ["_law_tape_here", "_law_world_here", "_law_flags", "_law_own", "_law_loops", "_law_last", "_law_depth", "_law_free", "_law_choice", "_law_names_here", "_law_name"]) (sc := defScope (top 38)) (by decide +kernel)) (fun _ _ _ _ _ => pg_name (i := 10) scStm.nd rfl (Or.inl rfl)) (fun _ _ _ _ _ => pts_one (pt_cmpR op_notIn_seq (pv 10) (pv 3) (by with_unfolding_all rfl))) (fun _ _ _ _ _ => pv 10))
      (pss_cons (ps_if (pw_and (pt_cmpR op_lt (pv 8) pe_int (nomark _)) (pw_and (pt_cmpR op_gt (pe_ix ix_list (pv 7) pe_int (fun _ _ => rfl)) pe_int (nomark _)) (pw_and1 (pt_truth (pv 9) (fun _ => rfl))))).pt (pss_cons (ps_set (i := 10) scStm.nd rfl (Or.inl rfl) (pe_ix ix_list (pv 9) (pe_cl D.law_draw G_law_draw (hr.mono (by omega)) (pa_cons (pv 0) (pa_cons (pe_len ml.len (pv 9)) pa_nil))) (fun _ _ => rfl)))
      (pss_cons (ps_asg (pe_op op_sub (pe_ix ix_list (pv 7) pe_int (fun _ _ => rfl)) pe_int) (pg_sub (pv 7) pe_int set_list))
      (pss_cons (ps_expr (pe_bm PySem.F.plainAttrs_list PySem.F.slot_list_append PySem.F.type_list_append mt_append (pv 3) (pa_cons (pv 10) pa_nil)))
      (pss_cons (ps_expr (pe_bm PySem.F.plainAttrs_list PySem.F.slot_list_append PySem.F.type_list_append mt_append (pv 2) (pa_cons (pv 10) pa_nil)))
      (pss_one (ps_ret (pe_tup (pa_cons pe_str (pa_cons (pv 10) (pa_cons (pe_cmpR op_eq (pe_cl D.law_draw G_law_draw (hr.mono (by omega)) (pa_cons (pv 0) (pa_cons pe_int pa_nil))) pe_int (nomark _)) pa_nil)))))))))) pss_nil)
      (pss_cons (ps_if (pw_and (pt_cmpR op_lt (pv 8) pe_int (nomark _)) (pw_and1 (pt_truth (pv 2) (fun _ => rfl)))).pt (pss_one (ps_ret (pe_tup (pa_cons pe_str (pa_cons (pe_ix ix_list (pv 2) (pe_cl D.law_draw G_law_draw (hr.mono (by omega)) (pa_cons (pv 0) (pa_cons (pe_len ml.len (pv 2)) pa_nil))) (fun _ _ => rfl)) (pa_cons (pe_cmpR op_eq (pe_cl D.law_draw G_law_draw (hr.mono (by omega)) (pa_cons (pv 0) (pa_cons pe_int pa_nil))) pe_int (nomark _)) pa_nil)))))) pss_nil)
      (pss_cons (ps_if (pw_and (pt_cmpR op_lt (pv 8) pe_int (nomark _)) (pw_and1 (pt_cmpR op_gt (pe_ix ix_list (pv 7) pe_int (fun _ _ => rfl)) pe_int (nomark _)))).pt (pss_cons (ps_asg (pe_op op_sub (pe_ix ix_list (pv 7) pe_int (fun _ _ => rfl)) pe_int) (pg_sub (pv 7) pe_int set_list))
      (pss_one (ps_ret (pe_cl D.law_stop G_law_stop (hr.mono (by omega)) (pa_cons (pv 0) (pa_cons (pv 1) (pa_cons (pv 4) pa_nil))))))) pss_nil)
      (pss_cons (ps_if (pw_and (pt_cmpR op_gt (pv 6) pe_int (nomark _)) (pw_and1 (pt_cmpR op_lt (pv 8) pe_int (nomark _)))).pt (pss_one (ps_ret (pe_cl D.law_nest G_law_nest (hr.mono (by omega)) (pa_cons (pv 0) (pa_cons (pv 1) (pa_cons (pv 2) (pa_cons (pv 4) (pa_cons (pv 5) (pa_cons (pv 6) pa_nil))))))))) pss_nil)
      (pss_cons (ps_if (pt_cmpR op_gt (pe_ix ix_list (pv 7) pe_int (fun _ _ => rfl)) pe_int (nomark _)) (pss_cons (ps_asg (pe_op op_sub (pe_ix ix_list (pv 7) pe_int (fun _ _ => rfl)) pe_int) (pg_sub (pv 7) pe_int set_list))
      (pss_one (ps_ret (pe_tup (pa_cons pe_str (pa_cons (pe_ix ix_list (pe_ix ix_list (pv 1) pe_int (fun _ _ => rfl)) (pe_cl D.law_draw G_law_draw (hr.mono (by omega)) (pa_cons (pv 0) (pa_cons (pe_len ml.len (pe_ix ix_list (pv 1) pe_int (fun _ _ => rfl))) pa_nil))) (fun _ _ => rfl)) pa_nil)))))) pss_nil)
      (pss_one (ps_ret (pe_tup (pa_cons pe_str (pa_cons (pe_tup pa_nil) pa_nil))))))))))))), ?_⟩
  dsimp only [cxOf, Cx.nox]
  have hgm := sev_md hga
  have hom := sev_md hoa
  have hgt := sev_ta hga
  have md2 : ∀ {H'}, Fr (MD T W) H H' → Fr (MD2 T W ga oa) H H' := fun f => f.weak fun _ _ _ z => .inl z
  have q0 : ∀ (v : V) (s : Stm) (g0 g3 : Nat) H', Fr (MD T W) H H' → DAt H' T W g0 g3 → EncS K H' s v → wfS vis own lp la s → addsS s = [] → szS s + g0 ≤ f0 + 1 → letsS s + g3 ≤ f3 → Q v H' := fun v s g0 g3 H' f d' he hw ha hz hl => q v s g0 g3 H' (md2 f) d' he hw hz hl (by rw [ha, List.append_nil]; exact f _ _ hg hgm) (by rw [ha, List.append_nil]; exact f _ _ ho hom)
  repeat ac_rfl
  refine st_ixl (.inl (.inl d.w)) rfl ?_
  repeat ac_rfl
  refine ⟨T, _, rfl, d.t, by decide, fun ch H1 hr1 f1 t1 => ?_⟩
  have d1 := d.draw f1 t1
  have F1 : Fr (MD T W) H H1 := MT.md f1
  repeat ac_rfl
  refine own_lc d1 (F1 _ _ ho hom) rfl rfl (by show 10 < 11; decide) fun np ws H2 s2 hnp enp hwl hws => ?_
  have d2 := d1.same s2
  have F2 := F1.trans (Fr.of_same s2)
  have nnp := d1.fresh hnp
  have nnp' : np ≠ T.a := fun z => nnp (by rw [z]; simp)
  clear d1 f1 t1 s2 F1 hnp
  refine st_name ?_
  obtain ⟨g1, g2, g4, g5, efr⟩ := d2.fr
  have lfr : SqL K H2 W.fr _ := .inl (.inl efr)
  have eg2 := F2 _ _ hg hgm
  have eo2 := F2 _ _ ho hom
  with_reducible refine seq_cut (fun σ' H' => H' = H2 ∧ σ' = [some (.ref T.a), some (.ref W.a), some (.ref ga), some (.ref oa), some (natV lp), some (.bl la), some (natV dep), some (.ref W.fr), some (natV ch), some (.ref np), none]) ?_ ?_
  rotate_left
  · intro N hN
    have no := hN _ _ ⟨rfl, rfl⟩
    repeat ac_rfl
    refine ifb (fun hz => ?_) (fun hz => ?_)
    rotate_left
    · repeat ac_rfl
      exact no
    repeat ac_rfl
    refine ifb (fun hz => ?_) (fun hz => ?_)
    rotate_left
    · repeat ac_rfl
      exact no
    have hf3 : 0 < f3 := by
      have := of_decide_eq_true hz
      omega
    repeat ac_rfl
    refine ⟨!(ws.map V.str).isEmpty, .inl ⟨_, .inl (.inl enp), rfl⟩, ?_⟩
    refine ifb (fun hz => ?_) (fun hz => ?_)
    rotate_left
    · repeat ac_rfl
      exact no
    have hwp : 0 < ws.length := by
      cases ws with
      | nil => exact absurd hz (by decide)
      | cons a r => exact Nat.succ_pos _
    repeat ac_rfl
    refine ⟨np, _, rfl, .inl (.inl (.inl enp)), ?_⟩
    repeat ac_rfl
    refine ⟨T, _, rfl, d2.t, by rw [List.length_map]; omega, fun r H3 hr3 f3' t3 => ?_⟩
    have d3 := d2.draw f3' t3
    rw [List.length_map] at hr3
    have hlt : r < ws.length := by omega
    have F3 := F2.trans (MT.md f3')
    refine st_ixl (.inl (.inl (f3' _ _ enp nnp'))) (atI_nat (by rw [List.getElem?_map, List.getElem?_eq_getElem hlt]; rfl)) ?_
    obtain ⟨hxo, hxn⟩ := hws _ (List.getElem_mem hlt)
    generalize ws[r] = x at hxo hxn
    have efr3 := d3.fr
    obtain ⟨k1, k2, k4, k5, efr3⟩ := efr3
    have lfr3 : SqL K H3 W.fr _ := .inl (.inl efr3)
    repeat ac_rfl
    refine ⟨_, rfl, W.fr, _, 3, 3, rfl, rfl, efr3, rfl, ?_⟩
    have d4 := d3.put f0 (f3 - 1) k1 k2 k4 k5
    have es : [natV f0, .int k1, .int k2, natV f3, .int k4, .int k5].set 3 (.int ((f3 : Int) - 1)) = [natV f0, .int k1, .int k2, natV (f3 - 1), .int k4, .int k5] := by
      have e : (f3 : Int) - 1 = ((f3 - 1 : Nat) : Int) := by omega
      rw [e]; rfl
    rw [es]
    have F4 : Fr (MD T W) H (upd H3 W.fr (.lst [natV f0, .int k1, .int k2, natV (f3 - 1), .int k4, .int k5])) := F3.upd (.inl (.inr rfl))
    generalize upd H3 W.fr (.lst [natV f0, .int k1, .int k2, natV (f3 - 1), .int k4, .int k5]) = H4 at d4 F4
    have eo4 := F4 _ _ ho hom
    have eg4 := F4 _ _ hg hgm
    repeat ac_rfl
    refine ⟨.inl ⟨rfl, _, .inl (.inl eo4)⟩, ?_⟩
    repeat ac_rfl
    refine ⟨oa, _, _, rfl, rfl, eo4, small_lt (by rw [List.length_map]; omega), ?_⟩
    have d5 : DAt (upd H4 oa (.lst (own.map V.str ++ [.str x]))) T W f0 (f3 - 1) := d4.oth hoa
    have eo5 : (upd H4 oa (.lst (own.map V.str ++ [.str x]))) oa = some (.lst ((own ++ [x]).map V.str)) := by rw [upd_same, List.map_append]; rfl
    have eg5 : (upd H4 oa (.lst (own.map V.str ++ [.str x]))) ga = some (.lst (vis.map V.str)) := by rw [upd_ne hgo]; exact eg4
    have F5 : Fr (MD2 T W ga oa) H (upd H4 oa (.lst (own.map V.str ++ [.str x]))) := (md2 F4).upd (.inl (.inr (.inr rfl)))
    generalize upd H4 oa (.lst (own.map V.str ++ [.str x])) = H5 at d5 eo5 eg5 F5
    repeat ac_rfl
    refine ⟨.inl ⟨rfl, _, .inl (.inl eg5)⟩, ?_⟩
    repeat ac_rfl
    refine ⟨ga, _, _, rfl, rfl, eg5, small_lt (by rw [List.length_map]; omega), ?_⟩
    have d6 : DAt (upd H5 ga (.lst (vis.map V.str ++ [.str x]))) T W f0 (f3 - 1) := d5.oth hga
    have eg6 : (upd H5 ga (.lst (vis.map V.str ++ [.str x]))) ga = some (.lst ((vis ++ [x]).map V.str)) := by rw [upd_same, List.map_append]; rfl
    have eo6 : (upd H5 ga (.lst (vis.map V.str ++ [.str x]))) oa = some (.lst ((own ++ [x]).map V.str)) := by rw [upd_ne (Ne.symm hgo)]; exact eo5
    have F6 : Fr (MD2 T W ga oa) H (upd H5 ga (.lst (vis.map V.str ++ [.str x]))) := F5.upd (.inl (.inr (.inl rfl)))
    generalize upd H5 ga (.lst (vis.map V.str ++ [.str x])) = H6 at d6 eo6 eg6 F6
    repeat ac_rfl
    refine ⟨T, _, rfl, d6.t, by decide, fun r7 H7 hr7 f7 t7 => ?_⟩
    have d7 := d6.draw f7 t7
    have F7 := F6.trans ((MT.md (W := W) f7).weak fun _ _ _ z => .inl z)
    repeat ac_rfl
    refine ⟨smN rfl, fun t ht => ?_⟩
    have s8 := same_new ht (.tup [.str "let", .str x, .bl (decide (natV r7 = V.int 0))])
    exact q _ (.letf x (decide (natV r7 = V.int 0))) f0 (f3 - 1) _ (F7.trans (Fr.of_same s8)) (d7.same s8) (Tp.of upd_same) ⟨hxo, hxn⟩ (by show 1 + f0 ≤ _; omega) (by show 1 + (f3 - 1) ≤ _; omega) (s8 _ _ (f7 _ _ eg6 hgt.1)) (s8 _ _ (f7 _ _ eo6 (sev_ta hoa).1))
  rintro _ H2' ⟨hH, rfl⟩
  rw [hH]
  clear hH H2'
  with_reducible refine seq_cut (fun σ' H' => H' = H2 ∧ σ' = [some (.ref T.a), some (.ref W.a), some (.ref ga), some (.ref oa), some (natV lp), some (.bl la), some (natV dep), some (.ref W.fr), some (natV ch), some (.ref np), none]) ?_ ?_
  rotate_left
  · intro N hN
    have no := hN _ _ ⟨rfl, rfl⟩
    repeat ac_rfl
    refine ifb (fun hz => ?_) (fun hz => ?_)
    rotate_left
    · repeat ac_rfl
      exact no
    repeat ac_rfl
    refine ⟨!(vis.map V.str).isEmpty, .inl ⟨_, .inl (.inl eg2), rfl⟩, ?_⟩
    refine ifb (fun hz => ?_) (fun hz => ?_)
    rotate_left
    · repeat ac_rfl
      exact no
    have hvp : 0 < vis.length := by
      cases vis with
      | nil => exact absurd hz (by decide)
      | cons a r => exact Nat.succ_pos _
    repeat ac_rfl
    refine ⟨ga, _, rfl, .inl (.inl (.inl eg2)), ?_⟩
    repeat ac_rfl
    refine ⟨T, _, rfl, d2.t, by rw [List.length_map]; omega, fun r H3 hr3 f3' t3 => ?_⟩
    have d3 := d2.draw f3' t3
    rw [List.length_map] at hr3
    have hlt : r < vis.length := by omega
    have F3 := F2.trans (MT.md f3')
    refine st_ixl (.inl (.inl (F3 _ _ hg hgm))) (atI_nat (by rw [List.getElem?_map, List.getElem?_eq_getElem hlt]; rfl)) ?_
    repeat ac_rfl
    refine ⟨T, _, rfl, d3.t, by decide, fun r7 H7 hr7 f7 t7 => ?_⟩
    have d7 := d3.draw f7 t7
    repeat ac_rfl
    refine ⟨smN rfl, fun t ht => ?_⟩
    have s8 := same_new ht (.tup [.str "set", .str vis[r], .bl (decide (natV r7 = V.int 0))])
    exact q0 _ (.setf vis[r] (decide (natV r7 = V.int 0))) f0 f3 _ ((F3.trans (MT.md f7)).trans (Fr.of_same s8)) (d7.same s8) (Tp.of upd_same) (List.getElem_mem hlt) rfl (by show 1 + f0 ≤ _; omega) (by show 0 + f3 ≤ _; omega)
  rintro _ H2' ⟨hH, rfl⟩
  rw [hH]
  clear hH H2'
  with_reducible refine seq_cut (fun σ' H' => H' = H2 ∧ σ' = [some (.ref T.a), some (.ref W.a), some (.ref ga), some (.ref oa), some (natV lp), some (.bl la), some (natV dep), some (.ref W.fr), some (natV ch), some (.ref np), none]) ?_ ?_
  rotate_left
  · intro N hN
    have no := hN _ _ ⟨rfl, rfl⟩
    repeat ac_rfl
    refine ifb (fun hz => ?_) (fun hz => ?_)
    rotate_left
    · repeat ac_rfl
      exact no
    repeat ac_rfl
    refine ifb (fun hz => ?_) (fun hz => ?_)
    rotate_left
    · repeat ac_rfl
      exact no
    repeat ac_rfl
    refine ⟨_, rfl, W.fr, _, 2, 2, rfl, rfl, efr, rfl, ?_⟩
    have d4 := d2.put f0 f3 g1 (g2 - 1) g4 g5
    have es : [natV f0, .int g1, .int g2, natV f3, .int g4, .int g5].set 2 (.int (g2 - 1)) = [natV f0, .int g1, .int (g2 - 1), natV f3, .int g4, .int g5] := rfl
    rw [es]
    have F4 : Fr (MD T W) H (upd H2 W.fr (.lst [natV f0, .int g1, .int (g2 - 1), natV f3, .int g4, .int g5])) := F2.upd (.inl (.inr rfl))
    generalize upd H2 W.fr (.lst [natV f0, .int g1, .int (g2 - 1), natV f3, .int g4, .int g5]) = H4 at d4 F4
    repeat ac_rfl
    refine ⟨T, W, f0, f3, lp, rfl, d4, fun v st H5 f5 d5 he hz hl ha hw => ?_⟩
    exact q0 v st f0 f3 H5 (F4.trans (MT.md f5)) d5 he (hw _ _ _) ha (by omega) (by omega)
  rintro _ H2' ⟨hH, rfl⟩
  rw [hH]
  clear hH H2'
  with_reducible refine seq_cut (fun σ' H' => H' = H2 ∧ σ' = [some (.ref T.a), some (.ref W.a), some (.ref ga), some (.ref oa), some (natV lp), some (.bl la), some (natV dep), some (.ref W.fr), some (natV ch), some (.ref np), none]) ?_ ?_
  rotate_left
  · intro N hN
    have no := hN _ _ ⟨rfl, rfl⟩
    repeat ac_rfl
    refine ifb (fun hz => ?_) (fun hz => ?_)
    rotate_left
    · repeat ac_rfl
      exact no
    have hd0 : 0 < dep := by
      have := of_decide_eq_true hz
      omega
    repeat ac_rfl
    refine ifb (fun hz => ?_) (fun hz => ?_)
    rotate_left
    · repeat ac_rfl
      exact no
    repeat ac_rfl
    refine ⟨T, W, f0, f3, ga, vis, lp, la, dep, rfl, d2, eg2, hga, hvl, hd0, hdn, fun v st p0 p3 H5 f5 d5 he hw ha hz hl => ?_⟩
    exact q0 v st p0 p3 H5 (F2.trans f5) d5 he (hw _) ha hz hl
  rintro _ H2' ⟨hH, rfl⟩
  rw [hH]
  clear hH H2'
  repeat ac_rfl
  refine ifb (fun hz => ?_) (fun hz => ?_)
  · repeat ac_rfl
    refine ⟨_, rfl, W.fr, _, 1, 1, rfl, rfl, efr, rfl, ?_⟩
    have d4 := d2.put f0 f3 (g1 - 1) g2 g4 g5
    have es : [natV f0, .int g1, .int g2, natV f3, .int g4, .int g5].set 1 (.int (g1 - 1)) = [natV f0, .int (g1 - 1), .int g2, natV f3, .int g4, .int g5] := rfl
    rw [es]
    have F4 : Fr (MD T W) H (upd H2 W.fr (.lst [natV f0, .int (g1 - 1), .int g2, natV f3, .int g4, .int g5])) := F2.upd (.inl (.inr rfl))
    generalize upd H2 W.fr (.lst [natV f0, .int (g1 - 1), .int g2, natV f3, .int g4, .int g5]) = H4 at d4 F4
    have lw : SqL K H4 W.a _ := .inl (.inl d4.w)
    repeat ac_rfl
    refine ⟨W.ca, _, rfl, .inl (.inl (.inl d4.c)), ?_⟩
    repeat ac_rfl
    have hc1 := d4.oc.1
    have hc2 := d4.oc.2.1
    refine ⟨T, _, rfl, d4.t, by rw [List.length_map]; omega, fun r H5 hr5 f5 t5 => ?_⟩
    have d5 := d4.draw f5 t5
    rw [List.length_map] at hr5
    have hlt : r < W.cs.length := by omega
    refine st_ixl (.inl (.inl d5.c)) (atI_nat (by rw [List.getElem?_map, List.getElem?_eq_getElem hlt]; rfl)) ?_
    repeat ac_rfl
    refine ⟨smN rfl, fun t ht => ?_⟩
    have s6 := same_new ht (.tup [.str "call", .str W.cs[r]])
    exact q0 _ (.call W.cs[r]) f0 f3 _ ((F4.trans (MT.md f5)).trans (Fr.of_same s6)) (d5.same s6) (Tp.of upd_same) (d.oc.2.2 _ (List.getElem_mem hlt)) rfl (by show 1 + f0 ≤ _; omega) (by show 0 + f3 ≤ _; omega)
  · repeat ac_rfl
    refine ⟨smN rfl, fun z hz => ?_⟩
    have s6 := same_new hz (.tup [])
    have e6 : (upd H2 z (.tup [])) z = some (.tup []) := upd_same
    have d6 := d2.same s6
    generalize upd H2 z (.tup []) = H6 at s6 e6 d6
    repeat ac_rfl
    refine ⟨smN rfl, fun t ht => ?_⟩
    have s7 := same_new ht (.tup [.str "block", .ref z])
    exact q0 _ (.block .nil) f0 f3 _ (F2.trans (Fr.of_same (s6.trans s7))) (d6.same s7) ⟨z, [], Tp.of upd_same, .inl (.inl (s7 _ _ e6)), rfl⟩ trivial rfl (by show 0 + 1 + f0 ≤ _; omega) (by show 0 + f3 ≤ _; omega)
end
end K23
namespace K23
open PySem PySem.Spec PyProof.Rows L2 Fl RT
local macro_rules | `(tactic| ac_rfl) => `(tactic| (
  first
    | with_reducible refine Stp.go ?_
    | with_reducible refine st_var (by with_unfolding_all exact rfl) ?_
    | with_reducible refine st_ixt (by with_unfolding_all assumption) (by with_unfolding_all exact rfl) ?_
    | with_reducible refine st_ixl (by with_unfolding_all assumption) (by with_unfolding_all exact rfl) ?_
    | with_reducible refine st_eq (by with_unfolding_all exact rfl) ?_
    | with_reducible refine st_bl ?_
    | with_reducible refine ifb_t ?_
    | with_reducible refine ifb_f ?_
    | with_reducible refine ifs_no (by decide +kernel) ?_
    | with_reducible refine ifs_yes rfl ?_
    | with_reducible refine ifs_yes lab_rfl ?_
    | with_reducible refine ifs_yes num_rfl ?_
    | with_reducible refine ifn_no (by decide +kernel) ?_
    | with_reducible refine ifn_yes rfl ?_
    | with_reducible refine ifnb_t ?_
    | with_reducible refine ifnb_f ?_
    | with_reducible refine st_ne (by with_unfolding_all exact rfl) ?_
    | with_reducible refine st_ix0 (by with_unfolding_all assumption) ?_
    | with_reducible refine st_sl ?_
    | with_reducible refine st_part ?_
    | with_reducible refine st_nopart ?_
    | with_reducible refine st_mulc (by decide) (by decide) ?_
    | with_reducible refine st_modc (by decide) ?_
    | with_reducible refine Or.inl ⟨_, rfl, ?_⟩
    | with_reducible refine ⟨_, rfl, ?_⟩))
def snocR : Stms → Stm → Stms
  | .nil, s => .cons s .nil
  | .cons a r, s => .cons a (snocR r s)
theorem EncX.snoc {K : PySem.W.Frag} {H : Hp} {v : V} {s : Stm} : ∀ {ss : Stms} {us : List V}, EncX K H ss us → EncS K H s v → EncX K H (snocR ss s) (us ++ [v])
  | .nil, _, h, q => by cases (show _ = _ from h); exact ⟨v, [], rfl, q, rfl⟩
  | .cons _ _, _, ⟨u, t, e, h1, h2⟩, q => by rw [e]; exact ⟨u, _, rfl, h1, EncX.snoc h2 q⟩
theorem addsR_snoc (s : Stm) : ∀ ss : Stms, addsR (snocR ss s) = addsR ss ++ addsS s
  | .nil => by show addsS s ++ [] = [] ++ addsS s; simp
  | .cons a r => by show addsS a ++ addsR (snocR r s) = (addsS a ++ addsR r) ++ addsS s; rw [addsR_snoc s r, List.append_assoc]
theorem szR_snoc (s : Stm) : ∀ ss : Stms, szR (snocR ss s) = szR ss + szS s
  | .nil => by show szS s + 0 = 0 + szS s; omega
  | .cons a r => by show szS a + szR (snocR r s) = szS a + szR r + szS s; rw [szR_snoc s r]; omega
theorem letsR_snoc (s : Stm) : ∀ ss : Stms, letsR (snocR ss s) = letsR ss + letsS s
  | .nil => by show letsS s + 0 = 0 + letsS s; omega
  | .cons a r => by show letsS a + letsR (snocR r s) = letsS a + letsR r + letsS s; rw [letsR_snoc s r]; omega
theorem addsR_len : ∀ ss : Stms, (addsR ss).length ≤ szR ss
  | .nil => Nat.le_refl _
  | .cons a r => by
    have h1 := adds_len a
    have h2 := addsR_len r
    show (addsS a ++ addsR r).length ≤ szS a + szR r
    rw [List.length_append]; omega
theorem wfR_snoc {lp : Nat} {la : Bool} {s : Stm} : ∀ {ss : Stms} {vis own : List Nm}, wfR vis own lp la ss → wfS (vis ++ addsR ss) (own ++ addsR ss) lp la s → wfR vis own lp la (snocR ss s)
  | .nil, vis, own, _, h => wfR_cons.mpr ⟨by
      have h' : wfS (vis ++ []) (own ++ []) lp la s := h
      rw [List.append_nil, List.append_nil] at h'; exact h', trivial⟩
  | .cons a r, vis, own, h, q => by
    obtain ⟨h1, h2⟩ := wfR_cons.mp h
    refine wfR_cons.mpr ⟨h1, wfR_snoc h2 ?_⟩
    rw [List.append_assoc, List.append_assoc]; exact q
theorem DAt.tk2 {K : PySem.W.Frag} {H H' : Hp} {T : Tap} {W : Wld} {f0 f3 : Nat} {ga oa : Addr} {x y : List V} (d : DAt H T W f0 f3) (hg : H ga = some (.lst x)) (ho : H oa = some (.lst y)) (f : Fr (MD2 T W ga oa) H H') : TK K H H' :=
  f.tk fun b z => by
    obtain ⟨pl, big, tot, h1, _⟩ := d.t
    obtain ⟨f1, f2, f4, f5, h2⟩ := d.fr
    rcases z with (z | z) | z | z
    · rw [z, h1]; exact ⟨fun xs e => (by cases e), fun o u e => (by cases e)⟩
    · rw [z, h2]; exact ⟨fun xs e => (by cases e), fun o u e => (by cases e)⟩
    · rw [z, hg]; exact ⟨fun xs e => (by cases e), fun o u e => (by cases e)⟩
    · rw [z, ho]; exact ⟨fun xs e => (by cases e), fun o u e => (by cases e)⟩
theorem Fr.then2 {T : Tap} {W : Wld} {ga oa : Addr} {H H1 H2 : Hp} (f : Fr (MD T W) H H1) (hg : H ga = none) (ho : H oa = none) (g : Fr (MD2 T W ga oa) H1 H2) : Fr (MD T W) H H2 := fun b u h n => g b u (f b u h n) fun z => by
  rcases z with z | z | z
  · exact n z
  · rw [z, hg] at h; cases h
  · rw [z, ho] at h; cases h
theorem sev_new {H : Hp} {T : Tap} {W : Wld} {f0 f3 : Nat} (d : DAt H T W f0 f3) {b : Addr} (h : H b = none) : b ∉ sev T W := d.fresh h
def spProg (K : PySem.W.Frag) : Sp := fun vs H Q _ => ∃ (T : Tap) (W : Wld) (f0 f3 : Nat), vs = [.ref T.a, .ref W.a] ∧ DAt H T W f0 f3 ∧ f0 ≤ 14 ∧ f3 ≤ 4 ∧
  ∀ (t : Addr) (ss : Stms) H', Fr (MD T W) H H' → TpAt H' T → EncR K H' ss (.ref t) → wfR [] [] 0 false ss → szR ss ≤ 14 → letsR ss ≤ 4 → Q (.ref t) H'
theorem scBd : FnScope ["_law_tape_here", "_law_world_here", "_law_flags", "_law_loops", "_law_last", "_law_depth", "_law_body_here", "_law_seen", "_law_own", "_law_k"] ["_law_tape_here", "_law_world_here", "_law_flags", "_law_loops", "_law_last", "_law_depth"] (defScope (top 39)) := ⟨rfl, rfl, rfl, by decide +kernel, rfl, by decide +kernel, by decide +kernel⟩
theorem scProg : FnScope ["_law_tape_here", "_law_world_here", "_law_body_here", "_law_seen", "_law_own", "_law_k"] ["_law_tape_here", "_law_world_here"] (defScope (top 40)) := ⟨rfl, rfl, rfl, by decide +kernel, rfl, by decide +kernel, by decide +kernel⟩
section
variable {P : Program} {w : World} {K : PySem.W.Frag} {mg : Str → Option Value} {base : Heap} {fa : Nat → Addr} {fd : Nat → FuncData}
theorem ok_bd {n k : Nat} (hk : 1 ≤ k) (ml : BN mg) (D : DD K mg fa fd) (G_law_statement : FnOk P w K mg base CX0 k (fa 38) (fd 38) ["_law_tape_here", "_law_world_here", "_law_flags", "_law_own", "_law_loops", "_law_last", "_law_depth"] (spStm K n)) : FnOk P w K mg base CX0 (k + 1) (fa 39) (fd 39) ["_law_tape_here", "_law_world_here", "_law_flags", "_law_loops", "_law_last", "_law_depth"] (spBd K n) := by
  have G_law_draw := ok_draw (P := P) (w := w) (base := base) ml D.law_draw
  refine D.law_body.F.ok scBd (fun vs H Q E h => ?_) (fun cdv A outer s H vs Q E hr h => ?_)
  · obtain ⟨T, W, f0, f3, ga, vis, lp, la, dep, rfl, _⟩ := h
    rfl
  obtain ⟨T, W, f0, f3, ga, vis, lp, la, dep, rfl, d, hg, hga, hvl, hdn, q⟩ := h
  refine ⟨_, (pss_cons (ps_set (i := 6) scBd.nd rfl (Or.inl rfl) (pe_lst pa_nil))
      (pss_cons (ps_set (i := 7) scBd.nd rfl (Or.inl rfl) (pe_callTy call_list_of (by rfl) ml.list (by decide +kernel) (pa_cons (pv 2) pa_nil)))
      (pss_cons (ps_set (i := 8) scBd.nd rfl (Or.inl rfl) (pe_lst pa_nil))
      (pss_cons (ps_for PassesOwn.never rfl (pi_range1 rfl ml.range (pa_cons (pe_ix ix_list (pe_lst (pa_cons pe_int (pa_cons pe_int (pa_cons pe_int (pa_cons pe_int (pa_cons pe_int (pa_cons pe_int pa_nil))))))) (pe_cl D.law_draw G_law_draw (hr.mono (by omega)) (pa_cons (pv 0) (pa_cons pe_int pa_nil))) (fun _ _ => rfl)) pa_nil)) (pg_name (i := 9) scBd.nd rfl (Or.inl rfl)) (pss_one (ps_if (pt_cmpR op_gt (pe_ix ix_list (pe_ix ix_list (pv 1) pe_int (fun _ _ => rfl)) pe_int (fun _ _ => rfl)) pe_int (nomark _)) (pss_cons (ps_asg (pe_op op_sub (pe_ix ix_list (pe_ix ix_list (pv 1) pe_int (fun _ _ => rfl)) pe_int (fun _ _ => rfl)) pe_int) (pg_sub (pe_ix ix_list (pv 1) pe_int (fun _ _ => rfl)) pe_int set_list))
      (pss_one (ps_expr (pe_bm PySem.F.plainAttrs_list PySem.F.slot_list_append PySem.F.type_list_append mt_append (pv 6) (pa_cons (pe_cl D.law_statement G_law_statement (hr.mono (by omega)) (pa_cons (pv 0) (pa_cons (pv 1) (pa_cons (pv 7) (pa_cons (pv 8) (pa_cons (pv 3) (pa_cons (pv 4) (pa_cons (pv 5) pa_nil)))))))) pa_nil))))) pss_nil)))
      (pss_one (ps_ret (pe_callTy call_tuple_of (by rfl) ml.tuple (by decide +kernel) (pa_cons (pv 6) pa_nil)))))))), ?_⟩
  dsimp only [cxOf, Cx.nox]
  repeat ac_rfl
  refine ⟨small3 (Nat.zero_le _), fun ba hb0 => ?_⟩
  have s1 := same_new hb0 (.lst [])
  have e1 : (upd H ba (.lst [])) ba = some (.lst []) := upd_same
  generalize upd H ba (.lst []) = H1 at s1 e1
  repeat ac_rfl
  refine ⟨ga, _, rfl, .inl (.inl (.inl (s1 _ _ hg))), fun sa hs1 => ?_⟩
  have hs0 := none_same s1 hs1
  have s2 := same_new hs1 (.lst (vis.map V.str))
  have e2 : (upd H1 sa (.lst (vis.map V.str))) sa = some (.lst (vis.map V.str)) := upd_same
  have nbs : ba ≠ sa := fun z => by rw [← z, e1] at hs1; cases hs1
  generalize upd H1 sa (.lst (vis.map V.str)) = H2 at s2 e2
  repeat ac_rfl
  refine ⟨small3 (Nat.zero_le _), fun oa ho1 => ?_⟩
  have ho0 := none_same (s1.trans s2) ho1
  have s3 := same_new ho1 (.lst [])
  have e3 : (upd H2 oa (.lst [])) oa = some (.lst []) := upd_same
  have nso : sa ≠ oa := fun z => by rw [← z, e2] at ho1; cases ho1
  have nbo : ba ≠ oa := fun z => by rw [← z, s2 _ _ e1] at ho1; cases ho1
  generalize upd H2 oa (.lst []) = H3 at s3 e3
  have hnb := sev_new d hb0
  have hns := sev_new d hs0
  have hno := sev_new d ho0
  have S := (s1.trans s2).trans s3
  have d3 := d.same S
  repeat ac_rfl
  refine ⟨smN rfl, fun lq hlq => ?_⟩
  have s4 := same_new hlq (.lst (([0, 1, 1, 2, 2, 3] : List Nat).map natV))
  have e4 : (upd H3 lq (.lst (([0, 1, 1, 2, 2, 3] : List Nat).map natV))) lq = some (.lst (([0, 1, 1, 2, 2, 3] : List Nat).map natV)) := upd_same
  have d4 := d3.same s4
  have nlq := d3.t.ne hlq
  show tCall spDraw [] E0 _ _ (upd H3 lq (.lst (([0, 1, 1, 2, 2, 3] : List Nat).map natV))) _
  generalize upd H3 lq (.lst (([0, 1, 1, 2, 2, 3] : List Nat).map natV)) = H4 at s4 e4 d4
  repeat ac_rfl
  refine ⟨T, _, rfl, d4.t, by decide, fun r H5 hr5 f5 t5 => ?_⟩
  have d5 := d4.draw f5 t5
  obtain ⟨m, hat, hm⟩ := pickI (ws := [0, 1, 1, 2, 2, 3]) (r := r) (c := 3) (by show r < 6; omega) (by decide)
  refine st_ixl (.inl (.inl (f5 _ _ e4 nlq))) hat ?_
  repeat ac_rfl
  have mb := (sev_ta hnb).1
  have ms := (sev_ta hns).1
  have mo := (sev_ta hno).1
  refine ⟨by omega, by omega, for_range (n := m) (fun k σ' H' => ∃ (us : List V) (ss : Stms) (g0 g3 : Nat) (o9 : Option V), σ' = [some (.ref T.a), some (.ref W.a), some (.ref ga), some (natV lp), some (.bl la), some (natV dep), some (.ref ba), some (.ref sa), some (.ref oa), o9] ∧ Fr (MD T W) H H' ∧ DAt H' T W g0 g3 ∧ H' ba = some (.lst us) ∧ EncX K H' ss us ∧ H' sa = some (.lst ((vis ++ addsR ss).map V.str)) ∧ H' oa = some (.lst ((addsR ss).map V.str)) ∧ wfR vis [] lp la ss ∧ szR ss + g0 ≤ f0 ∧ letsR ss + g3 ≤ f3 ∧ us.length ≤ k) ⟨[], .nil, f0, f3, none, rfl, (Fr.of_same (S.trans s4)).trans (MT.md f5), d5, f5 _ _ (s4 _ _ (s3 _ _ (s2 _ _ e1))) mb, rfl, by show _ = some (HO.lst ((vis ++ []).map V.str)); rw [List.append_nil]; exact f5 _ _ (s4 _ _ (s3 _ _ e2)) ms, f5 _ _ (s4 _ _ e3) mo, trivial, by show 0 + _ ≤ _; omega, by show 0 + _ ≤ _; omega, Nat.zero_le _⟩ ?_ ?_⟩
  · clear d5 d4 d3 f5 t5 e1 e2 e3 e4 s1 s2 s3 s4 S hat hs1 ho1 hlq nlq H5 H4 H3 H2 H1
    rintro k _ H2 hk ⟨us, ss, g0, g3, o9, rfl, F, d2, eb, ex, es, eo, hw, hz, hl, hul⟩
    have hadd := addsR_len ss
    obtain ⟨k1, k2, k4, k5, efr⟩ := d2.fr
    have lfr : SqL K H2 W.fr _ := .inl (.inl efr)
    have lw : SqL K H2 W.a _ := .inl (.inl d2.w)
    repeat ac_rfl
    refine ifb (fun hz1 => ?_) (fun hz1 => ?_)
    rotate_left
    · repeat ac_rfl
      exact ⟨us, ss, g0, g3, _, rfl, F, d2, eb, ex, es, eo, hw, hz, hl, by omega⟩
    have hg0 : 0 < g0 := by
      have := of_decide_eq_true hz1
      omega
    repeat ac_rfl
    refine ⟨_, rfl, W.a, _, 0, .ref W.fr, rfl, rfl, lw, rfl, W.fr, _, 0, 0, rfl, rfl, efr, rfl, ?_⟩
    have d3 := d2.put (g0 - 1) g3 k1 k2 k4 k5
    have es9 : [natV g0, .int k1, .int k2, natV g3, .int k4, .int k5].set 0 (.int ((g0 : Int) - 1)) = [natV (g0 - 1), .int k1, .int k2, natV g3, .int k4, .int k5] := by
      have e : (g0 : Int) - 1 = ((g0 - 1 : Nat) : Int) := by omega
      rw [e]; rfl
    rw [es9]
    have f3' : Fr (MD T W) H2 (upd H2 W.fr (.lst [natV (g0 - 1), .int k1, .int k2, natV g3, .int k4, .int k5])) := Fr.refl.upd (.inl (.inr rfl))
    have ex3 := EncX.mono (d2.tk f3') ss ex
    generalize upd H2 W.fr (.lst [natV (g0 - 1), .int k1, .int k2, natV g3, .int k4, .int k5]) = H3 at d3 f3' ex3
    have eb3 := f3' _ _ eb (sev_md hnb)
    have es3 := f3' _ _ es (sev_md hns)
    have eo3 := f3' _ _ eo (sev_md hno)
    repeat ac_rfl
    refine ⟨.inl ⟨rfl, _, .inl (.inl eb3)⟩, ?_⟩
    repeat ac_rfl
    refine ⟨T, W, g0 - 1, g3, sa, oa, vis ++ addsR ss, addsR ss, lp, la, dep, rfl, d3, es3, eo3, hns, hno, nso, by rw [List.length_append]; omega, by omega, hdn, fun v st p0 p3 H4 f4 d4 he hws hsz hsl hs4 ho4 => ?_⟩
    have eb4 := f4 _ _ eb3 fun z => by
      rcases z with z | z | z
      · exact sev_md hnb z
      · exact nbs z
      · exact nbo z
    have k34 : TK K H3 H4 := d3.tk2 es3 eo3 f4
    have F4 : Fr (MD T W) H H4 := (F.trans f3').then2 hs0 ho0 f4
    repeat ac_rfl
    refine ⟨ba, _, _, rfl, rfl, eb4, small_lt (by omega), ?_⟩
    have kp : TK K H4 (upd H4 ba (.lst (us ++ [v]))) := TK.put _ eb4 (fun _ z => (by cases z)) fun _ _ z => (by cases z)
    refine ⟨us ++ [v], snocR ss st, p0, p3, _, rfl, F4.upd (.inr hb0), d4.oth hnb, upd_same, EncX.snoc (EncX.mono (k34.trans kp) ss ex3) (EncS.mono kp st he), ?_, ?_, wfR_snoc hw hws, ?_, ?_, ?_⟩
    · rw [upd_ne (Ne.symm nbs), hs4, addsR_snoc, List.append_assoc]
    · rw [upd_ne (Ne.symm nbo), ho4, addsR_snoc]
    · rw [szR_snoc]; omega
    · rw [letsR_snoc]; omega
    · rw [List.length_append, List.length_singleton]; omega
  · rintro σ H6 ⟨us, ss, g0, g3, o9, rfl, F, d6, eb, ex, es, eo, hw, hz, hl, hul⟩
    repeat ac_rfl
    refine ⟨ba, _, rfl, .inl ⟨.inl (.inl eb), fun t ht => ?_⟩⟩
    have s7 := same_new ht (.tup us)
    exact q _ ss g0 g3 _ (F.trans (Fr.of_same s7)) (d6.same s7) ⟨t, us, rfl, .inl (.inl upd_same), EncX.mono (TK.of_same s7) ss ex⟩ hw hz hl
theorem ok_prog {k : Nat} (hk : 1 ≤ k) (ml : BN mg) (D : DD K mg fa fd) (G_law_statement : FnOk P w K mg base CX0 k (fa 38) (fd 38) ["_law_tape_here", "_law_world_here", "_law_flags", "_law_own", "_law_loops", "_law_last", "_law_depth"] (spStm K 6)) : FnOk P w K mg base CX0 (k + 1) (fa 40) (fd 40) ["_law_tape_here", "_law_world_here"] (spProg K) := by
  have G_law_draw := ok_draw (P := P) (w := w) (base := base) ml D.law_draw
  refine D.law_program.F.ok scProg (fun vs H Q E h => ?_) (fun cdv A outer s H vs Q E hr h => ?_)
  · obtain ⟨T, W, f0, f3, rfl, _⟩ := h
    rfl
  obtain ⟨T, W, f0, f3, rfl, d, hf0, hf3, q⟩ := h
  have hdn : 5 < 6 := by decide
  refine ⟨_, (pss_cons (ps_set (i := 2) scProg.nd rfl (Or.inl rfl) (pe_lst pa_nil))
      (pss_cons (ps_set (i := 3) scProg.nd rfl (Or.inl rfl) (pe_lst pa_nil))
      (pss_cons (ps_set (i := 4) scProg.nd rfl (Or.inl rfl) (pe_lst pa_nil))
      (pss_cons (ps_for PassesOwn.never rfl (pi_range1 rfl ml.range (pa_cons (pe_op op_add pe_int (pe_cl D.law_draw G_law_draw (hr.mono (by omega)) (pa_cons (pv 0) (pa_cons pe_int pa_nil)))) pa_nil)) (pg_name (i := 5) scProg.nd rfl (Or.inl rfl)) (pss_one (ps_if (pt_cmpR op_gt (pe_ix ix_list (pe_ix ix_list (pv 1) pe_int (fun _ _ => rfl)) pe_int (fun _ _ => rfl)) pe_int (nomark _)) (pss_cons (ps_asg (pe_op op_sub (pe_ix ix_list (pe_ix ix_list (pv 1) pe_int (fun _ _ => rfl)) pe_int (fun _ _ => rfl)) pe_int) (pg_sub (pe_ix ix_list (pv 1) pe_int (fun _ _ => rfl)) pe_int set_list))
      (pss_one (ps_expr (pe_bm PySem.F.plainAttrs_list PySem.F.slot_list_append PySem.F.type_list_append mt_append (pv 2) (pa_cons (pe_cl D.law_statement G_law_statement (hr.mono (by omega)) (pa_cons (pv 0) (pa_cons (pv 1) (pa_cons (pv 3) (pa_cons (pv 4) (pa_cons pe_int (pa_cons pe_bl (pa_cons pe_int pa_nil)))))))) pa_nil))))) pss_nil)))
      (pss_one (ps_ret (pe_callTy call_tuple_of (by rfl) ml.tuple (by decide +kernel) (pa_cons (pv 2) pa_nil)))))))), ?_⟩
  dsimp only [cxOf, Cx.nox]
  repeat ac_rfl
  refine ⟨small3 (Nat.zero_le _), fun ba hb0 => ?_⟩
  have s1 := same_new hb0 (.lst [])
  have e1 : (upd H ba (.lst [])) ba = some (.lst []) := upd_same
  generalize upd H ba (.lst []) = H1 at s1 e1
  repeat ac_rfl
  refine ⟨small3 (Nat.zero_le _), fun sa hs1 => ?_⟩
  have hs0 := none_same s1 hs1
  have s2 := same_new hs1 (.lst [])
  have e2 : (upd H1 sa (.lst [])) sa = some (.lst []) := upd_same
  have nbs : ba ≠ sa := fun z => by rw [← z, e1] at hs1; cases hs1
  generalize upd H1 sa (.lst []) = H2 at s2 e2
  repeat ac_rfl
  refine ⟨small3 (Nat.zero_le _), fun oa ho1 => ?_⟩
  have ho0 := none_same (s1.trans s2) ho1
  have s3 := same_new ho1 (.lst [])
  have e3 : (upd H2 oa (.lst [])) oa = some (.lst []) := upd_same
  have nso : sa ≠ oa := fun z => by rw [← z, e2] at ho1; cases ho1
  have nbo : ba ≠ oa := fun z => by rw [← z, s2 _ _ e1] at ho1; cases ho1
  generalize upd H2 oa (.lst []) = H3 at s3 e3
  have hnb := sev_new d hb0
  have hns := sev_new d hs0
  have hno := sev_new d ho0
  have S := (s1.trans s2).trans s3
  have d3 := d.same S
  repeat ac_rfl
  refine ⟨_, rfl, T, _, rfl, d3.t, by decide, fun r H5 hr5 f5 t5 => ?_⟩
  have d5 := d3.draw f5 t5
  obtain ⟨m, hm⟩ : ∃ m, m = 1 + r := ⟨_, rfl⟩
  repeat ac_rfl
  rw [show (1 : Int) + ((r : Nat) : Int) = ((m : Nat) : Int) by omega]
  have mb := (sev_ta hnb).1
  have ms := (sev_ta hns).1
  have mo := (sev_ta hno).1
  refine ⟨by omega, by omega, for_range (n := m) (fun k σ' H' => ∃ (us : List V) (ss : Stms) (g0 g3 : Nat) (o9 : Option V), σ' = [some (.ref T.a), some (.ref W.a), some (.ref ba), some (.ref sa), some (.ref oa), o9] ∧ Fr (MD T W) H H' ∧ DAt H' T W g0 g3 ∧ H' ba = some (.lst us) ∧ EncX K H' ss us ∧ H' sa = some (.lst (([] ++ addsR ss).map V.str)) ∧ H' oa = some (.lst ((addsR ss).map V.str)) ∧ wfR [] [] 0 false ss ∧ szR ss + g0 ≤ f0 ∧ letsR ss + g3 ≤ f3 ∧ us.length ≤ k) ⟨[], .nil, f0, f3, none, rfl, (Fr.of_same S).trans (MT.md f5), d5, f5 _ _ (s3 _ _ (s2 _ _ e1)) mb, rfl, f5 _ _ (s3 _ _ e2) ms, f5 _ _ e3 mo, trivial, by show 0 + _ ≤ _; omega, by show 0 + _ ≤ _; omega, Nat.zero_le _⟩ ?_ ?_⟩
  · clear d5 d3 f5 t5 e1 e2 e3 s1 s2 s3 S hs1 ho1 H5 H3 H2 H1
    rintro k _ H2 hk ⟨us, ss, g0, g3, o9, rfl, F, d2, eb, ex, es, eo, hw, hz, hl, hul⟩
    have hadd := addsR_len ss
    obtain ⟨k1, k2, k4, k5, efr⟩ := d2.fr
    have lfr : SqL K H2 W.fr _ := .inl (.inl efr)
    have lw : SqL K H2 W.a _ := .inl (.inl d2.w)
    repeat ac_rfl
    refine ifb (fun hz1 => ?_) (fun hz1 => ?_)
    rotate_left
    · repeat ac_rfl
      exact ⟨us, ss, g0, g3, _, rfl, F, d2, eb, ex, es, eo, hw, hz, hl, by omega⟩
    have hg0 : 0 < g0 := by
      have := of_decide_eq_true hz1
      omega
    repeat ac_rfl
    refine ⟨_, rfl, W.a, _, 0, .ref W.fr, rfl, rfl, lw, rfl, W.fr, _, 0, 0, rfl, rfl, efr, rfl, ?_⟩
    have d3 := d2.put (g0 - 1) g3 k1 k2 k4 k5
    have es9 : [natV g0, .int k1, .int k2, natV g3, .int k4, .int k5].set 0 (.int ((g0 : Int) - 1)) = [natV (g0 - 1), .int k1, .int k2, natV g3, .int k4, .int k5] := by
      have e : (g0 : Int) - 1 = ((g0 - 1 : Nat) : Int) := by omega
      rw [e]; rfl
    rw [es9]
    have f3' : Fr (MD T W) H2 (upd H2 W.fr (.lst [natV (g0 - 1), .int k1, .int k2, natV g3, .int k4, .int k5])) := Fr.refl.upd (.inl (.inr rfl))
    have ex3 := EncX.mono (d2.tk f3') ss ex
    generalize upd H2 W.fr (.lst [natV (g0 - 1), .int k1, .int k2, natV g3, .int k4, .int k5]) = H3 at d3 f3' ex3
    have eb3 := f3' _ _ eb (sev_md hnb)
    have es3 := f3' _ _ es (sev_md hns)
    have eo3 := f3' _ _ eo (sev_md hno)
    repeat ac_rfl
    refine ⟨.inl ⟨rfl, _, .inl (.inl eb3)⟩, ?_⟩
    repeat ac_rfl
    refine ⟨T, W, g0 - 1, g3, sa, oa, [] ++ addsR ss, addsR ss, 0, false, 5, rfl, d3, es3, eo3, hns, hno, nso, by rw [List.length_append]; show 0 + _ + _ ≤ _; omega, by omega, hdn, fun v st p0 p3 H4 f4 d4 he hws hsz hsl hs4 ho4 => ?_⟩
    have eb4 := f4 _ _ eb3 fun z => by
      rcases z with z | z | z
      · exact sev_md hnb z
      · exact nbs z
      · exact nbo z
    have k34 : TK K H3 H4 := d3.tk2 es3 eo3 f4
    have F4 : Fr (MD T W) H H4 := (F.trans f3').then2 hs0 ho0 f4
    repeat ac_rfl
    refine ⟨ba, _, _, rfl, rfl, eb4, small_lt (by omega), ?_⟩
    have kp : TK K H4 (upd H4 ba (.lst (us ++ [v]))) := TK.put _ eb4 (fun _ z => (by cases z)) fun _ _ z => (by cases z)
    refine ⟨us ++ [v], snocR ss st, p0, p3, _, rfl, F4.upd (.inr hb0), d4.oth hnb, upd_same, EncX.snoc (EncX.mono (k34.trans kp) ss ex3) (EncS.mono kp st he), ?_, ?_, wfR_snoc hw hws, ?_, ?_, ?_⟩
    · rw [upd_ne (Ne.symm nbs), hs4, addsR_snoc, List.append_assoc]
    · rw [upd_ne (Ne.symm nbo), ho4, addsR_snoc]
    · rw [szR_snoc]; omega
    · rw [letsR_snoc]; omega
    · rw [List.length_append, List.length_singleton]; omega
  · rintro σ H6 ⟨us, ss, g0, g3, o9, rfl, F, d6, eb, ex, es, eo, hw, hz, hl, hul⟩
    repeat ac_rfl
    refine ⟨ba, _, rfl, .inl ⟨.inl (.inl eb), fun t ht => ?_⟩⟩
    have s7 := same_new ht (.tup us)
    exact q _ ss _ (F.trans (Fr.of_same s7)) (d6.t.same s7) ⟨t, us, rfl, .inl (.inl upd_same), EncX.mono (TK.of_same s7) ss ex⟩ hw (by omega) (by omega)
theorem bd_all (ml : BN mg) (D : DD K mg fa fd) : ∀ n : Nat, FnOk P w K mg base CX0 (3 * n + 21) (fa 39) (fd 39) ["_law_tape_here", "_law_world_here", "_law_flags", "_law_loops", "_law_last", "_law_depth"] (spBd K n)
  | 0 => fn_none fun vs H Q E ⟨_, _, _, _, _, _, _, _, _, _, _, _, _, _, h, _⟩ => absurd h (Nat.not_lt_zero _)
  | n + 1 => by
    have GB := bd_all ml D n
    have GN := ok_nest (by omega) ml D GB
    have GS := ok_stm (by omega) ml D GN
    exact (ok_bd (by omega) ml D GS).mono (by omega)
theorem prog_all (ml : BN mg) (D : DD K mg fa fd) : FnOk P w K mg base CX0 50 (fa 40) (fd 40) ["_law_tape_here", "_law_world_here"] (spProg K) := by
  have GB := bd_all (P := P) (w := w) (base := base) ml D 5
  have GN := ok_nest (by omega) ml D GB
  have GS := ok_stm (by omega) ml D GN
  exact (ok_prog (by omega) ml D GS).mono (by omega)
end
end K23
namespace K23
open PySem PySem.Spec PyProof.Rows L2 Fl RT
local macro_rules | `(tactic| ac_rfl) => `(tactic| (
  first
    | with_reducible refine Stp.go ?_
    | with_reducible refine st_var (by with_unfolding_all exact rfl) ?_
    | with_reducible refine st_ixt (by with_unfolding_all assumption) (by with_unfolding_all exact rfl) ?_
    | with_reducible refine st_ixl (by with_unfolding_all assumption) (by with_unfolding_all exact rfl) ?_
    | with_reducible refine st_eq (by with_unfolding_all exact rfl) ?_
    | with_reducible refine st_bl ?_
    | with_reducible refine ifb_t ?_
    | with_reducible refine ifb_f ?_
    | with_reducible refine ifs_no (by decide +kernel) ?_
    | with_reducible refine ifs_yes rfl ?_
    | with_reducible refine ifs_yes lab_rfl ?_
    | with_reducible refine ifs_yes num_rfl ?_
    | with_reducible refine ifn_no (by decide +kernel) ?_
    | with_reducible refine ifn_yes rfl ?_
    | with_reducible refine ifnb_t ?_
    | with_reducible refine ifnb_f ?_
    | with_reducible refine st_ne (by with_unfolding_all exact rfl) ?_
    | with_reducible refine st_ix0 (by with_unfolding_all assumption) ?_
    | with_reducible refine st_sl ?_
    | with_reducible refine st_part ?_
    | with_reducible refine st_nopart ?_
    | with_reducible refine st_mulc (by decide) (by decide) ?_
    | with_reducible refine st_modc (by decide) ?_
    | with_reducible refine Or.inl ⟨_, rfl, ?_⟩
    | with_reducible refine ⟨_, rfl, ?_⟩))
def spAns (K : PySem.W.Frag) : Sp := fun vs H Q _ => ∃ (T : Tap), vs = [.ref T.a] ∧ TpAt H T ∧ ∀ (t : Addr) (as : List Bool) H', Fr (MT T) H H' → TpAt H' T → H' t = some (.tup (as.map V.bl)) → as.length ≤ 40 → Q (.ref t) H'
theorem scAns : FnScope ["_law_tape_here", "_law_many", "_law_share", "_law_limit", "_law_k"] ["_law_tape_here"] (defScope (top 48)) := ⟨rfl, rfl, rfl, by decide +kernel, rfl, by decide +kernel, by decide +kernel⟩
section
variable {P : Program} {w : World} {K : PySem.W.Frag} {mg : Str → Option Value} {base : Heap} {fa : Nat → Addr} {fd : Nat → FuncData}
theorem ok_ans (ml : BN mg) (D : DD K mg fa fd) : FnOk P w K mg base CX0 2 (fa 48) (fd 48) ["_law_tape_here"] (spAns K) := by
  have G_law_draw := ok_draw (P := P) (w := w) (base := base) ml D.law_draw
  refine D.law_answers.F.ok scAns (fun vs H Q E h => ?_) (fun cdv A outer s H vs Q E hr h => ?_)
  · obtain ⟨T, rfl, _⟩ := h
    rfl
  obtain ⟨T, rfl, tp, q⟩ := h
  refine ⟨_, (pss_cons (ps_set (i := 1) scAns.nd rfl (Or.inl rfl) (pe_cl D.law_draw G_law_draw (hr.mono (by omega)) (pa_cons (pv 0) (pa_cons (pe_ix ix_list (pe_lst (pa_cons pe_int (pa_cons pe_int (pa_cons pe_int (pa_cons pe_int pa_nil))))) (pe_cl D.law_draw G_law_draw (hr.mono (by omega)) (pa_cons (pv 0) (pa_cons pe_int pa_nil))) (fun _ _ => rfl)) pa_nil))))
      (pss_cons (ps_set (i := 2) scAns.nd rfl (Or.inr rfl) (pe_ix ix_list (pe_lst (pa_cons pe_int (pa_cons pe_int (pa_cons pe_int (pa_cons pe_int pa_nil))))) (pe_cl D.law_draw G_law_draw (hr.mono (by omega)) (pa_cons (pv 0) (pa_cons pe_int pa_nil))) (fun _ _ => rfl)))
      (pss_cons (ps_set (i := 3) scAns.nd rfl (Or.inr rfl) (pe_cmpR op_eq (pe_cl D.law_draw G_law_draw (hr.mono (by omega)) (pa_cons (pv 0) (pa_cons pe_int pa_nil))) pe_int (nomark _)))
      (pss_one (ps_ret (pe_callTy call_tuple_of (by rfl) ml.tuple (by decide +kernel) (pa_cons (pe_lc (own := [("_law_k", 4)]) (g := gName 4) (tt := tYes) (te := tOp rEq (tOp (rI0 fun i j => .bl (decide (j < i))) (tCall spDraw [] E0 (tCons (tVar 0) (tCons (tVar 2) tNil))) (tC (.int 0))) (tVar 3)) rfl scAns.nd (pi_range1 rfl ml.range (pa_cons (pv 1) pa_nil)) (blkOk_by (N := ["_law_tape_here", "_law_many", "_law_share", "_law_limit", "_law_k"]) (sc := defScope (top 48)) (by decide +kernel)) (fun _ _ _ _ _ => pg_name (i := 4) scAns.nd rfl (Or.inl rfl)) (fun _ _ _ _ _ => pts_nil) (fun _ _ _ _ _ => pe_cmpR op_eq (pe_cmpR op_gt (pe_cl D.law_draw G_law_draw (hr.mono (by omega)) (pa_cons (pv 0) (pa_cons (pv 2) pa_nil))) pe_int (nomark _)) (pv 3) (nomark _))) pa_nil))))))), ?_⟩
  dsimp only [cxOf, Cx.nox]
  repeat ac_rfl
  refine ⟨smN rfl, fun lq hlq => ?_⟩
  have s1 := same_new hlq (.lst (([4, 10, 10, 41] : List Nat).map natV))
  have e1 : (upd H lq (.lst (([4, 10, 10, 41] : List Nat).map natV))) lq = some (.lst (([4, 10, 10, 41] : List Nat).map natV)) := upd_same
  have t1 := tp.same s1
  have nlq := tp.ne hlq
  show tCall spDraw [] E0 _ _ (upd H lq (.lst (([4, 10, 10, 41] : List Nat).map natV))) _
  generalize upd H lq (.lst (([4, 10, 10, 41] : List Nat).map natV)) = H1 at s1 e1 t1
  repeat ac_rfl
  refine ⟨T, _, rfl, t1, by decide, fun r H2 hr2 f2 t2 => ?_⟩
  obtain ⟨m, hat, hm⟩ := pickI (ws := [4, 10, 10, 41]) (r := r) (c := 41) (by show r < 4; omega) (by decide)
  refine st_ixl (.inl (.inl (f2 _ _ e1 nlq))) hat ?_
  repeat ac_rfl
  refine ⟨T, _, rfl, t2, by omega, fun many H3 hr3 f3 t3 => ?_⟩
  repeat ac_rfl
  refine ⟨smN rfl, fun lq2 hlq2 => ?_⟩
  have s4 := same_new hlq2 (.lst (([2, 2, 4, 9] : List Nat).map natV))
  have e4 : (upd H3 lq2 (.lst (([2, 2, 4, 9] : List Nat).map natV))) lq2 = some (.lst (([2, 2, 4, 9] : List Nat).map natV)) := upd_same
  have t4 := t3.same s4
  have nlq2 := t3.ne hlq2
  show tCall spDraw [] E0 _ _ (upd H3 lq2 (.lst (([2, 2, 4, 9] : List Nat).map natV))) _
  generalize upd H3 lq2 (.lst (([2, 2, 4, 9] : List Nat).map natV)) = H4 at s4 e4 t4
  repeat ac_rfl
  refine ⟨T, _, rfl, t4, by decide, fun r5 H5 hr5 f5 t5 => ?_⟩
  obtain ⟨sh, hat2, hsh⟩ := pickI (ws := [2, 2, 4, 9]) (r := r5) (c := 9) (by show r5 < 4; omega) (by decide)
  refine st_ixl (.inl (.inl (f5 _ _ e4 nlq2))) hat2 ?_
  repeat ac_rfl
  refine ⟨T, _, rfl, t5, by decide, fun r6 H6 hr6 f6 t6 => ?_⟩
  have F6 : Fr (MT T) H H6 := (Fr.of_same s1).trans (f2.trans (f3.trans ((Fr.of_same s4).trans (f5.trans f6))))
  clear s1 e1 t1 f2 t2 f3 t3 s4 e4 t4 f5 t5 f6 hat hat2 hlq hlq2 nlq nlq2
  repeat ac_rfl
  generalize decide (natV r6 = V.int 0) = lim
  refine ⟨_, rfl, _, rfl, by omega, by omega, fun D0 hD0 => ?_⟩
  have hD := none_fr F6 (t6.ne hD0) hD0
  have ta0 := t6.ne hD0
  have ta1 := t6.ne2 hD0
  refine lc_range (lo := 0) (n := many) (fun i H' => Fr (MT T) H H' ∧ TpAt H' T ∧ ∃ as : List Bool, H' D0 = some (.lst (as.map V.bl)) ∧ as.length = i) ⟨F6.trans (Fr.of_same (same_new hD0 _)), t6.same (same_new hD0 _), [], upd_same, rfl⟩ ?_ ?_
  · rintro i H7 hi ⟨F7, t7, as, ea, hal⟩
    refine ⟨rfl, ?_⟩
    refine st_yes ?_
    repeat ac_rfl
    refine ⟨T, _, rfl, t7, by omega, fun r8 H8 hr8 f8 t8 => ?_⟩
    repeat ac_rfl
    have e8 := f8 _ _ ea ta0
    refine ⟨_, e8, small_lt (by rw [List.length_map]; omega), (F7.trans f8).upd (.inr hD), t8.put ta0 ta1, as ++ [_], by rw [upd_same, List.map_append]; rfl, by rw [List.length_append, List.length_singleton, hal]⟩
  · rintro H7 ⟨F7, t7, as, ea, hal⟩
    refine ⟨D0, _, rfl, .inl ⟨.inl (.inl ea), fun t ht => ?_⟩⟩
    have s8 := same_new ht (.tup (as.map V.bl))
    exact q t as _ (F7.trans (Fr.of_same s8)) (t7.same s8) upd_same (by omega)
end
end K23
namespace K23
open PySem PySem.Spec PyProof.Rows L2 Fl RT
section
variable {vis vis' : List Nm} (h : ∀ x ∈ vis, x ∈ vis')
mutual
theorem wk_C {vis vis' : List Nm} (h : ∀ x ∈ vis, x ∈ vis') : ∀ c : Cond, wfC vis c → wfC vis' c
  | .call n, q => q
  | .flag n, q => h n q
  | .not c, q => wk_C h c q
  | .and cs, q => wk_Cs h cs q
  | .or cs, q => wk_Cs h cs q
theorem wk_Cs {vis vis' : List Nm} (h : ∀ x ∈ vis, x ∈ vis') : ∀ cs : Conds, wfCs vis cs → wfCs vis' cs
  | .nil, _ => trivial
  | .cons c r, ⟨q1, q2⟩ => ⟨wk_C h c q1, wk_Cs h r q2⟩
end
end
theorem wk_app {vis vis' ad : List Nm} (h : ∀ x ∈ vis, x ∈ vis') : ∀ x ∈ vis ++ ad, x ∈ vis' ++ ad := fun x hx => by
  rcases List.mem_append.mp hx with z | z
  · exact List.mem_append_left _ (h x z)
  · exact List.mem_append_right _ z
mutual
theorem wk_S {vis vis' : List Nm} (h : ∀ x ∈ vis, x ∈ vis') : ∀ (s : Stm) (own : List Nm) (lp : Nat) (la : Bool), wfS vis own lp la s → wfS vis' own lp la s
  | .call n, _, _, _, q => q
  | .letf x b, _, _, _, q => q
  | .setf x b, _, _, _, q => h x q
  | .ite c a b, _, lp, la, ⟨q1, q2, q3, q4⟩ => ⟨wk_C h c q1, q2, wk_R h a [] lp la q3, wk_R h b [] lp la q4⟩
  | .whl l c a, _, lp, la, ⟨q1, q2, q3, q4⟩ => ⟨q1, wk_C h c q2, q3, wk_R h a [] (lp + 1) la q4⟩
  | .forl l a, _, lp, la, ⟨q1, q2⟩ => ⟨q1, wk_R h a [] (lp + 1) la q2⟩
  | .brk l, _, _, _, q => q
  | .cont l, _, _, _, q => q
  | .ret n, _, _, _, q => q
  | .tryf a b, _, lp, la, ⟨q1, q2, q3⟩ => ⟨q1, wk_R h a [] lp la q2, wk_R h b [] lp true q3⟩
  | .block a, _, lp, la, q => wk_R h a [] lp la q
theorem wk_R {vis vis' : List Nm} (h : ∀ x ∈ vis, x ∈ vis') : ∀ (ss : Stms) (own : List Nm) (lp : Nat) (la : Bool), wfR vis own lp la ss → wfR vis' own lp la ss
  | .nil, _, _, _, _ => trivial
  | .cons s r, own, lp, la, q => by
    obtain ⟨q1, q2⟩ := wfR_cons.mp q
    exact wfR_cons.mpr ⟨wk_S h s own lp la q1, wk_R (wk_app h) r _ lp la q2⟩
end
theorem good_ev {n : Nm} (h : nmOk n) : Gd 100 (evName n) := ((Gd.of_nm h).app (Gd.of (c := 2) (n := "()") (by decide +kernel))).mono (by decide)
theorem good_out {o : Out} {t : Str} (h : oOk o) (e : outTxt o = some t) : Gd 100 t := by
  cases o with
  | next f => cases e; exact Gd.of (by decide +kernel)
  | hang => cases e; exact Gd.of (by decide +kernel)
  | wait => cases e
  | jump j f =>
    have hj := h j f rfl
    cases j with
    | ret n =>
      cases n with
      | none => cases e; exact Gd.of (by decide +kernel)
      | some n =>
        cases e
        obtain ⟨h0, h1⟩ := hj.1 n rfl
        have g := numGd (k := n.toNat) (by omega)
        rw [show ((n.toNat : Nat) : Int) = n by omega] at g
        exact ((Gd.of (c := 7) (n := ("return" : Str) ++ (" " : Str)) (by decide +kernel)).app g).mono (by decide)
    | brk l =>
      cases l with
      | none => cases e; exact Gd.of (by decide +kernel)
      | some n =>
        cases e
        exact ((Gd.of (c := 6) (n := ("break" : Str) ++ (" " : Str)) (by decide +kernel)).app (Gd.of_nm (hj.2 n (.inl rfl)))).mono (by decide)
    | cont l =>
      cases l with
      | none => cases e; exact Gd.of (by decide +kernel)
      | some n =>
        cases e
        exact ((Gd.of (c := 9) (n := ("continue" : Str) ++ (" " : Str)) (by decide +kernel)).app (Gd.of_nm (hj.2 n (.inr rfl)))).mono (by decide)
theorem run_eq {as : List Bool} {p : Stms} {o : Out} {m : Fl.Made} (h : exB as p [] [] = (o, m)) : Fl.run as p = m.map evName ++ (outTxt o).toList := by
  unfold Fl.run events
  rw [h]
theorem run_good {as : List Bool} {p : Stms} (hw : wfR [] [] 0 false p) : ∀ t ∈ Fl.run as p, Gd 100 t := fun t ht => by
  rcases h : exB as p [] [] with ⟨o, m⟩
  rw [run_eq h] at ht
  have hm := mo_B (as := as) hw [] [] mo_nil
  have ho := oOk_B (as := as) hw [] []
  rw [h] at hm ho
  rcases List.mem_append.mp ht with z | z
  · obtain ⟨n, hn, rfl⟩ := List.mem_map.mp z
    exact good_ev (hm n hn)
  · rw [Option.mem_toList] at z
    exact good_out ho z
/-- how long the events are -/
theorem run_len {as : List Bool} {p : Stms} {o : Out} {m : Fl.Made} (h : exB as p [] [] = (o, m)) : m.length ≤ as.length + 1 ∧ ((o = .wait ∧ m.length = as.length + 1 ∧ (Fl.run as p).length = as.length + 1) ∨ (∃ t, outTxt o = some t ∧ Fl.run as p = m.map evName ++ [t])) := by
  have g := (exB_fine as p [] []).gr.2 (Nat.zero_le _)
  rw [h] at g
  have e := run_eq h
  cases o with
  | wait =>
    have h2 : m.length = as.length + 1 := g.2 rfl
    refine ⟨by omega, .inl ⟨rfl, h2, ?_⟩⟩
    rw [e]
    show (m.map evName ++ []).length = _
    rw [List.append_nil, List.length_map, h2]
  | next f => exact ⟨Nat.le_succ_of_le (g.1 rfl), .inr ⟨_, rfl, e⟩⟩
  | hang => exact ⟨Nat.le_succ_of_le (g.1 rfl), .inr ⟨_, rfl, e⟩⟩
  | jump j f =>
    refine ⟨Nat.le_succ_of_le (g.1 rfl), .inr ?_⟩
    cases ht : outTxt (.jump j f) with
    | none => cases j with
      | ret n => cases n <;> cases ht
      | brk n => cases n <;> cases ht
      | cont n => cases n <;> cases ht
    | some t => exact ⟨t, rfl, by rw [e, ht]; rfl⟩
theorem ev_ne_end (n : Nm) : evName n ≠ ("end" : Str) := fun e => by
  have h := congrArg (fun s => (cl s).getLast?) e
  have e1 : cl (evName n) = cl n ++ cl ("()" : Str) := cl_app n _
  have e2 : cl ("()" : Str) = [40, 41] := by decide +kernel
  have e3 : cl ("end" : Str) = [101, 110, 100] := by decide +kernel
  simp only [e1, e2, e3] at h
  rw [List.getLast?_append] at h
  simp at h
theorem app_ne_end {a b : Str} (h : (cl a).head? ≠ some 101) (h2 : cl a ≠ []) : a ++ b ≠ ("end" : Str) := fun e => by
  have h1 := congrArg (fun s => (cl s).head?) e
  have e3 : cl ("end" : Str) = [101, 110, 100] := by decide +kernel
  simp only [cl_app, e3] at h1
  cases hc : cl a with
  | nil => exact h2 hc
  | cons x r =>
    rw [hc] at h1 h
    exact h h1
theorem out_end {o : Out} {t : Str} (e : outTxt o = some t) : t = "end" ↔ isEnd o = true := by
  cases o with
  | next f => cases e; exact ⟨fun _ => rfl, fun _ => rfl⟩
  | hang => cases e; exact ⟨fun z => absurd z (by decide +kernel), fun z => by cases z⟩
  | wait => cases e
  | jump j f =>
    refine ⟨fun z => ?_, fun z => by cases z⟩
    exfalso
    cases j with
    | ret n =>
      cases n with
      | none => cases e; exact absurd z (by decide +kernel)
      | some n => cases e; exact app_ne_end (a := ("return" : Str) ++ (" " : Str)) (by decide +kernel) (by decide +kernel) z
    | brk l =>
      cases l with
      | none => cases e; exact absurd z (by decide +kernel)
      | some n => cases e; exact app_ne_end (a := ("break" : Str) ++ (" " : Str)) (by decide +kernel) (by decide +kernel) z
    | cont l =>
      cases l with
      | none => cases e; exact absurd z (by decide +kernel)
      | some n => cases e; exact app_ne_end (a := ("continue" : Str) ++ (" " : Str)) (by decide +kernel) (by decide +kernel) z
/-- the events that are due -/
def due (one other : List Str) : List Str := if one[one.length - 1]? = some ("end" : Str) then one.take (one.length - 1) ++ other else one
theorem run_pos {as : List Bool} {p : Stms} : 0 < (Fl.run as p).length := by
  rcases h : exB as p [] [] with ⟨o, m⟩
  rcases (run_len h).2 with ⟨_, _, e⟩ | ⟨t, _, e⟩
  · omega
  · rw [e]; simp
theorem run_le {as : List Bool} {p : Stms} : (Fl.run as p).length ≤ as.length + 2 := by
  rcases h : exB as p [] [] with ⟨o, m⟩
  obtain ⟨h1, h2⟩ := run_len h
  rcases h2 with ⟨_, _, e⟩ | ⟨t, _, e⟩
  · omega
  · rw [e]; simp; omega
theorem due_ok {as : List Bool} {p q : Stms} {o : Out} {m : Fl.Made} (h : exB as p [] [] = (o, m)) : due (Fl.run as p) (Fl.run (as.drop ((Fl.run as p).length - 1)) q) = if isEnd o then m.map evName ++ Fl.run (as.drop m.length) q else events (o, m) := by
  have hev : Fl.run as p = events (o, m) := by unfold Fl.run; rw [h]
  obtain ⟨h1, h2⟩ := run_len h
  unfold due
  rcases h2 with ⟨rfl, h2, e⟩ | ⟨t, ht, e⟩
  · have e9 : Fl.run as p = m.map evName := by rw [run_eq h]; exact List.append_nil _
    have hne : ¬ (Fl.run as p)[(Fl.run as p).length - 1]? = some ("end" : Str) := by
      rw [e9, List.length_map, List.getElem?_map]
      intro z
      obtain ⟨n, _, hn⟩ := Option.map_eq_some_iff.mp z
      exact ev_ne_end n hn
    rw [if_neg hne, hev]; rfl
  · have el : (Fl.run as p).length - 1 = m.length := by rw [e]; simp
    have ea : (Fl.run as p)[(Fl.run as p).length - 1]? = some t := by rw [el, e, List.getElem?_append_right (by rw [List.length_map]; exact Nat.le_refl _), List.length_map, Nat.sub_self]; rfl
    have et : (Fl.run as p).take ((Fl.run as p).length - 1) = m.map evName := by
      rw [el, e, List.take_append_of_le_length (by rw [List.length_map]; exact Nat.le_refl _), List.take_of_length_le (by rw [List.length_map]; exact Nat.le_refl _)]
    rw [ea, et, el]
    by_cases c : t = "end"
    · rw [if_pos (by rw [c]), (out_end ht).mp c]; rfl
    · have hn : isEnd o = false := by
        cases hi : isEnd o with
        | false => rfl
        | true => exact absurd ((out_end ht).mpr hi) c
      rw [if_neg (fun z => c (Option.some.inj z)), hn, hev]; rfl
theorem dp_txts {K : PySem.W.Frag} {H : Hp} : ∀ {l : List Str}, DpAll K H (l.map V.str) (l.map PyData.str)
  | [] => .nil
  | a :: r => .cons (.str a) dp_txts
theorem repr_len2 {n : Nm} (h : Gd 100 n) : (reprText n).length ≤ 1002 := by
  have h1 := StrLaws.reprText_len n fun c hc => Nat.lt_trans (h.2 c (by simpa using hc)) (by decide)
  have h2 := h.1
  omega
theorem sm_txts {l : List Str} (h : ∀ t ∈ l, Gd 100 t) (hl : l.length ≤ 1000) : Sm 2000000 1 (.tuple (l.map PyData.str)) :=
  (Sm.tup (c := 1002) (k := 0) fun d hd => by
    obtain ⟨x, hx, rfl⟩ := List.mem_map.mp hd
    exact ⟨rfl, rfl, Nat.le_refl _, repr_len2 (h x hx)⟩).mono (by rw [List.length_map]; omega) (Nat.le_refl _)
def txT (l : List Str) : Str := (PyData.tuple (l.map PyData.str)).shown
theorem st_reprT {K : PySem.W.Frag} {H : Hp} {t : Addr} {l : List Str} {Q : VK} (hs : SqT K H t (l.map V.str)) (h : ∀ x ∈ l, Gd 100 x) (hl : l.length ≤ 1000) (q : Q (.str (txT l)) H) : rRepr K [.ref t] H Q := by
  have sm := sm_txts h hl
  exact ⟨t, _, rfl, .tup hs dp_txts, sm.s, sm.h, Nat.le_trans sm.dp (by decide), Nat.le_trans sm.l (by decide), q⟩
theorem on_ok : nmOk "on" ∧ nmOk "x" ∧ nmOk "other" ∧ nmOk "last" :=
  ⟨(Gd.of (c := 60) (by decide +kernel)).nm (by decide), (Gd.of (c := 60) (by decide +kernel)).nm (by decide), (Gd.of (c := 60) (by decide +kernel)).nm (by decide), (Gd.of (c := 60) (by decide +kernel)).nm (by decide)⟩
theorem wf_B {p q : Stms} (hp : wfR [] [] 0 false p) (hq : wfR [] [] 0 false q) : wfR [] [] 0 false (twoB p q) := ⟨hp, hq, trivial⟩
theorem wf_T {p q : Stms} (hp : wfR [] [] 0 false p) (hq : wfR [] [] 0 false q) : wfR [] [] 0 false (twoT p q) := ⟨⟨rfl, hp, trivial⟩, hq, trivial⟩
theorem wf_I {p q : Stms} (hp : wfR [] [] 0 false p) (hq : wfR [] [] 0 false q) : wfR [] [] 0 false (twoI "on" "x" p q) :=
  ⟨hp, ⟨on_ok.1, List.not_mem_nil⟩, ⟨List.mem_cons_self, by show 1 ≤ 18; decide, wk_R (fun x hx => absurd hx List.not_mem_nil) q [] 0 false hq, on_ok.2.1, trivial⟩, trivial⟩
end K23
namespace K23
open PySem PySem.Spec PyProof.Rows L2 Fl RT
local macro_rules | `(tactic| ac_rfl) => `(tactic| (
  first
    | with_reducible refine Stp.go ?_
    | with_reducible refine st_var (by with_unfolding_all exact rfl) ?_
    | with_reducible refine st_ixt (by with_unfolding_all assumption) (by with_unfolding_all exact rfl) ?_
    | with_reducible refine st_ixl (by with_unfolding_all assumption) (by with_unfolding_all exact rfl) ?_
    | with_reducible refine st_eq (by with_unfolding_all exact rfl) ?_
    | with_reducible refine st_bl ?_
    | with_reducible refine ifb_t ?_
    | with_reducible refine ifb_f ?_
    | with_reducible refine ifs_no (by decide +kernel) ?_
    | with_reducible refine ifs_yes rfl ?_
    | with_reducible refine ifs_yes lab_rfl ?_
    | with_reducible refine ifs_yes num_rfl ?_
    | with_reducible refine ifn_no (by decide +kernel) ?_
    | with_reducible refine ifn_yes rfl ?_
    | with_reducible refine ifnb_t ?_
    | with_reducible refine ifnb_f ?_
    | with_reducible refine st_ne (by with_unfolding_all exact rfl) ?_
    | with_reducible refine st_ix0 (by with_unfolding_all assumption) ?_
    | with_reducible refine st_sl ?_
    | with_reducible refine st_part ?_
    | with_reducible refine st_nopart ?_
    | with_reducible refine st_mulc (by decide) (by decide) ?_
    | with_reducible refine st_modc (by decide) ?_
    | with_reducible refine Or.inl ⟨_, rfl, ?_⟩
    | with_reducible refine ⟨_, rfl, ?_⟩))
theorem TpAt.tk {K : PySem.W.Frag} {H H' : Hp} {T : Tap} (t : TpAt H T) (f : Fr (MT T) H H') : TK K H H' :=
  f.tk fun b z => by
    obtain ⟨pl, big, tot, h1, _⟩ := t
    rw [show b = T.a from z, h1]; exact ⟨fun xs e => (by cases e), fun o u e => (by cases e)⟩
theorem same_fr {M : Addr → Prop} {H H1 H2 : Hp} (s : Same H H1) (f : Fr M H1 H2) (h : ∀ b, M b → H b = none) : Same H H2 := fun b u e => f b u (s b u e) fun z => by rw [h b z] at e; cases e
section
variable {K : PySem.W.Frag} {H : Hp} {Q : VK}
theorem slA_from {a : Addr} {xs : List V} (hs : SqT K H a xs) (k : Nat) (q : ∀ b H', Same H H' → SqT K H' b (xs.drop k) → Q (.ref b) H') : rSlA K (.ref a) (some (k : Int)) none H Q := by
  refine ⟨a, xs, rfl, hs, fun hw => ?_, fun _ p hp => ?_⟩
  · have e := hw.1
    rw [HT.sIx_nat] at e
    have e2 : xs.drop k = xs := by
      rcases Nat.le_total k xs.length with h | h
      · rw [Nat.min_eq_left h] at e; rw [e]; rfl
      · rw [Nat.min_eq_right h] at e
        have : xs = [] := List.length_eq_zero_iff.mp e
        rw [this]; exact List.drop_nil
    exact q a H (fun _ _ z => z) (by rw [e2]; exact hs)
  · rw [cutV_from]
    exact q p _ (same_new hp _) (.inl (.inl upd_same))
theorem slA_to {a : Addr} {xs : List V} (hs : SqT K H a xs) (k : Nat) (q : ∀ b H', Same H H' → SqT K H' b (xs.take k) → Q (.ref b) H') : rSlA K (.ref a) none (some (k : Int)) H Q := by
  refine ⟨a, xs, rfl, hs, fun hw => ?_, fun _ p hp => ?_⟩
  · have e := hw.2
    rw [HT.sIx_nat] at e
    have e2 : xs.take k = xs := List.take_of_length_le (by omega)
    exact q a H (fun _ _ z => z) (by rw [e2]; exact hs)
  · rw [cutV_to]
    exact q p _ (same_new hp _) (.inl (.inl upd_same))
theorem cat_any {a b : Addr} {xs ys : List V} (ha : SqT K H a xs) (hb : SqT K H b ys) (hl : xs.length + ys.length ≤ 100000) (q : ∀ p H', Same H H' → SqT K H' p (xs ++ ys) → Q (.ref p) H') : rCatA K (.ref a) (.ref b) H Q := by
  refine ⟨a, b, xs, ys, rfl, rfl, ha, hb, small3 hl, fun z => ?_, fun _ z => ?_, fun _ _ p hp => ?_⟩
  · subst z; exact q b H (fun _ _ z => z) hb
  · subst z; exact q a H (fun _ _ z => z) (by rw [List.append_nil]; exact ha)
  · exact q p _ (same_new hp _) (.inl (.inl upd_same))
end
/-- a whole that gives the events that are due -/
def WhOk (K : PySem.W.Frag) (H : Hp) (as : List Bool) (d : List Str) (v : V) : Prop := ∃ w, EncR K H w v ∧ wfR [] [] 0 false w ∧ szR w < 40 ∧ letsR w ≤ 4 ∧ Fl.run as w = d
theorem WhOk.mono {K : PySem.W.Frag} {H H' : Hp} {as : List Bool} {d : List Str} {v : V} (k : TK K H H') (h : WhOk K H as d v) : WhOk K H' as d v := let ⟨w, a, b⟩ := h; ⟨w, EncR.mono k w a, b⟩
def spLaw (K : PySem.W.Frag) : Sp := fun vs H Q _ => ∃ (a : Addr) (ns : List Int), vs = [.ref a] ∧ SqL K H a (ns.map V.int) ∧ ns.length ≤ 63 ∧ ∀ H', Same H H' → Q (.bl true) H'
theorem scLaw : FnScope ["_law_script", "_law_tape_here", "_law_first", "_law_second", "_law_answers_here", "_law_one", "_law_rest", "_law_other", "_law_due", "_law_wholes", "_law_whole"] ["_law_script"] (defScope (top 53)) := ⟨rfl, rfl, rfl, by decide +kernel, rfl, by decide +kernel, by decide +kernel⟩
section
variable {P : Program} {w : World} {K : PySem.W.Frag} {mg : Str → Option Value} {base : Heap} {fa : Nat → Addr} {fd : Nat → FuncData} {f53 fr fl fe : Addr} {d53 dr dl de : FuncData}
theorem ok_law (ml : BN mg) (D : DD K mg fa fd) (DR : DA K mg "run" (top 27) ["program", "answers"] fr dr) (GR : FnOk P w K mg base CX0 147 fr dr ["program", "answers"] (spPlay K))
    (DL : DA K mg "_law_lets" (top 52) ["_law_program_here"] fl dl) (GL : FnOk P w K mg base CX0 42 fl dl ["_law_program_here"] (spLL K)) (DE : DA K mg "_law_events" (top 47) ["_law_program_here", "_law_answers_here"] fe de) (GE : FnG P w K mg base 67 fe de ["_law_program_here", "_law_answers_here"] (spLE K))
    (DW : DA K mg "law" (top 53) ["_law_script"] f53 d53) : FnG P w K mg base 148 f53 d53 ["_law_script"] (spLaw K) := by
  have G_law_tape := ok_tape (P := P) (w := w) (base := base) ml D.law_tape
  have G_law_world := ok_world (P := P) (w := w) (base := base) ml D
  have G_law_program := prog_all (P := P) (w := w) (base := base) ml D
  have G_law_answers := ok_ans (P := P) (w := w) (base := base) ml D
  refine okG DW.F scLaw (fun vs H Q E h => ?_) (fun cdv A outer s H vs Q E hgd hr h => ?_)
  · obtain ⟨a, ns, rfl, _⟩ := h
    rfl
  obtain ⟨a, ns, rfl, ha, hns, q⟩ := h
  refine ⟨_, (pss_cons (ps_set (i := 1) scLaw.nd rfl (Or.inl rfl) (pe_cl D.law_tape G_law_tape (hr.mono (by omega)) (pa_cons (pv 0) pa_nil)))
      (pss_cons (ps_set (i := 2) scLaw.nd rfl (Or.inl rfl) (pe_cl D.law_program G_law_program (hr.mono (by omega)) (pa_cons (pv 1) (pa_cons (pe_cl D.law_world G_law_world (hr.mono (by omega)) (pa_cons (pv 1) pa_nil)) pa_nil))))
      (pss_cons (ps_set (i := 3) scLaw.nd rfl (Or.inl rfl) (pe_cl D.law_program G_law_program (hr.mono (by omega)) (pa_cons (pv 1) (pa_cons (pe_cl D.law_world G_law_world (hr.mono (by omega)) (pa_cons (pv 1) pa_nil)) pa_nil))))
      (pss_cons (ps_set (i := 4) scLaw.nd rfl (Or.inl rfl) (pe_cl D.law_answers G_law_answers (hr.mono (by omega)) (pa_cons (pv 1) pa_nil)))
      (pss_cons (ps_if (pt_cmpR op_gt (pe_op op_add (pe_cl DL GL (hr.mono (by omega)) (pa_cons (pv 2) pa_nil)) (pe_cl DL GL (hr.mono (by omega)) (pa_cons (pv 3) pa_nil))) pe_int (nomark _)) (pss_one (ps_set (i := 3) scLaw.nd rfl (Or.inl rfl) (pe_tup (pa_cons (pe_tup (pa_cons pe_str (pa_cons pe_str pa_nil))) (pa_cons (pe_tup (pa_cons pe_str (pa_cons (pe_tup (pa_cons pe_str (pa_cons pe_str pa_nil))) (pa_cons (pe_tup (pa_cons (pe_tup (pa_cons pe_str (pa_cons pe_int pa_nil))) pa_nil)) (pa_cons (pe_tup pa_nil) pa_nil))))) pa_nil))))) pss_nil)
      (pss_cons (ps_set (i := 5) scLaw.nd rfl (Or.inl rfl) (pe_cl DR GR (hr.mono (by omega)) (pa_cons (pv 2) (pa_cons (pv 4) pa_nil))))
      (pss_cons (ps_set (i := 6) scLaw.nd rfl (Or.inl rfl) (pe_slice sl_tupA (pv 4) (po_some (pe_op op_sub (pe_len ml.len (pv 5)) pe_int)) po_none))
      (pss_cons (ps_set (i := 7) scLaw.nd rfl (Or.inl rfl) (pe_cl DR GR (hr.mono (by omega)) (pa_cons (pv 3) (pa_cons (pv 6) pa_nil))))
      (pss_cons (ps_if (pw_or (pt_cmpR op_ne (pe_callB (call_repr hgd (room_repr hr)) (by rfl) ml.repr boot_repr (pa_cons (pv 5) pa_nil)) (pe_callB (call_repr hgd (room_repr hr)) (by rfl) ml.repr boot_repr (pa_cons (pe_clG DE GE hgd (hr.mono (by omega)) (pa_cons (pv 2) (pa_cons (pv 4) pa_nil))) pa_nil)) (nomark _)) (pw_or1 (pt_cmpR op_ne (pe_callB (call_repr hgd (room_repr hr)) (by rfl) ml.repr boot_repr (pa_cons (pv 7) pa_nil)) (pe_callB (call_repr hgd (room_repr hr)) (by rfl) ml.repr boot_repr (pa_cons (pe_clG DE GE hgd (hr.mono (by omega)) (pa_cons (pv 3) (pa_cons (pv 6) pa_nil))) pa_nil)) (nomark _)))).pt (pss_one (ps_ret pe_bl)) pss_nil)
      (pss_cons (ps_set (i := 8) scLaw.nd rfl (Or.inl rfl) (pv 5))
      (pss_cons (ps_if (pt_cmpR op_eq (pe_ix ix_tup (pv 5) (pe_op op_sub (pe_len ml.len (pv 5)) pe_int) (fun _ _ => rfl)) pe_str (nomark _)) (pss_one (ps_set (i := 8) scLaw.nd rfl (Or.inl rfl) (pe_op op_catA (pe_slice sl_tupA (pv 5) po_none (po_some (pe_op op_sub (pe_len ml.len (pv 5)) pe_int))) (pv 7)))) pss_nil)
      (pss_cons (ps_set (i := 9) scLaw.nd rfl (Or.inl rfl) (pe_lst (pa_cons (pe_tup (pa_cons (pe_tup (pa_cons pe_str (pa_cons (pv 2) pa_nil))) (pa_cons (pe_tup (pa_cons pe_str (pa_cons (pv 3) pa_nil))) pa_nil))) (pa_cons (pe_tup (pa_cons (pe_tup (pa_cons pe_str (pa_cons (pv 2) (pa_cons (pe_tup pa_nil) pa_nil)))) (pa_cons (pe_tup (pa_cons pe_str (pa_cons (pv 3) pa_nil))) pa_nil))) pa_nil))))
      (pss_cons (ps_if (pt_cmpR op_lt (pe_op op_add (pe_cl DL GL (hr.mono (by omega)) (pa_cons (pv 2) pa_nil)) (pe_cl DL GL (hr.mono (by omega)) (pa_cons (pv 3) pa_nil))) pe_int (nomark _)) (pss_one (ps_expr (pe_bm PySem.F.plainAttrs_list PySem.F.slot_list_append PySem.F.type_list_append mt_append (pv 9) (pa_cons (pe_tup (pa_cons (pe_tup (pa_cons pe_str (pa_cons (pv 2) pa_nil))) (pa_cons (pe_tup (pa_cons pe_str (pa_cons pe_str (pa_cons pe_bl pa_nil)))) (pa_cons (pe_tup (pa_cons pe_str (pa_cons (pe_tup (pa_cons pe_str (pa_cons pe_str pa_nil))) (pa_cons (pv 3) (pa_cons (pe_tup (pa_cons (pe_tup (pa_cons pe_str (pa_cons pe_str pa_nil))) pa_nil)) pa_nil))))) pa_nil)))) pa_nil)))) pss_nil)
      (pss_cons (ps_for PassesOwn.never rfl (pi_list (pv 9)) (pg_name (i := 10) scLaw.nd rfl (Or.inl rfl)) (pss_one (ps_if (pt_cmpR op_ne (pe_callB (call_repr hgd (room_repr hr)) (by rfl) ml.repr boot_repr (pa_cons (pe_cl DR GR (hr.mono (by omega)) (pa_cons (pv 10) (pa_cons (pv 4) pa_nil))) pa_nil)) (pe_callB (call_repr hgd (room_repr hr)) (by rfl) ml.repr boot_repr (pa_cons (pv 8) pa_nil)) (nomark _)) (pss_one (ps_ret pe_bl)) pss_nil)))
      (pss_one (ps_ret pe_bl)))))))))))))))), ?_⟩
  dsimp only [cxOf, Cx.nox]
  refine seq_cut4 (fun σ' H' => ∃ (T : Tap) (v1 v2 ga : Addr) (p q : Stms) (as : List Bool), σ' = [some (.ref a), some (.ref T.a), some (.ref v1), some (.ref v2), some (.ref ga), none, none, none, none, none, none] ∧ Same H H' ∧ EncR K H' p (.ref v1) ∧ EncR K H' q (.ref v2) ∧ SqT K H' ga (as.map V.bl) ∧ as.length ≤ 40 ∧ wfR [] [] 0 false p ∧ wfR [] [] 0 false q ∧ szR p ≤ 14 ∧ szR q ≤ 14 ∧ letsR p ≤ 4) ?_ ?_
  rotate_left
  · intro N hN
    repeat ac_rfl
    refine ⟨a, ns, rfl, ha, hns, fun T H1 s1 hT hT2 t1 => ?_⟩
    have hM : ∀ b, MT T b → H b = none := fun b z => by rw [show b = T.a from z]; exact hT
    repeat ac_rfl
    refine ⟨T, rfl, t1, fun W1 f0 f3 H2 h14 h04 f2 d2 hW1 => ?_⟩
    have S2 := same_fr s1 f2 hM
    have hM1 : ∀ b, MD T W1 b → H b = none := fun b z => by
      rcases z with z | z
      · rw [z]; exact hT
      · rw [z]; exact none_same s1 hW1
    repeat ac_rfl
    refine ⟨T, W1, f0, f3, rfl, d2, h14, h04, fun v1 p H3 f3' t3 he1 hw1 hz1 hl1 => ?_⟩
    have S3 := same_fr S2 f3' hM1
    repeat ac_rfl
    refine ⟨T, rfl, t3, fun W2 g0 g3 H4 k14 k04 f4 d4 hW2 => ?_⟩
    have S4 := same_fr S3 f4 hM
    have he14 := EncR.mono (t3.tk f4) p he1
    have hM2 : ∀ b, MD T W2 b → H b = none := fun b z => by
      rcases z with z | z
      · rw [z]; exact hT
      · rw [z]; exact none_same S3 hW2
    repeat ac_rfl
    refine ⟨T, W2, g0, g3, rfl, d4, k14, k04, fun v2 q2 H5 f5 t5 he2 hw2 hz2 hl2 => ?_⟩
    have S5 := same_fr S4 f5 hM2
    have he15 := EncR.mono (d4.tk f5) p he14
    repeat ac_rfl
    refine ⟨T, rfl, t5, fun ga as H6 f6 t6 hga hal => ?_⟩
    have S6 := same_fr S5 f6 hM
    have k6 := t5.tk (K := K) f6
    repeat ac_rfl
    exact hN _ _ ⟨T, v1, v2, ga, p, q2, as, rfl, S6, EncR.mono k6 p he15, EncR.mono k6 q2 he2, .inl (.inl hga), hal, hw1, hw2, hz1, hz2, hl1⟩
  rintro _ H1 ⟨T, v1, v2, ga, p, q1, as, rfl, S1, he1, he2, hga, hal, hw1, hw2, hz1, hz2, hl1⟩
  refine seq_cut (fun σ' H' => ∃ (v2 : Addr) (q : Stms), σ' = [some (.ref a), some (.ref T.a), some (.ref v1), some (.ref v2), some (.ref ga), none, none, none, none, none, none] ∧ Same H1 H' ∧ EncR K H' q (.ref v2) ∧ wfR [] [] 0 false q ∧ szR q ≤ 14 ∧ letsR p + letsR q ≤ 4) ?_ ?_
  rotate_left
  · intro N hN
    repeat ac_rfl
    refine ⟨.ref v1, p, rfl, he1, by omega, fun H2 s2 => ?_⟩
    have he22 := EncR.mono (TK.of_same s2) q1 he2
    repeat ac_rfl
    refine ⟨.ref v2, q1, rfl, he22, by omega, fun H3 s3 => ?_⟩
    have he23 := EncR.mono (TK.of_same s3) q1 he22
    repeat ac_rfl
    refine ifb (fun hz => ?_) (fun hz => ?_)
    · skip
      repeat ac_rfl
      refine ⟨smN rfl, fun c1 n1 => ?_⟩
      have r1 := same_new n1 (.tup [.str "call", .str "other"])
      have x1 : (upd H3 c1 (.tup [.str "call", .str "other"])) c1 = some (.tup [.str "call", .str "other"]) := upd_same
      generalize upd H3 c1 (.tup [.str "call", .str "other"]) = K1 at r1 x1
      repeat ac_rfl
      refine ⟨smN rfl, fun c2 n2 => ?_⟩
      have r2 := same_new n2 (.tup [.str "call", .str "last"])
      have x2 : (upd K1 c2 (.tup [.str "call", .str "last"])) c2 = some (.tup [.str "call", .str "last"]) := upd_same
      generalize upd K1 c2 (.tup [.str "call", .str "last"]) = K2 at r2 x2
      repeat ac_rfl
      refine ⟨smN rfl, fun c3 n3 => ?_⟩
      have r3 := same_new n3 (.tup [.str "return", .int 9])
      have x3 : (upd K2 c3 (.tup [.str "return", .int 9])) c3 = some (.tup [.str "return", .int 9]) := upd_same
      generalize upd K2 c3 (.tup [.str "return", .int 9]) = K3 at r3 x3
      repeat ac_rfl
      refine ⟨smN rfl, fun c4 n4 => ?_⟩
      have r4 := same_new n4 (.tup [.ref c3])
      have x4 : (upd K3 c4 (.tup [.ref c3])) c4 = some (.tup [.ref c3]) := upd_same
      generalize upd K3 c4 (.tup [.ref c3]) = K4 at r4 x4
      repeat ac_rfl
      refine ⟨smN rfl, fun c5 n5 => ?_⟩
      have r5 := same_new n5 (.tup [])
      have x5 : (upd K4 c5 (.tup [])) c5 = some (.tup []) := upd_same
      generalize upd K4 c5 (.tup []) = K5 at r5 x5
      repeat ac_rfl
      refine ⟨smN rfl, fun c6 n6 => ?_⟩
      have r6 := same_new n6 (.tup [.str "if", .ref c2, .ref c4, .ref c5])
      have x6 : (upd K5 c6 (.tup [.str "if", .ref c2, .ref c4, .ref c5])) c6 = some (.tup [.str "if", .ref c2, .ref c4, .ref c5]) := upd_same
      generalize upd K5 c6 (.tup [.str "if", .ref c2, .ref c4, .ref c5]) = K6 at r6 x6
      repeat ac_rfl
      refine ⟨smN rfl, fun c7 n7 => ?_⟩
      have r7 := same_new n7 (.tup [.ref c1, .ref c6])
      have x7 : (upd K6 c7 (.tup [.ref c1, .ref c6])) c7 = some (.tup [.ref c1, .ref c6]) := upd_same
      generalize upd K6 c7 (.tup [.ref c1, .ref c6]) = K7 at r7 x7
      repeat ac_rfl
      have y1 := r7 _ _ (r6 _ _ (r5 _ _ (r4 _ _ (r3 _ _ (r2 _ _ x1)))))
      have y2 := r7 _ _ (r6 _ _ (r5 _ _ (r4 _ _ (r3 _ _ x2))))
      have y3 := r7 _ _ (r6 _ _ (r5 _ _ (r4 _ _ x3)))
      have y4 := r7 _ _ (r6 _ _ (r5 _ _ x4))
      have y5 := r7 _ _ (r6 _ _ x5)
      have y6 := r7 _ _ x6
      refine hN _ _ ⟨c7, .cons (.call "other") (.cons (.ite (.call "last") (.cons (.ret (some 9)) .nil) .nil) .nil), rfl, (s2.trans s3).trans ((((((r1.trans r2).trans r3).trans r4).trans r5).trans r6).trans r7), ⟨c7, _, rfl, .inl (.inl x7), _, _, rfl, Tp.of y1, _, _, rfl, ⟨.ref c2, c4, c5, _, _, Tp.of y6, Tp.of y2, .inl (.inl y4), ⟨_, _, rfl, Tp.of y3, rfl⟩, .inl (.inl y5), rfl⟩, rfl⟩, ⟨on_ok.2.2.1, ⟨on_ok.2.2.2, by decide, ⟨fun k e => by cases e; decide, trivial⟩, trivial⟩, trivial⟩, by decide, ?_⟩
      show letsR p + 0 ≤ 4
      omega
    · have hle : letsR p + letsR q1 ≤ 4 := by
        have := of_decide_eq_false hz
        omega
      repeat ac_rfl
      exact hN _ _ ⟨v2, q1, rfl, s2.trans s3, he23, hw2, hz2, hle⟩
  clear he2 hw2 hz2 q1 v2
  rintro _ H2 ⟨v2, q1, rfl, s2, he2, hw2, hz2, hl2⟩
  have S2 := S1.trans s2
  have he12 := EncR.mono (TK.of_same s2) p he1
  have hga2 := (TK.of_same s2) _ _ hga
  clear S1 s2 he1 hga hl1 H1
  obtain ⟨one, hone⟩ : ∃ l, l = Fl.run as p := ⟨_, rfl⟩
  have hpos : 0 < one.length := by rw [hone]; exact run_pos
  have hole : one.length ≤ 42 := by rw [hone]; exact Nat.le_trans run_le (by omega)
  obtain ⟨rest, hrest⟩ : ∃ l, l = as.drop (one.length - 1) := ⟨_, rfl⟩
  have hrl : rest.length ≤ 40 := by rw [hrest, List.length_drop]; omega
  obtain ⟨oth, hoth⟩ : ∃ l, l = Fl.run rest q1 := ⟨_, rfl⟩
  have hotl : oth.length ≤ 42 := by rw [hoth]; exact Nat.le_trans run_le (by omega)
  have hg1 : ∀ x ∈ one, Gd 100 x := by rw [hone]; exact run_good hw1
  have hg2 : ∀ x ∈ oth, Gd 100 x := by rw [hoth]; exact run_good hw2
  have hdue : ∀ {o : Out} {m : Fl.Made}, exB as p [] [] = (o, m) → due one oth = if isEnd o then m.map evName ++ Fl.run (as.drop m.length) q1 else events (o, m) := fun h => by
    have := due_ok (q := q1) h
    rw [← hone, ← hrest, ← hoth] at this; exact this
  refine seq_cut3 (fun σ' H' => ∃ (t1 b t2 : Addr), σ' = [some (.ref a), some (.ref T.a), some (.ref v1), some (.ref v2), some (.ref ga), some (.ref t1), some (.ref b), some (.ref t2), none, none, none] ∧ Same H2 H' ∧ SqT K H' t1 (one.map V.str) ∧ SqT K H' b (rest.map V.bl) ∧ SqT K H' t2 (oth.map V.str)) ?_ ?_
  rotate_left
  · intro N hN
    repeat ac_rfl
    refine ⟨.ref v1, ga, p, as, rfl, he12, hga2, hw1, by omega, by omega, by omega, fun t1 H3 s3 ht1 => ?_⟩
    rw [← hone] at ht1
    repeat ac_rfl
    refine ⟨t1, _, rfl, .inr ht1, ?_⟩
    repeat ac_rfl
    rw [List.length_map, show ((one.length : Nat) : Int) - 1 = ((one.length - 1 : Nat) : Int) by omega]
    refine slA_from ((TK.of_same s3) _ _ hga2) (one.length - 1) fun b H4 s4 hb => ?_
    rw [← List.map_drop, ← hrest] at hb
    repeat ac_rfl
    refine ⟨.ref v2, b, q1, rest, rfl, EncR.mono (TK.of_same (s3.trans s4)) q1 he2, hb, hw2, by omega, by omega, by omega, fun t2 H5 s5 ht2 => ?_⟩
    rw [← hoth] at ht2
    repeat ac_rfl
    exact hN _ _ ⟨t1, b, t2, rfl, (s3.trans s4).trans s5, (TK.of_same (s4.trans s5)) _ _ ht1, (TK.of_same s5) _ _ hb, ht2⟩
  rintro _ H3 ⟨t1, b, t2, rfl, s3, ht1, hb, ht2⟩
  have S3 := S2.trans s3
  have he13 := EncR.mono (TK.of_same s3) p he12
  have he23 := EncR.mono (TK.of_same s3) q1 he2
  have hga3 := (TK.of_same s3) _ _ hga2
  clear S2 he12 he2 hga2 s3 H2
  refine seq_cut (fun σ' H' => σ' = [some (.ref a), some (.ref T.a), some (.ref v1), some (.ref v2), some (.ref ga), some (.ref t1), some (.ref b), some (.ref t2), none, none, none] ∧ Same H3 H') ?_ ?_
  rotate_left
  · intro N hN
    repeat ac_rfl
    refine st_reprT ht1 hg1 (by omega) ?_
    repeat ac_rfl
    refine ⟨.ref v1, p, ga, as, rfl, he13, hw1, hz1, by omega, hga3, fun r H4 s4 hr4 => ?_⟩
    rw [← hone] at hr4
    repeat ac_rfl
    refine st_reprT hr4 hg1 (by omega) ?_
    repeat ac_rfl
    refine st_reprT ((TK.of_same s4) _ _ ht2) hg2 (by omega) ?_
    repeat ac_rfl
    refine ⟨.ref v2, q1, b, rest, rfl, EncR.mono (TK.of_same s4) q1 he23, hw2, hz2, by omega, (TK.of_same s4) _ _ hb, fun r5 H5 s5 hr5 => ?_⟩
    rw [← hoth] at hr5
    repeat ac_rfl
    refine st_reprT hr5 hg2 (by omega) ?_
    repeat ac_rfl
    exact hN _ _ ⟨rfl, s4.trans s5⟩
  rintro _ H4 ⟨rfl, s4⟩
  have S4 := S3.trans s4
  have he14 := EncR.mono (TK.of_same s4) p he13
  have he24 := EncR.mono (TK.of_same s4) q1 he23
  have hga4 := (TK.of_same s4) _ _ hga3
  have ht14 := (TK.of_same s4) _ _ ht1
  have ht24 := (TK.of_same s4) _ _ ht2
  clear S3 he13 he23 hga3 ht1 ht2 hb s4 H3
  refine seq_cut2 (fun σ' H' => ∃ d : Addr, σ' = [some (.ref a), some (.ref T.a), some (.ref v1), some (.ref v2), some (.ref ga), some (.ref t1), some (.ref b), some (.ref t2), some (.ref d), none, none] ∧ Same H4 H' ∧ SqT K H' d ((due one oth).map V.str)) ?_ ?_
  rotate_left
  · intro N hN
    obtain ⟨x, hx⟩ : ∃ x, one[one.length - 1]? = some x := ⟨_, List.getElem?_eq_getElem (by omega)⟩
    repeat ac_rfl
    refine ⟨t1, _, rfl, .inr ht14, ?_⟩
    repeat ac_rfl
    rw [List.length_map, show ((one.length : Nat) : Int) - 1 = ((one.length - 1 : Nat) : Int) by omega]
    refine st_ixt ht14 (atI_nat (by rw [List.getElem?_map, hx]; rfl)) ?_
    repeat ac_rfl
    by_cases hc : x = ("end" : Str)
    · have hd : due one oth = one.take (one.length - 1) ++ oth := by unfold due; rw [if_pos (by rw [hx, hc])]
      refine ifs_yes (by rw [hc]) ?_
      repeat ac_rfl
      refine ⟨t1, _, rfl, .inr ht14, ?_⟩
      repeat ac_rfl
      rw [List.length_map, show ((one.length : Nat) : Int) - 1 = ((one.length - 1 : Nat) : Int) by omega]
      refine slA_to ht14 (one.length - 1) fun b5 H5 s5 hb5 => ?_
      repeat ac_rfl
      refine cat_any hb5 ((TK.of_same s5) _ _ ht24) (by rw [List.length_take, List.length_map, List.length_map]; omega) fun d H6 s6 hd6 => ?_
      refine hN _ _ ⟨d, rfl, s5.trans s6, ?_⟩
      rw [hd, List.map_append, List.map_take]; exact hd6
    · have hd : due one oth = one := by unfold due; rw [if_neg (fun z => hc (by rw [hx] at z; exact Option.some.inj z))]
      refine ifs_no (fun z => hc (by injection z)) ?_
      repeat ac_rfl
      exact hN _ _ ⟨t1, rfl, fun _ _ z => z, by rw [hd]; exact ht14⟩
  rintro _ H5 ⟨d, rfl, s5, hd5⟩
  have S5 := S4.trans s5
  have he15 := EncR.mono (TK.of_same s5) p he14
  have he25 := EncR.mono (TK.of_same s5) q1 he24
  have hga5 := (TK.of_same s5) _ _ hga4
  have hgd2 : ∀ x ∈ due one oth, Gd 100 x := fun x hx => by
    unfold due at hx
    split at hx
    · rcases List.mem_append.mp hx with z | z
      · exact hg1 x (List.mem_of_mem_take z)
      · exact hg2 x z
    · exact hg1 x hx
  have hdl : (due one oth).length ≤ 100 := by
    unfold due
    split
    · rw [List.length_append, List.length_take]; omega
    · omega
  have hB : Fl.run as (twoB p q1) = due one oth := by
    rcases h : exB as p [] [] with ⟨o, m⟩
    rw [whole_B hw2 h, hdue h]
  have hTr : Fl.run as (twoT p q1) = due one oth := by
    rcases h : exB as p [] [] with ⟨o, m⟩
    rw [whole_T hw2 h, hdue h]
  have hI : Fl.run as (twoI "on" "x" p q1) = due one oth := by
    rcases h : exB as p [] [] with ⟨o, m⟩
    rw [whole_I hw2 h, hdue h]
  clear S4 he14 he24 hga4 ht14 ht24 hdue s5 H4 hg1 hg2
  generalize due one oth = dl at hd5 hgd2 hdl hB hTr hI
  have wB := wf_B hw1 hw2
  have wT := wf_T hw1 hw2
  have wI := wf_I hw1 hw2
  obtain ⟨pb, ps, epb, hp1, hp2⟩ := he15
  cases epb
  obtain ⟨qb, qs, eqb, hq1, hq2⟩ := he25
  cases eqb
  repeat ac_rfl
  refine ⟨smN rfl, fun c1 n1 => ?_⟩
  have r1 := same_new n1 (.tup [.str "block", .ref v1])
  have x1 : (upd H5 c1 (.tup [.str "block", .ref v1])) c1 = some (.tup [.str "block", .ref v1]) := upd_same
  generalize upd H5 c1 (.tup [.str "block", .ref v1]) = K1 at r1 x1
  repeat ac_rfl
  refine ⟨smN rfl, fun c2 n2 => ?_⟩
  have r2 := same_new n2 (.tup [.str "block", .ref v2])
  have x2 : (upd K1 c2 (.tup [.str "block", .ref v2])) c2 = some (.tup [.str "block", .ref v2]) := upd_same
  generalize upd K1 c2 (.tup [.str "block", .ref v2]) = K2 at r2 x2
  repeat ac_rfl
  refine ⟨smN rfl, fun c3 n3 => ?_⟩
  have r3 := same_new n3 (.tup [.ref c1, .ref c2])
  have x3 : (upd K2 c3 (.tup [.ref c1, .ref c2])) c3 = some (.tup [.ref c1, .ref c2]) := upd_same
  generalize upd K2 c3 (.tup [.ref c1, .ref c2]) = K3 at r3 x3
  repeat ac_rfl
  refine ⟨smN rfl, fun c4 n4 => ?_⟩
  have r4 := same_new n4 (.tup [])
  have x4 : (upd K3 c4 (.tup [])) c4 = some (.tup []) := upd_same
  generalize upd K3 c4 (.tup []) = K4 at r4 x4
  repeat ac_rfl
  refine ⟨smN rfl, fun c5 n5 => ?_⟩
  have r5 := same_new n5 (.tup [.str "try", .ref v1, .ref c4])
  have x5 : (upd K4 c5 (.tup [.str "try", .ref v1, .ref c4])) c5 = some (.tup [.str "try", .ref v1, .ref c4]) := upd_same
  generalize upd K4 c5 (.tup [.str "try", .ref v1, .ref c4]) = K5 at r5 x5
  repeat ac_rfl
  refine ⟨smN rfl, fun c6 n6 => ?_⟩
  have r6 := same_new n6 (.tup [.str "block", .ref v2])
  have x6 : (upd K5 c6 (.tup [.str "block", .ref v2])) c6 = some (.tup [.str "block", .ref v2]) := upd_same
  generalize upd K5 c6 (.tup [.str "block", .ref v2]) = K6 at r6 x6
  repeat ac_rfl
  refine ⟨smN rfl, fun c7 n7 => ?_⟩
  have r7 := same_new n7 (.tup [.ref c5, .ref c6])
  have x7 : (upd K6 c7 (.tup [.ref c5, .ref c6])) c7 = some (.tup [.ref c5, .ref c6]) := upd_same
  generalize upd K6 c7 (.tup [.ref c5, .ref c6]) = K7 at r7 x7
  repeat ac_rfl
  refine ⟨smN rfl, fun wl n8 => ?_⟩
  have r8 := same_new n8 (.lst [.ref c3, .ref c7])
  have x8 : (upd K7 wl (.lst [.ref c3, .ref c7])) wl = some (.lst [.ref c3, .ref c7]) := upd_same
  generalize upd K7 wl (.lst [.ref c3, .ref c7]) = H8 at r8 x8
  have S17 := (((((r1.trans r2).trans r3).trans r4).trans r5).trans r6).trans r7
  have S8 := S17.trans r8
  have S58 := S5.trans S8
  have k8 : TK K H5 H8 := TK.of_same S8
  have hwl : H wl = none := none_same (S5.trans S17) n8
  have y1 := r8 _ _ (r7 _ _ (r6 _ _ (r5 _ _ (r4 _ _ (r3 _ _ (r2 _ _ x1))))))
  have y2 := r8 _ _ (r7 _ _ (r6 _ _ (r5 _ _ (r4 _ _ (r3 _ _ x2)))))
  have y3 := r8 _ _ (r7 _ _ (r6 _ _ (r5 _ _ (r4 _ _ x3))))
  have y4 := r8 _ _ (r7 _ _ (r6 _ _ (r5 _ _ x4)))
  have y5 := r8 _ _ (r7 _ _ (r6 _ _ x5))
  have y6 := r8 _ _ (r7 _ _ x6)
  have y7 := r8 _ _ x7
  have hp18 := k8 _ _ hp1
  have hp28 := EncX.mono k8 p hp2
  have hq18 := k8 _ _ hq1
  have hq28 := EncX.mono k8 q1 hq2
  have hga8 := k8 _ _ hga5
  have hd8 := k8 _ _ hd5
  have W1 : WhOk K H8 as dl (.ref c3) := ⟨twoB p q1, ⟨c3, _, rfl, .inl (.inl y3), _, _, rfl, ⟨v1, ps, Tp.of y1, hp18, hp28⟩, _, _, rfl, ⟨v2, qs, Tp.of y2, hq18, hq28⟩, rfl⟩, wB, by show szR p + 1 + (szR q1 + 1 + 0) < 40; omega, by show letsR p + (letsR q1 + 0) ≤ 4; omega, hB⟩
  have W2 : WhOk K H8 as dl (.ref c7) := ⟨twoT p q1, ⟨c7, _, rfl, .inl (.inl y7), _, _, rfl, ⟨v1, c4, ps, [], Tp.of y5, hp18, hp28, .inl (.inl y4), rfl⟩, _, _, rfl, ⟨v2, qs, Tp.of y6, hq18, hq28⟩, rfl⟩, wT, by show szR p + 0 + 1 + (szR q1 + 1 + 0) < 40; omega, by show letsR p + 0 + (letsR q1 + 0) ≤ 4; omega, hTr⟩
  have he18 : EncR K H8 p (.ref v1) := ⟨v1, ps, rfl, hp18, hp28⟩
  have he28 : EncR K H8 q1 (.ref v2) := ⟨v2, qs, rfl, hq18, hq28⟩
  clear S5 hga5 hd5 hp1 hp2 hq1 hq2 S8 S17 k8 r1 r2 r3 r4 r5 r6 r7 r8 x1 x2 x3 x4 x5 x6 x7 y1 y2 y3 y4 y5 y6 y7 n1 n2 n3 n4 n5 n6 n7 n8 H5 K1 K2 K3 K4 K5 K6 K7 hB hTr wB wT
  refine st_name ?_
  with_reducible refine seq_cut (fun σ' H' => ∃ us : List V, σ' = [some (.ref a), some (.ref T.a), some (.ref v1), some (.ref v2), some (.ref ga), some (.ref t1), some (.ref b), some (.ref t2), some (.ref d), some (.ref wl), none] ∧ Same H H' ∧ H' wl = some (.lst us) ∧ (∀ v ∈ us, WhOk K H' as dl v) ∧ SqT K H' ga (as.map V.bl) ∧ SqT K H' d (dl.map V.str)) ?_ ?_
  rotate_left
  · intro N hN
    repeat ac_rfl
    refine ⟨.ref v1, p, rfl, he18, by omega, fun K8 s8 => ?_⟩
    repeat ac_rfl
    refine ⟨.ref v2, q1, rfl, EncR.mono (TK.of_same s8) q1 he28, by omega, fun K9 s9 => ?_⟩
    have s89 := s8.trans s9
    have k89 : TK K H8 K9 := TK.of_same s89
    repeat ac_rfl
    refine ifb (fun hz => ?_) (fun hz => ?_)
    · have hle : letsR p + letsR q1 < 4 := by
        have := of_decide_eq_true hz
        omega
      repeat ac_rfl
      refine ⟨.inl ⟨rfl, _, .inl (.inl (s89 _ _ x8))⟩, ?_⟩
      repeat ac_rfl
      refine ⟨smN rfl, fun g1 n1 => ?_⟩
      have r1 := same_new n1 (.tup [.str "block", .ref v1])
      have x1 : (upd K9 g1 (.tup [.str "block", .ref v1])) g1 = some (.tup [.str "block", .ref v1]) := upd_same
      generalize upd K9 g1 (.tup [.str "block", .ref v1]) = K1 at r1 x1
      repeat ac_rfl
      refine ⟨smN rfl, fun g2 n2 => ?_⟩
      have r2 := same_new n2 (.tup [.str "let", .str "on", .bl true])
      have x2 : (upd K1 g2 (.tup [.str "let", .str "on", .bl true])) g2 = some (.tup [.str "let", .str "on", .bl true]) := upd_same
      generalize upd K1 g2 (.tup [.str "let", .str "on", .bl true]) = K2 at r2 x2
      repeat ac_rfl
      refine ⟨smN rfl, fun g3 n3 => ?_⟩
      have r3 := same_new n3 (.tup [.str "flag", .str "on"])
      have x3 : (upd K2 g3 (.tup [.str "flag", .str "on"])) g3 = some (.tup [.str "flag", .str "on"]) := upd_same
      generalize upd K2 g3 (.tup [.str "flag", .str "on"]) = K3 at r3 x3
      repeat ac_rfl
      refine ⟨smN rfl, fun g4 n4 => ?_⟩
      have r4 := same_new n4 (.tup [.str "call", .str "x"])
      have x4 : (upd K3 g4 (.tup [.str "call", .str "x"])) g4 = some (.tup [.str "call", .str "x"]) := upd_same
      generalize upd K3 g4 (.tup [.str "call", .str "x"]) = K4 at r4 x4
      repeat ac_rfl
      refine ⟨smN rfl, fun g5 n5 => ?_⟩
      have r5 := same_new n5 (.tup [.ref g4])
      have x5 : (upd K4 g5 (.tup [.ref g4])) g5 = some (.tup [.ref g4]) := upd_same
      generalize upd K4 g5 (.tup [.ref g4]) = K5 at r5 x5
      repeat ac_rfl
      refine ⟨smN rfl, fun g6 n6 => ?_⟩
      have r6 := same_new n6 (.tup [.str "if", .ref g3, .ref v2, .ref g5])
      have x6 : (upd K5 g6 (.tup [.str "if", .ref g3, .ref v2, .ref g5])) g6 = some (.tup [.str "if", .ref g3, .ref v2, .ref g5]) := upd_same
      generalize upd K5 g6 (.tup [.str "if", .ref g3, .ref v2, .ref g5]) = K6 at r6 x6
      repeat ac_rfl
      refine ⟨smN rfl, fun g7 n7 => ?_⟩
      have r7 := same_new n7 (.tup [.ref g1, .ref g2, .ref g6])
      have x7 : (upd K6 g7 (.tup [.ref g1, .ref g2, .ref g6])) g7 = some (.tup [.ref g1, .ref g2, .ref g6]) := upd_same
      generalize upd K6 g7 (.tup [.ref g1, .ref g2, .ref g6]) = K7 at r7 x7
      have S7 := ((((((s89.trans r1).trans r2).trans r3).trans r4).trans r5).trans r6).trans r7
      have y1 := r7 _ _ (r6 _ _ (r5 _ _ (r4 _ _ (r3 _ _ (r2 _ _ x1)))))
      have y2 := r7 _ _ (r6 _ _ (r5 _ _ (r4 _ _ (r3 _ _ x2))))
      have y3 := r7 _ _ (r6 _ _ (r5 _ _ (r4 _ _ x3)))
      have y4 := r7 _ _ (r6 _ _ (r5 _ _ x4))
      have y5 := r7 _ _ (r6 _ _ x5)
      have y6 := r7 _ _ x6
      have k7 : TK K H8 K7 := TK.of_same S7
      have hqq := EncR.mono k7 q1 he28
      obtain ⟨qb', qs', eqb', hq1', hq2'⟩ := hqq
      cases eqb'
      obtain ⟨pb', ps', epb', hp1', hp2'⟩ := EncR.mono k7 p he18
      cases epb'
      have W3 : WhOk K K7 as dl (.ref g7) := ⟨twoI "on" "x" p q1, ⟨g7, _, rfl, .inl (.inl x7), _, _, rfl, ⟨v1, ps', Tp.of y1, hp1', hp2'⟩, _, _, rfl, Tp.of y2, _, _, rfl, ⟨.ref g3, v2, g5, qs', _, Tp.of y6, Tp.of y3, hq1', hq2', .inl (.inl y5), _, _, rfl, Tp.of y4, rfl⟩, rfl⟩, wI, by show szR p + 1 + (1 + (szR q1 + (1 + 0) + 1 + 0)) < 40; omega, by show letsR p + (1 + (letsR q1 + (0 + 0) + 0)) ≤ 4; omega, hI⟩
      have ewl := S7 _ _ x8
      repeat ac_rfl
      refine ⟨wl, _, _, rfl, rfl, ewl, small_lt (by show 2 < _; omega), ?_⟩
      have kp : TK K K7 (upd K7 wl (.lst ([.ref c3, .ref c7] ++ [.ref g7]))) := TK.put _ ewl (fun _ z => (by cases z)) fun _ _ z => (by cases z)
      refine hN _ _ ⟨_, rfl, fun b u hb => ?_, upd_same, fun v hv => ?_, kp _ _ (k7 _ _ hga8), kp _ _ (k7 _ _ hd8)⟩
      · rw [upd_ne (ne_of_none hb hwl)]; exact S7 _ _ (S58 b u hb)
      · rcases List.mem_append.mp hv with z | z
        · simp only [List.mem_cons, List.not_mem_nil, or_false] at z
          rcases z with z | z
          · rw [z]; exact W1.mono (k7.trans kp)
          · rw [z]; exact W2.mono (k7.trans kp)
        · rw [List.mem_singleton.mp z]; exact W3.mono kp
    · repeat ac_rfl
      refine hN _ _ ⟨_, rfl, S58.trans s89, s89 _ _ x8, fun v hv => ?_, k89 _ _ hga8, k89 _ _ hd8⟩
      simp only [List.mem_cons, List.not_mem_nil, or_false] at hv
      rcases hv with z | z
      · rw [z]; exact W1.mono k89
      · rw [z]; exact W2.mono k89
  clear S58 x8 hp18 hp28 hq18 hq28 hga8 hd8 W1 W2 he18 he28 H8
  rintro _ H6 ⟨us, rfl, S6, ewl, hus, hga6, hd6⟩
  repeat ac_rfl
  refine ⟨_, rfl, wl, rfl, ⟨_, .inl (.inl ewl)⟩, for_list (K := K) (a := wl) (xs := us) (fun i σ H' => ∃ o, σ = [some (.ref a), some (.ref T.a), some (.ref v1), some (.ref v2), some (.ref ga), some (.ref t1), some (.ref b), some (.ref t2), some (.ref d), some (.ref wl), o] ∧ Same H6 H') ⟨none, rfl, fun _ _ z => z⟩ (fun i σ H' _ ⟨_, _, z⟩ => .inl (.inl (z _ _ ewl))) ?_ ?_⟩
  · rintro i x _ H7 hx ⟨o, rfl, s7⟩
    obtain ⟨ww, hwe, hww, hwz, hwl', hwr⟩ := hus x (List.mem_of_getElem? hx)
    have k7 : TK K H6 H7 := TK.of_same s7
    repeat ac_rfl
    refine ⟨x, ga, ww, as, rfl, EncR.mono k7 ww hwe, k7 _ _ hga6, hww, hwz, hwl', by omega, fun t H9 s9 ht => ?_⟩
    rw [hwr] at ht
    repeat ac_rfl
    refine st_reprT ht hgd2 (by omega) ?_
    repeat ac_rfl
    refine st_reprT ((k7.trans (TK.of_same s9)) _ _ hd6) hgd2 (by omega) ?_
    repeat ac_rfl
    exact s7.trans s9
  · rintro σ H7 ⟨o, rfl, s7⟩
    repeat ac_rfl
    exact q H7 (S6.trans s7)
end
end K23
namespace K23
open PySem PySem.Spec PyProof.Rows L2 Fl RT
/-- what the call of the law wants of its end -/
abbrev LawEnd (s0 : Shared) : Result → Shared → Prop := fun r t => r = .ok (.ret (.bool true)) ∧ OldK s0.heap t.heap ∧ t.os = s0.os ∧ AllBare t.gens
/-- the start: the script is locked, or it is the module's own -/
structure Beg (P : Program) (w : World) (K : PySem.W.Frag) (a : Addr) (ns : List Int) (s0 : Shared) (H : Hp) : Prop where
  seq : SqL K H a (ns.map V.int)
  ok : HOk P w H s0.heap
  one : ∀ b u, H b = some u → b = a ∧ K.lookup a = none ∧ ∃ o xs, u = .frz o (.lst xs)
theorem beg_of {P : Program} {w : World} {K : PySem.W.Frag} {a : Addr} {ns : List Int} {s0 : Shared} {us : List Value} (KX : K.In s0.heap) (hobj : s0.heap.get? a = some { cls := .type "list", data := .seq us.toArray }) (hin : IntsAre us ns) (hle : ns.length ≤ sizeLine) : ∃ H, Beg P w K a ns s0 H := by
  have hv := vals_ints hin
  have hlen := hin.length
  cases hk : K.lookup a with
  | some ob =>
    have e := (KX a ob hk).symm.trans hobj
    cases e
    exact ⟨fun _ => none, .inr ⟨_, us.toArray, _, hk, rfl, rfl, rfl, by simpa [hlen] using hle, by simpa using hv⟩, fun b u z => (by cases z), fun b u z => by cases z⟩
  | none =>
    have at_ : ∀ {b : Addr} {u : HO}, (fun b => if b = a then some (HO.frz { cls := .type "list", data := .seq us.toArray } (.lst (ns.map V.int))) else none : Hp) b = some u → b = a ∧ u = .frz { cls := .type "list", data := .seq us.toArray } (.lst (ns.map V.int)) := fun {b u} z => by
      by_cases c : b = a
      · exact ⟨c, (Option.some.inj ((if_pos c).symm.trans z)).symm⟩
      · exact absurd ((if_neg c).symm.trans z) (by simp)
    refine ⟨fun b => if b = a then some (.frz { cls := .type "list", data := .seq us.toArray } (.lst (ns.map V.int))) else none, .inl (.inr ⟨_, if_pos rfl⟩), fun b u z => ?_, fun b u z => ?_⟩
    · obtain ⟨rfl, rfl⟩ := at_ z
      exact ⟨hobj, by simpa using hle, us, _, hv, hobj⟩
    · obtain ⟨rfl, rfl⟩ := at_ z
      exact ⟨rfl, hk, _, _, rfl⟩
theorem law_callG {P : Program} {w : World} {K : PySem.W.Frag} {mg mb : Str → Option Value} {k : Nat} {fa a : Addr} {fd : FuncData} {x : Str} {sp : Sp} {s0 : Shared} {us : List Value} {ns : List Int}
    (KX : K.In s0.heap) (hmod : s0.heap.Ns mainGlobals mg) (hblt : s0.heap.Ns builtinsNs mb) (hboot : ∀ y : Str, y ≠ "__name__" → mb y = bootBuiltins y) (hno : s0.heap.NoLimit) (hgens : s0.gens = #[])
    (hobj : s0.heap.get? a = some { cls := .type "list", data := .seq us.toArray }) (hin : IntsAre us ns) (hle : ns.length ≤ sizeLine) (room : Room k callerA)
    (F : ∀ base : Heap, K.In base → base.Ns mainGlobals mg → FnG P w K mg base k fa fd [x] sp) (bnd : ∀ (s : Shared) (u : Value), BindsTo s fd ⟨[u], []⟩ [(x, u)])
    (hsp : ∀ H : Hp, SqL K H a (ns.map V.int) → sp [.ref a] H (fun v _ => v = .bl true) fun _ _ _ => False) :
    codeAny (model P w) callerA (.call (.ref fa) ⟨[.ref a], []⟩) (LawEnd s0) s0 := by
  obtain ⟨H, B⟩ := beg_of (P := P) (w := w) KX hobj hin hle
  have free : ∀ {b : Addr}, (b = a → K.lookup a ≠ none) → H b = none := fun {b} hb => by
    cases e : H b with
    | none => rfl
    | some u =>
      obtain ⟨e1, e2, _⟩ := B.one b u e
      exact absurd e2 (hb e1)
  have notList : ∀ {b : Addr} {o : Obj} {es : Array DictEntry} {ep : Nat}, s0.heap.get? b = some o → o.data = .dict es ep → b ≠ a := fun {b o es ep} e dd z => by
    subst z
    rw [hobj] at e
    cases e
    exact nomatch dd
  have old : ∀ {b : Addr} {o : Obj}, s0.heap.get? b = some o → (b = a → K.lookup a ≠ none) → (hidT s0.heap H).get? b = some o := fun e hb => hidT_get e (free hb)
  have spaces : ∀ {b : Addr} {m : Str → Option Value}, s0.heap.Ns b m → (hidT s0.heap H).Ns b m := fun {b m} q => by
    obtain ⟨o, es, ep, e, dd, r⟩ := q
    exact ⟨o, es, ep, old e (fun z => absurd z (notList e dd)), dd, r⟩
  have inB : K.In (hidT s0.heap H) := fun b o e => old (KX b o e) fun z => by rw [← z, e]; simp
  have lim : (hidT s0.heap H).NoLimit := by
    obtain ⟨mc, q1, q2⟩ := hno
    exact ⟨mc, spaces q1, q2⟩
  have env : Env0 P w K mg (hidT s0.heap H) callerA [] s0 H :=
    { frames := rfl, mod := { kin := inB, glob := spaces hmod, blt := ⟨mb, spaces hblt, hboot⟩, nolimit := lim }, bs := fun b o e => of_hidT e, bsz := Nat.le_of_eq (hidT_size _ _), funs := trivial
      frf := fun b hb => absurd (show b ∈ ([] : List Addr) from hb) List.not_mem_nil, hok := B.ok, bare := .of_eq hgens }
  refine codeAny_mono ((F _ inB (spaces hmod)).go callerA [] s0 H ⟨[.ref a], []⟩ [.ref a] [.ref a] _ _ rfl room env (bnd s0 _) (.cons rfl .nil) (hsp H B.seq)) fun r t hq => ?_
  match r, hq with
  | .ok (.ret u), ⟨v, H2, e1, e2, un, ok2, e3, e4⟩ =>
    have e5 : v = .bl true := e4
    subst e5
    have e6 : u = Value.bool true := e3
    subst e6
    refine ⟨rfl, OldK.of_keep fun b o e => ?_, e1, e2⟩
    cases hb : H b with
    | none => exact un.keep b o e hb (fun z => absurd (show b ∈ ([] : List Addr) from z) List.not_mem_nil) List.not_mem_nil
    | some q =>
      obtain ⟨_, _, ob, xs, rfl⟩ := B.one b q hb
      have g1 := (B.ok b _ hb).1
      have g2 := (ok2 b _ (un.frzs b ob _ hb)).1
      rw [g2, ← e, g1]
theorem walk_ofG {l : PySem.W.OpenLaw} {n k : Nat} {q : Program} {loose : List Str} {XP : (Str → Option Value) → Heap → Prop} {YP : World → Heap → Prop} {d : DefRec} {K : Params → PySem.W.Frag} {sp : PySem.W.Frag → Sp} {x : Str}
    (hmost : l.most = some n) (hn : n ≤ sizeLine) (hdef : d.params.defaults = []) (room : Room k callerA) (hY : ∀ (w : World) (h : Heap), YP w h → (K w.params).In h)
    (F : ∀ (w : World) (mg : Str → Option Value) (fa : Addr) (h : Heap), (K w.params).In h → h.Ns mainGlobals mg → mg d.name = some (.ref fa) → ∃ fd : FuncData, (∀ (s : Shared) (u : Value), BindsTo s fd ⟨[u], []⟩ [(x, u)]) ∧
      ∀ base : Heap, (K w.params).In base → base.Ns mainGlobals mg → FnG l.prog w (K w.params) mg base k fa fd [x] (sp (K w.params)))
    (hsp : ∀ (K : PySem.W.Frag) (H : Hp) (a : Addr) (ns : List Int), ns.length ≤ n → SqL K H a (ns.map V.int) → sp K [.ref a] H (fun v _ => v = .bl true) fun _ _ _ => False) :
    PySem.W.WalkO q loose XP YP l.row.toRowW d [] (fun f vs => PySem.call f vs) :=
  Att.attach_call hmost hdef fun w s₀ s1 mg mb fa o pm cd doc a us ns G Y ho hd hcd hmg hobj hin hlen hg => by
    obtain ⟨fd, bnd, hF⟩ := F w mg fa _ (hY w _ Y) G.T.g hmg
    exact law_callG (hY w _ Y) G.T.g G.T.b G.T.builtins G.T.nolimit hg hobj hin (Nat.le_trans hlen hn) room hF bnd fun H hs => hsp _ H a ns hlen hs
end K23
namespace K23
open PySem PySem.Spec PyProof.Rows L2 Fl RT
section
variable {K : PySem.W.Frag} {h : Heap} {mg : Str → Option Value} {f C : Addr} {od an : Option Addr} {osl : Array (Option Value)} {oc kV doc pm cdv ct : Value} {x qual : Str} {st : Stmt} {ps : List Str}
/-- arguments come to parameters -/
abbrev ArgsOk (x qual : Str) (st : Stmt) (ps : List Str) : Prop := ∀ (kV doc pm : Value) (an : Option Addr) (cdv ct : Value) (us : List Value), us.length = ps.length → bindArgs (PySem.W.fnOf x qual (defArgs st) (defBody st) (defScope st) .none kV doc pm an cdv ct) ⟨us, []⟩ = pure (ps.zip us)
theorem da_mk (X : K.In h) (G : h.Ns mainGlobals mg) (a : PySem.W.nsIn K mainGlobals x = some (some (.ref f))) (l : K.lookup f = some ⟨oc, od, .func (PySem.W.fnOf x x (defArgs st) (defBody st) (defScope st) .none kV doc pm an cdv ct), osl⟩) (c : PySem.W.codeIn K cdv x = true) (k : PySem.W.keepIn K (.ref f) = true) (hb : ArgsOk x x st ps) :
    DA K mg x st ps f (PySem.W.fnOf x x (defArgs st) (defBody st) (defScope st) .none kV doc pm an cdv ct) :=
  ⟨fun_mk l c k, PySem.W.mg_of X G a, (fun_mk l c k).binds hb⟩
theorem dm_mk (a : PySem.W.findIn K (.ref C) x = some (some (.ref f))) (i : PySem.W.isFn K (.ref f) = true) (l : K.lookup f = some ⟨oc, od, .func (PySem.W.fnOf x qual (defArgs st) (defBody st) (defScope st) .none kV doc pm an cdv ct), osl⟩) (c : PySem.W.codeIn K cdv qual = true) (k : PySem.W.keepIn K (.ref f) = true) (hb : ArgsOk x qual st ps) :
    DM K C x qual st ps f (PySem.W.fnOf x qual (defArgs st) (defBody st) (defScope st) .none kV doc pm an cdv ct) :=
  ⟨fun_mk l c k, ⟨a, i, k⟩, (fun_mk l c k).binds hb⟩
end
theorem ar8 : ArgsOk "bodies_of" "bodies_of" (top 8) ["statement"] := fun _ _ _ _ _ _ us hl => match us, hl with | [_], _ => rfl
theorem ar11 : ArgsOk "flag_number" "flag_number" (top 11) ["name", "visible"] := fun _ _ _ _ _ _ us hl => match us, hl with | [_, _], _ => rfl
theorem ar12 : ArgsOk "resolved_condition" "resolved_condition" (top 12) ["condition", "visible"] := fun _ _ _ _ _ _ us hl => match us, hl with | [_, _], _ => rfl
theorem ar13 : ArgsOk "resolved_jump" "resolved_jump" (top 13) ["statement", "labels"] := fun _ _ _ _ _ _ us hl => match us, hl with | [_, _], _ => rfl
theorem ar14 : ArgsOk "resolved_return" "resolved_return" (top 14) ["number"] := fun _ _ _ _ _ _ us hl => match us, hl with | [_], _ => rfl
theorem ar16 : ArgsOk "has_try" "has_try" (top 16) ["body"] := fun _ _ _ _ _ _ us hl => match us, hl with | [_], _ => rfl
theorem ar17 : ArgsOk "has_try_in_finally" "has_try_in_finally" (top 17) ["body"] := fun _ _ _ _ _ _ us hl => match us, hl with | [_], _ => rfl
theorem ar18 : ArgsOk "resolve" "resolve" (top 18) ["program"] := fun _ _ _ _ _ _ us hl => match us, hl with | [_], _ => rfl
theorem ar25 : ArgsOk "outcome_of" "outcome_of" (top 25) ["done"] := fun _ _ _ _ _ _ us hl => match us, hl with | [_], _ => rfl
theorem ar26 : ArgsOk "play" "play" (top 26) ["program", "answers"] := fun _ _ _ _ _ _ us hl => match us, hl with | [_, _], _ => rfl
theorem ar27 : ArgsOk "run" "run" (top 27) ["program", "answers"] := fun _ _ _ _ _ _ us hl => match us, hl with | [_, _], _ => rfl
theorem ar29 : ArgsOk "_law_tape" "_law_tape" (top 29) ["_law_script"] := fun _ _ _ _ _ _ us hl => match us, hl with | [_], _ => rfl
theorem ar30 : ArgsOk "_law_draw" "_law_draw" (top 30) ["_law_tape_here", "_law_many"] := fun _ _ _ _ _ _ us hl => match us, hl with | [_, _], _ => rfl
theorem ar31 : ArgsOk "_law_names" "_law_names" (top 31) ["_law_tape_here", "_law_many"] := fun _ _ _ _ _ _ us hl => match us, hl with | [_, _], _ => rfl
theorem ar32 : ArgsOk "_law_world" "_law_world" (top 32) ["_law_tape_here"] := fun _ _ _ _ _ _ us hl => match us, hl with | [_], _ => rfl
theorem ar33 : ArgsOk "_law_leaf" "_law_leaf" (top 33) ["_law_tape_here", "_law_world_here", "_law_flags"] := fun _ _ _ _ _ _ us hl => match us, hl with | [_, _, _], _ => rfl
theorem ar34 : ArgsOk "_law_joined" "_law_joined" (top 34) ["_law_word", "_law_left", "_law_right"] := fun _ _ _ _ _ _ us hl => match us, hl with | [_, _, _], _ => rfl
theorem ar35 : ArgsOk "_law_condition" "_law_condition" (top 35) ["_law_tape_here", "_law_world_here", "_law_flags"] := fun _ _ _ _ _ _ us hl => match us, hl with | [_, _, _], _ => rfl
theorem ar36 : ArgsOk "_law_stop" "_law_stop" (top 36) ["_law_tape_here", "_law_world_here", "_law_loops"] := fun _ _ _ _ _ _ us hl => match us, hl with | [_, _, _], _ => rfl
theorem ar37 : ArgsOk "_law_nest" "_law_nest" (top 37) ["_law_tape_here", "_law_world_here", "_law_flags", "_law_loops", "_law_last", "_law_depth"] := fun _ _ _ _ _ _ us hl => match us, hl with | [_, _, _, _, _, _], _ => rfl
theorem ar38 : ArgsOk "_law_statement" "_law_statement" (top 38) ["_law_tape_here", "_law_world_here", "_law_flags", "_law_own", "_law_loops", "_law_last", "_law_depth"] := fun _ _ _ _ _ _ us hl => match us, hl with | [_, _, _, _, _, _, _], _ => rfl
theorem ar39 : ArgsOk "_law_body" "_law_body" (top 39) ["_law_tape_here", "_law_world_here", "_law_flags", "_law_loops", "_law_last", "_law_depth"] := fun _ _ _ _ _ _ us hl => match us, hl with | [_, _, _, _, _, _], _ => rfl
theorem ar40 : ArgsOk "_law_program" "_law_program" (top 40) ["_law_tape_here", "_law_world_here"] := fun _ _ _ _ _ _ us hl => match us, hl with | [_, _], _ => rfl
theorem ar41 : ArgsOk "_law_value" "_law_value" (top 41) ["_law_condition_here", "_law_flags", "_law_live"] := fun _ _ _ _ _ _ us hl => match us, hl with | [_, _, _], _ => rfl
theorem ar42 : ArgsOk "_law_row" "_law_row" (top 42) ["_law_body_here", "_law_flags", "_law_live"] := fun _ _ _ _ _ _ us hl => match us, hl with | [_, _, _], _ => rfl
theorem ar43 : ArgsOk "_law_loop" "_law_loop" (top 43) ["_law_statement_here", "_law_flags", "_law_live"] := fun _ _ _ _ _ _ us hl => match us, hl with | [_, _, _], _ => rfl
theorem ar44 : ArgsOk "_law_tried" "_law_tried" (top 44) ["_law_statement_here", "_law_flags", "_law_live"] := fun _ _ _ _ _ _ us hl => match us, hl with | [_, _, _], _ => rfl
theorem ar45 : ArgsOk "_law_done" "_law_done" (top 45) ["_law_statement_here", "_law_flags", "_law_live"] := fun _ _ _ _ _ _ us hl => match us, hl with | [_, _, _], _ => rfl
theorem ar46 : ArgsOk "_law_state" "_law_state" (top 46) ["_law_program_here", "_law_flags", "_law_answers_here"] := fun _ _ _ _ _ _ us hl => match us, hl with | [_, _, _], _ => rfl
theorem ar47 : ArgsOk "_law_events" "_law_events" (top 47) ["_law_program_here", "_law_answers_here"] := fun _ _ _ _ _ _ us hl => match us, hl with | [_, _], _ => rfl
theorem ar48 : ArgsOk "_law_answers" "_law_answers" (top 48) ["_law_tape_here"] := fun _ _ _ _ _ _ us hl => match us, hl with | [_], _ => rfl
theorem ar49 : ArgsOk "_law_parts" "_law_parts" (top 49) ["_law_condition_here"] := fun _ _ _ _ _ _ us hl => match us, hl with | [_], _ => rfl
theorem ar50 : ArgsOk "_law_bodies" "_law_bodies" (top 50) ["_law_statement_here"] := fun _ _ _ _ _ _ us hl => match us, hl with | [_], _ => rfl
theorem ar51 : ArgsOk "_law_paths" "_law_paths" (top 51) ["_law_body_here", "_law_path"] := fun _ _ _ _ _ _ us hl => match us, hl with | [_, _], _ => rfl
theorem ar52 : ArgsOk "_law_lets" "_law_lets" (top 52) ["_law_program_here"] := fun _ _ _ _ _ _ us hl => match us, hl with | [_], _ => rfl
theorem ar53 : ArgsOk "law" "law" (top 53) ["_law_script"] := fun _ _ _ _ _ _ us hl => match us, hl with | [_], _ => rfl
theorem ar20 : ArgsOk "walk" "walk" sWalk ["program"] := fun _ _ _ _ _ _ us hl => match us, hl with | [_], _ => rfl
theorem ar15_0 : ArgsOk "__init__" "Resolver.__init__" (inClass (top 15) 0) ["self"] := fun _ _ _ _ _ _ us hl => match us, hl with | [_], _ => rfl
theorem ar15_1 : ArgsOk "body" "Resolver.body" (inClass (top 15) 1) ["self", "body", "visible", "labels"] := fun _ _ _ _ _ _ us hl => match us, hl with | [_, _, _, _], _ => rfl
theorem ar15_2 : ArgsOk "statement" "Resolver.statement" (inClass (top 15) 2) ["self", "statement", "visible", "labels"] := fun _ _ _ _ _ _ us hl => match us, hl with | [_, _, _, _], _ => rfl
theorem ar15_3 : ArgsOk "compound" "Resolver.compound" (inClass (top 15) 3) ["self", "statement", "visible", "labels"] := fun _ _ _ _ _ _ us hl => match us, hl with | [_, _, _, _], _ => rfl
theorem ar24_0 : ArgsOk "__init__" "Player.__init__" (inClass (top 24) 0) ["self", "given", "rounds"] := fun _ _ _ _ _ _ us hl => match us, hl with | [_, _, _], _ => rfl
theorem ar24_1 : ArgsOk "ask" "Player.ask" (inClass (top 24) 1) ["self", "name"] := fun _ _ _ _ _ _ us hl => match us, hl with | [_, _], _ => rfl
theorem ar24_2 : ArgsOk "scope_of" "Player.scope_of" (inClass (top 24) 2) ["self", "name"] := fun _ _ _ _ _ _ us hl => match us, hl with | [_, _], _ => rfl
theorem ar24_3 : ArgsOk "holds" "Player.holds" (inClass (top 24) 3) ["self", "condition"] := fun _ _ _ _ _ _ us hl => match us, hl with | [_, _], _ => rfl
theorem ar24_4 : ArgsOk "body" "Player.body" (inClass (top 24) 4) ["self", "body"] := fun _ _ _ _ _ _ us hl => match us, hl with | [_, _], _ => rfl
theorem ar24_5 : ArgsOk "statement" "Player.statement" (inClass (top 24) 5) ["self", "statement"] := fun _ _ _ _ _ _ us hl => match us, hl with | [_, _], _ => rfl
theorem ar24_6 : ArgsOk "loop" "Player.loop" (inClass (top 24) 6) ["self", "loop"] := fun _ _ _ _ _ _ us hl => match us, hl with | [_, _], _ => rfl
/-- all that the top has written -/
structure Tops (K : PySem.W.Frag) (mg : Str → Option Value) (f53 : Addr) (d53 : FuncData) : Prop where
  bn : BN mg
  d8 : ∃ f fd, DA K mg "bodies_of" (top 8) ["statement"] f fd
  d11 : ∃ f fd, DA K mg "flag_number" (top 11) ["name", "visible"] f fd
  d12 : ∃ f fd, DA K mg "resolved_condition" (top 12) ["condition", "visible"] f fd
  d13 : ∃ f fd, DA K mg "resolved_jump" (top 13) ["statement", "labels"] f fd
  d14 : ∃ f fd, DA K mg "resolved_return" (top 14) ["number"] f fd
  d16 : ∃ f fd, DA K mg "has_try" (top 16) ["body"] f fd
  d17 : ∃ f fd, DA K mg "has_try_in_finally" (top 17) ["body"] f fd
  d18 : ∃ f fd, DA K mg "resolve" (top 18) ["program"] f fd
  d25 : ∃ f fd, DA K mg "outcome_of" (top 25) ["done"] f fd
  d26 : ∃ f fd, DA K mg "play" (top 26) ["program", "answers"] f fd
  d27 : ∃ f fd, DA K mg "run" (top 27) ["program", "answers"] f fd
  d29 : ∃ f fd, DA K mg "_law_tape" (top 29) ["_law_script"] f fd
  d30 : ∃ f fd, DA K mg "_law_draw" (top 30) ["_law_tape_here", "_law_many"] f fd
  d31 : ∃ f fd, DA K mg "_law_names" (top 31) ["_law_tape_here", "_law_many"] f fd
  d32 : ∃ f fd, DA K mg "_law_world" (top 32) ["_law_tape_here"] f fd
  d33 : ∃ f fd, DA K mg "_law_leaf" (top 33) ["_law_tape_here", "_law_world_here", "_law_flags"] f fd
  d34 : ∃ f fd, DA K mg "_law_joined" (top 34) ["_law_word", "_law_left", "_law_right"] f fd
  d35 : ∃ f fd, DA K mg "_law_condition" (top 35) ["_law_tape_here", "_law_world_here", "_law_flags"] f fd
  d36 : ∃ f fd, DA K mg "_law_stop" (top 36) ["_law_tape_here", "_law_world_here", "_law_loops"] f fd
  d37 : ∃ f fd, DA K mg "_law_nest" (top 37) ["_law_tape_here", "_law_world_here", "_law_flags", "_law_loops", "_law_last", "_law_depth"] f fd
  d38 : ∃ f fd, DA K mg "_law_statement" (top 38) ["_law_tape_here", "_law_world_here", "_law_flags", "_law_own", "_law_loops", "_law_last", "_law_depth"] f fd
  d39 : ∃ f fd, DA K mg "_law_body" (top 39) ["_law_tape_here", "_law_world_here", "_law_flags", "_law_loops", "_law_last", "_law_depth"] f fd
  d40 : ∃ f fd, DA K mg "_law_program" (top 40) ["_law_tape_here", "_law_world_here"] f fd
  d41 : ∃ f fd, DA K mg "_law_value" (top 41) ["_law_condition_here", "_law_flags", "_law_live"] f fd
  d42 : ∃ f fd, DA K mg "_law_row" (top 42) ["_law_body_here", "_law_flags", "_law_live"] f fd
  d43 : ∃ f fd, DA K mg "_law_loop" (top 43) ["_law_statement_here", "_law_flags", "_law_live"] f fd
  d44 : ∃ f fd, DA K mg "_law_tried" (top 44) ["_law_statement_here", "_law_flags", "_law_live"] f fd
  d45 : ∃ f fd, DA K mg "_law_done" (top 45) ["_law_statement_here", "_law_flags", "_law_live"] f fd
  d46 : ∃ f fd, DA K mg "_law_state" (top 46) ["_law_program_here", "_law_flags", "_law_answers_here"] f fd
  d47 : ∃ f fd, DA K mg "_law_events" (top 47) ["_law_program_here", "_law_answers_here"] f fd
  d48 : ∃ f fd, DA K mg "_law_answers" (top 48) ["_law_tape_here"] f fd
  d49 : ∃ f fd, DA K mg "_law_parts" (top 49) ["_law_condition_here"] f fd
  d50 : ∃ f fd, DA K mg "_law_bodies" (top 50) ["_law_statement_here"] f fd
  d51 : ∃ f fd, DA K mg "_law_paths" (top 51) ["_law_body_here", "_law_path"] f fd
  d52 : ∃ f fd, DA K mg "_law_lets" (top 52) ["_law_program_here"] f fd
  d53 : DA K mg "law" (top 53) ["_law_script"] f53 d53
  d20 : ∃ f fd cdv, WFun K f fd cdv ∧ mg "walk" = some (.ref f)
  c15 : ∃ C fi, RCls K mg C fi ∧ (∃ fd, DM K C "__init__" "Resolver.__init__" (inClass (top 15) 0) ["self"] fi fd) ∧ (∃ f fd, DM K C "body" "Resolver.body" (inClass (top 15) 1) ["self", "body", "visible", "labels"] f fd) ∧ (∃ f fd, DM K C "statement" "Resolver.statement" (inClass (top 15) 2) ["self", "statement", "visible", "labels"] f fd) ∧ (∃ f fd, DM K C "compound" "Resolver.compound" (inClass (top 15) 3) ["self", "statement", "visible", "labels"] f fd)
  c24 : ∃ C fi, PCls K mg C fi ∧ (∃ fd, DM K C "__init__" "Player.__init__" (inClass (top 24) 0) ["self", "given", "rounds"] fi fd) ∧ (∃ f fd, DM K C "ask" "Player.ask" (inClass (top 24) 1) ["self", "name"] f fd) ∧ (∃ f fd, DM K C "scope_of" "Player.scope_of" (inClass (top 24) 2) ["self", "name"] f fd) ∧ (∃ f fd, DM K C "holds" "Player.holds" (inClass (top 24) 3) ["self", "condition"] f fd) ∧ (∃ f fd, DM K C "body" "Player.body" (inClass (top 24) 4) ["self", "body"] f fd) ∧ (∃ f fd, DM K C "statement" "Player.statement" (inClass (top 24) 5) ["self", "statement"] f fd) ∧ (∃ f fd, DM K C "loop" "Player.loop" (inClass (top 24) 6) ["self", "loop"] f fd)
  c23 : ∃ C, StopC K mg C
  ro : ∃ ra, mg "ROUNDS" = some (.ref ra) ∧ ∀ H : Hp, SqT K H ra [.int 1, .int 2, .int 4, .int 8, .int 16]
  mo : ∃ tk, mg "MOST_FLAGS" = some (.int 4 tk)
/-- the law from them -/
theorem law_of {P : Program} {w : World} {K : PySem.W.Frag} {mg : Str → Option Value} {f53 : Addr} {d53 : FuncData} (T : Tops K mg f53 d53) (base : Heap) : FnG P w K mg base 148 f53 d53 ["_law_script"] (spLaw K) := by
  have ml := T.bn
  obtain ⟨f8, e8, D8⟩ := T.d8
  obtain ⟨f11, e11, D11⟩ := T.d11
  obtain ⟨f12, e12, D12⟩ := T.d12
  obtain ⟨f13, e13, D13⟩ := T.d13
  obtain ⟨f14, e14, D14⟩ := T.d14
  obtain ⟨f16, e16, D16⟩ := T.d16
  obtain ⟨f17, e17, D17⟩ := T.d17
  obtain ⟨f18, e18, D18⟩ := T.d18
  obtain ⟨f25, e25, D25⟩ := T.d25
  obtain ⟨f26, e26, D26⟩ := T.d26
  obtain ⟨f27, e27, D27⟩ := T.d27
  obtain ⟨f29, e29, D29⟩ := T.d29
  obtain ⟨f30, e30, D30⟩ := T.d30
  obtain ⟨f31, e31, D31⟩ := T.d31
  obtain ⟨f32, e32, D32⟩ := T.d32
  obtain ⟨f33, e33, D33⟩ := T.d33
  obtain ⟨f34, e34, D34⟩ := T.d34
  obtain ⟨f35, e35, D35⟩ := T.d35
  obtain ⟨f36, e36, D36⟩ := T.d36
  obtain ⟨f37, e37, D37⟩ := T.d37
  obtain ⟨f38, e38, D38⟩ := T.d38
  obtain ⟨f39, e39, D39⟩ := T.d39
  obtain ⟨f40, e40, D40⟩ := T.d40
  obtain ⟨f41, e41, D41⟩ := T.d41
  obtain ⟨f42, e42, D42⟩ := T.d42
  obtain ⟨f43, e43, D43⟩ := T.d43
  obtain ⟨f44, e44, D44⟩ := T.d44
  obtain ⟨f45, e45, D45⟩ := T.d45
  obtain ⟨f46, e46, D46⟩ := T.d46
  obtain ⟨f47, e47, D47⟩ := T.d47
  obtain ⟨f48, e48, D48⟩ := T.d48
  obtain ⟨f49, e49, D49⟩ := T.d49
  obtain ⟨f50, e50, D50⟩ := T.d50
  obtain ⟨f51, e51, D51⟩ := T.d51
  obtain ⟨f52, e52, D52⟩ := T.d52
  have D53 := T.d53
  obtain ⟨f20, e20, v20, W20, g20⟩ := T.d20
  obtain ⟨C15, fi15, R15, ⟨e15_0, D15_0⟩, ⟨f15_1, e15_1, D15_1⟩, ⟨f15_2, e15_2, D15_2⟩, ⟨f15_3, e15_3, D15_3⟩⟩ := T.c15
  obtain ⟨C24, fi24, R24, ⟨e24_0, D24_0⟩, ⟨f24_1, e24_1, D24_1⟩, ⟨f24_2, e24_2, D24_2⟩, ⟨f24_3, e24_3, D24_3⟩, ⟨f24_4, e24_4, D24_4⟩, ⟨f24_5, e24_5, D24_5⟩, ⟨f24_6, e24_6, D24_6⟩⟩ := T.c24
  obtain ⟨C23, S23⟩ := T.c23
  obtain ⟨ra, gR, hR⟩ := T.ro
  obtain ⟨tk, gM⟩ := T.mo
  have GRb := (res_all (P := P) (w := w) (base := base) ml R15 D11 D12 D13 D14 D15_1 D15_2 D15_3 40).mono (show 3 * 40 + 25 ≤ 145 by decide)
  have GHt := (htf_all (P := P) (w := w) (base := base) ml D8 D16 D17 40).mono (show 40 + 2 ≤ 145 by decide)
  have GRes := ok_resolve ml R15 D15_0 D15_1 D17 D18 gM GRb GHt
  have GPb := (player_all (P := P) (w := w) (base := base) ml R24 S23 D24_1 D24_2 D24_3 D24_4 D24_5 D24_6 40).mono (show 3 * 40 + 25 ≤ 145 by decide)
  have TW : WT P w K mg base f20 e20 v20 f8 e8 := ⟨W20, g20, ml.range, ml.len, D8.g, D8.F.kp, D8.b, ok_bods D8⟩
  have GPl := ok_play ml R24 S23 TW D24_0 D24_4 D25 D26 gR hR GPb
  have GRun := ok_run D18 GRes D26 GPl D27
  have GPa := LP_all (P := P) (w := w) (base := base) ml D50 D51 40
  have GL := ok_LL ml D51 GPa D52
  have GR := LR_all (P := P) (w := w) (base := base) ml D41 D42 D43 D44 D45 15
  have GSt := ok_LSt ml D42 GR D46
  have GE := ok_LE ml D46 GSt D47
  have DD0 : DD K mg (fun i => match i with | 29 => f29 | 30 => f30 | 31 => f31 | 32 => f32 | 33 => f33 | 34 => f34 | 35 => f35 | 36 => f36 | 37 => f37 | 38 => f38 | 39 => f39 | 40 => f40 | 48 => f48 | 49 => f49 | _ => f29) (fun i => match i with | 29 => e29 | 30 => e30 | 31 => e31 | 32 => e32 | 33 => e33 | 34 => e34 | 35 => e35 | 36 => e36 | 37 => e37 | 38 => e38 | 39 => e39 | 40 => e40 | 48 => e48 | 49 => e49 | _ => e29) := ⟨D29, D30, D31, D32, D33, D34, D35, D36, D37, D38, D39, D40, D48, D49⟩
  exact ok_law ml DD0 D27 GRun D52 GL D47 GE D53
theorem all_mk {l : PySem.W.OpenLaw} {w : World} {K : PySem.W.Frag} {h : Heap} {mg : Str → Option Value} {fa C15 C23 C24 ra : Addr} (X : K.In h) (G : h.Ns mainGlobals mg) (hfa : mg "law" = some (.ref fa))
    {f8 : Addr} {od8 an8 : Option Addr} {sl8 : Array (Option Value)} {oc8 kV8 dc8 pm8 cd8 ct8 : Value} (a8 : PySem.W.nsIn K mainGlobals "bodies_of" = some (some (.ref f8))) (l8 : K.lookup f8 = some ⟨oc8, od8, .func (PySem.W.fnOf "bodies_of" "bodies_of" (defArgs (top 8)) (defBody (top 8)) (defScope (top 8)) .none kV8 dc8 pm8 an8 cd8 ct8), sl8⟩) (c8 : PySem.W.codeIn K cd8 "bodies_of" = true) (k8 : PySem.W.keepIn K (.ref f8) = true)
    {f11 : Addr} {od11 an11 : Option Addr} {sl11 : Array (Option Value)} {oc11 kV11 dc11 pm11 cd11 ct11 : Value} (a11 : PySem.W.nsIn K mainGlobals "flag_number" = some (some (.ref f11))) (l11 : K.lookup f11 = some ⟨oc11, od11, .func (PySem.W.fnOf "flag_number" "flag_number" (defArgs (top 11)) (defBody (top 11)) (defScope (top 11)) .none kV11 dc11 pm11 an11 cd11 ct11), sl11⟩) (c11 : PySem.W.codeIn K cd11 "flag_number" = true) (k11 : PySem.W.keepIn K (.ref f11) = true)
    {f12 : Addr} {od12 an12 : Option Addr} {sl12 : Array (Option Value)} {oc12 kV12 dc12 pm12 cd12 ct12 : Value} (a12 : PySem.W.nsIn K mainGlobals "resolved_condition" = some (some (.ref f12))) (l12 : K.lookup f12 = some ⟨oc12, od12, .func (PySem.W.fnOf "resolved_condition" "resolved_condition" (defArgs (top 12)) (defBody (top 12)) (defScope (top 12)) .none kV12 dc12 pm12 an12 cd12 ct12), sl12⟩) (c12 : PySem.W.codeIn K cd12 "resolved_condition" = true) (k12 : PySem.W.keepIn K (.ref f12) = true)
    {f13 : Addr} {od13 an13 : Option Addr} {sl13 : Array (Option Value)} {oc13 kV13 dc13 pm13 cd13 ct13 : Value} (a13 : PySem.W.nsIn K mainGlobals "resolved_jump" = some (some (.ref f13))) (l13 : K.lookup f13 = some ⟨oc13, od13, .func (PySem.W.fnOf "resolved_jump" "resolved_jump" (defArgs (top 13)) (defBody (top 13)) (defScope (top 13)) .none kV13 dc13 pm13 an13 cd13 ct13), sl13⟩) (c13 : PySem.W.codeIn K cd13 "resolved_jump" = true) (k13 : PySem.W.keepIn K (.ref f13) = true)
    {f14 : Addr} {od14 an14 : Option Addr} {sl14 : Array (Option Value)} {oc14 kV14 dc14 pm14 cd14 ct14 : Value} (a14 : PySem.W.nsIn K mainGlobals "resolved_return" = some (some (.ref f14))) (l14 : K.lookup f14 = some ⟨oc14, od14, .func (PySem.W.fnOf "resolved_return" "resolved_return" (defArgs (top 14)) (defBody (top 14)) (defScope (top 14)) .none kV14 dc14 pm14 an14 cd14 ct14), sl14⟩) (c14 : PySem.W.codeIn K cd14 "resolved_return" = true) (k14 : PySem.W.keepIn K (.ref f14) = true)
    {f16 : Addr} {od16 an16 : Option Addr} {sl16 : Array (Option Value)} {oc16 kV16 dc16 pm16 cd16 ct16 : Value} (a16 : PySem.W.nsIn K mainGlobals "has_try" = some (some (.ref f16))) (l16 : K.lookup f16 = some ⟨oc16, od16, .func (PySem.W.fnOf "has_try" "has_try" (defArgs (top 16)) (defBody (top 16)) (defScope (top 16)) .none kV16 dc16 pm16 an16 cd16 ct16), sl16⟩) (c16 : PySem.W.codeIn K cd16 "has_try" = true) (k16 : PySem.W.keepIn K (.ref f16) = true)
    {f17 : Addr} {od17 an17 : Option Addr} {sl17 : Array (Option Value)} {oc17 kV17 dc17 pm17 cd17 ct17 : Value} (a17 : PySem.W.nsIn K mainGlobals "has_try_in_finally" = some (some (.ref f17))) (l17 : K.lookup f17 = some ⟨oc17, od17, .func (PySem.W.fnOf "has_try_in_finally" "has_try_in_finally" (defArgs (top 17)) (defBody (top 17)) (defScope (top 17)) .none kV17 dc17 pm17 an17 cd17 ct17), sl17⟩) (c17 : PySem.W.codeIn K cd17 "has_try_in_finally" = true) (k17 : PySem.W.keepIn K (.ref f17) = true)
    {f18 : Addr} {od18 an18 : Option Addr} {sl18 : Array (Option Value)} {oc18 kV18 dc18 pm18 cd18 ct18 : Value} (a18 : PySem.W.nsIn K mainGlobals "resolve" = some (some (.ref f18))) (l18 : K.lookup f18 = some ⟨oc18, od18, .func (PySem.W.fnOf "resolve" "resolve" (defArgs (top 18)) (defBody (top 18)) (defScope (top 18)) .none kV18 dc18 pm18 an18 cd18 ct18), sl18⟩) (c18 : PySem.W.codeIn K cd18 "resolve" = true) (k18 : PySem.W.keepIn K (.ref f18) = true)
    {f25 : Addr} {od25 an25 : Option Addr} {sl25 : Array (Option Value)} {oc25 kV25 dc25 pm25 cd25 ct25 : Value} (a25 : PySem.W.nsIn K mainGlobals "outcome_of" = some (some (.ref f25))) (l25 : K.lookup f25 = some ⟨oc25, od25, .func (PySem.W.fnOf "outcome_of" "outcome_of" (defArgs (top 25)) (defBody (top 25)) (defScope (top 25)) .none kV25 dc25 pm25 an25 cd25 ct25), sl25⟩) (c25 : PySem.W.codeIn K cd25 "outcome_of" = true) (k25 : PySem.W.keepIn K (.ref f25) = true)
    {f26 : Addr} {od26 an26 : Option Addr} {sl26 : Array (Option Value)} {oc26 kV26 dc26 pm26 cd26 ct26 : Value} (a26 : PySem.W.nsIn K mainGlobals "play" = some (some (.ref f26))) (l26 : K.lookup f26 = some ⟨oc26, od26, .func (PySem.W.fnOf "play" "play" (defArgs (top 26)) (defBody (top 26)) (defScope (top 26)) .none kV26 dc26 pm26 an26 cd26 ct26), sl26⟩) (c26 : PySem.W.codeIn K cd26 "play" = true) (k26 : PySem.W.keepIn K (.ref f26) = true)
    {f27 : Addr} {od27 an27 : Option Addr} {sl27 : Array (Option Value)} {oc27 kV27 dc27 pm27 cd27 ct27 : Value} (a27 : PySem.W.nsIn K mainGlobals "run" = some (some (.ref f27))) (l27 : K.lookup f27 = some ⟨oc27, od27, .func (PySem.W.fnOf "run" "run" (defArgs (top 27)) (defBody (top 27)) (defScope (top 27)) .none kV27 dc27 pm27 an27 cd27 ct27), sl27⟩) (c27 : PySem.W.codeIn K cd27 "run" = true) (k27 : PySem.W.keepIn K (.ref f27) = true)
    {f29 : Addr} {od29 an29 : Option Addr} {sl29 : Array (Option Value)} {oc29 kV29 dc29 pm29 cd29 ct29 : Value} (a29 : PySem.W.nsIn K mainGlobals "_law_tape" = some (some (.ref f29))) (l29 : K.lookup f29 = some ⟨oc29, od29, .func (PySem.W.fnOf "_law_tape" "_law_tape" (defArgs (top 29)) (defBody (top 29)) (defScope (top 29)) .none kV29 dc29 pm29 an29 cd29 ct29), sl29⟩) (c29 : PySem.W.codeIn K cd29 "_law_tape" = true) (k29 : PySem.W.keepIn K (.ref f29) = true)
    {f30 : Addr} {od30 an30 : Option Addr} {sl30 : Array (Option Value)} {oc30 kV30 dc30 pm30 cd30 ct30 : Value} (a30 : PySem.W.nsIn K mainGlobals "_law_draw" = some (some (.ref f30))) (l30 : K.lookup f30 = some ⟨oc30, od30, .func (PySem.W.fnOf "_law_draw" "_law_draw" (defArgs (top 30)) (defBody (top 30)) (defScope (top 30)) .none kV30 dc30 pm30 an30 cd30 ct30), sl30⟩) (c30 : PySem.W.codeIn K cd30 "_law_draw" = true) (k30 : PySem.W.keepIn K (.ref f30) = true)
    {f31 : Addr} {od31 an31 : Option Addr} {sl31 : Array (Option Value)} {oc31 kV31 dc31 pm31 cd31 ct31 : Value} (a31 : PySem.W.nsIn K mainGlobals "_law_names" = some (some (.ref f31))) (l31 : K.lookup f31 = some ⟨oc31, od31, .func (PySem.W.fnOf "_law_names" "_law_names" (defArgs (top 31)) (defBody (top 31)) (defScope (top 31)) .none kV31 dc31 pm31 an31 cd31 ct31), sl31⟩) (c31 : PySem.W.codeIn K cd31 "_law_names" = true) (k31 : PySem.W.keepIn K (.ref f31) = true)
    {f32 : Addr} {od32 an32 : Option Addr} {sl32 : Array (Option Value)} {oc32 kV32 dc32 pm32 cd32 ct32 : Value} (a32 : PySem.W.nsIn K mainGlobals "_law_world" = some (some (.ref f32))) (l32 : K.lookup f32 = some ⟨oc32, od32, .func (PySem.W.fnOf "_law_world" "_law_world" (defArgs (top 32)) (defBody (top 32)) (defScope (top 32)) .none kV32 dc32 pm32 an32 cd32 ct32), sl32⟩) (c32 : PySem.W.codeIn K cd32 "_law_world" = true) (k32 : PySem.W.keepIn K (.ref f32) = true)
    {f33 : Addr} {od33 an33 : Option Addr} {sl33 : Array (Option Value)} {oc33 kV33 dc33 pm33 cd33 ct33 : Value} (a33 : PySem.W.nsIn K mainGlobals "_law_leaf" = some (some (.ref f33))) (l33 : K.lookup f33 = some ⟨oc33, od33, .func (PySem.W.fnOf "_law_leaf" "_law_leaf" (defArgs (top 33)) (defBody (top 33)) (defScope (top 33)) .none kV33 dc33 pm33 an33 cd33 ct33), sl33⟩) (c33 : PySem.W.codeIn K cd33 "_law_leaf" = true) (k33 : PySem.W.keepIn K (.ref f33) = true)
    {f34 : Addr} {od34 an34 : Option Addr} {sl34 : Array (Option Value)} {oc34 kV34 dc34 pm34 cd34 ct34 : Value} (a34 : PySem.W.nsIn K mainGlobals "_law_joined" = some (some (.ref f34))) (l34 : K.lookup f34 = some ⟨oc34, od34, .func (PySem.W.fnOf "_law_joined" "_law_joined" (defArgs (top 34)) (defBody (top 34)) (defScope (top 34)) .none kV34 dc34 pm34 an34 cd34 ct34), sl34⟩) (c34 : PySem.W.codeIn K cd34 "_law_joined" = true) (k34 : PySem.W.keepIn K (.ref f34) = true)
    {f35 : Addr} {od35 an35 : Option Addr} {sl35 : Array (Option Value)} {oc35 kV35 dc35 pm35 cd35 ct35 : Value} (a35 : PySem.W.nsIn K mainGlobals "_law_condition" = some (some (.ref f35))) (l35 : K.lookup f35 = some ⟨oc35, od35, .func (PySem.W.fnOf "_law_condition" "_law_condition" (defArgs (top 35)) (defBody (top 35)) (defScope (top 35)) .none kV35 dc35 pm35 an35 cd35 ct35), sl35⟩) (c35 : PySem.W.codeIn K cd35 "_law_condition" = true) (k35 : PySem.W.keepIn K (.ref f35) = true)
    {f36 : Addr} {od36 an36 : Option Addr} {sl36 : Array (Option Value)} {oc36 kV36 dc36 pm36 cd36 ct36 : Value} (a36 : PySem.W.nsIn K mainGlobals "_law_stop" = some (some (.ref f36))) (l36 : K.lookup f36 = some ⟨oc36, od36, .func (PySem.W.fnOf "_law_stop" "_law_stop" (defArgs (top 36)) (defBody (top 36)) (defScope (top 36)) .none kV36 dc36 pm36 an36 cd36 ct36), sl36⟩) (c36 : PySem.W.codeIn K cd36 "_law_stop" = true) (k36 : PySem.W.keepIn K (.ref f36) = true)
    {f37 : Addr} {od37 an37 : Option Addr} {sl37 : Array (Option Value)} {oc37 kV37 dc37 pm37 cd37 ct37 : Value} (a37 : PySem.W.nsIn K mainGlobals "_law_nest" = some (some (.ref f37))) (l37 : K.lookup f37 = some ⟨oc37, od37, .func (PySem.W.fnOf "_law_nest" "_law_nest" (defArgs (top 37)) (defBody (top 37)) (defScope (top 37)) .none kV37 dc37 pm37 an37 cd37 ct37), sl37⟩) (c37 : PySem.W.codeIn K cd37 "_law_nest" = true) (k37 : PySem.W.keepIn K (.ref f37) = true)
    {f38 : Addr} {od38 an38 : Option Addr} {sl38 : Array (Option Value)} {oc38 kV38 dc38 pm38 cd38 ct38 : Value} (a38 : PySem.W.nsIn K mainGlobals "_law_statement" = some (some (.ref f38))) (l38 : K.lookup f38 = some ⟨oc38, od38, .func (PySem.W.fnOf "_law_statement" "_law_statement" (defArgs (top 38)) (defBody (top 38)) (defScope (top 38)) .none kV38 dc38 pm38 an38 cd38 ct38), sl38⟩) (c38 : PySem.W.codeIn K cd38 "_law_statement" = true) (k38 : PySem.W.keepIn K (.ref f38) = true)
    {f39 : Addr} {od39 an39 : Option Addr} {sl39 : Array (Option Value)} {oc39 kV39 dc39 pm39 cd39 ct39 : Value} (a39 : PySem.W.nsIn K mainGlobals "_law_body" = some (some (.ref f39))) (l39 : K.lookup f39 = some ⟨oc39, od39, .func (PySem.W.fnOf "_law_body" "_law_body" (defArgs (top 39)) (defBody (top 39)) (defScope (top 39)) .none kV39 dc39 pm39 an39 cd39 ct39), sl39⟩) (c39 : PySem.W.codeIn K cd39 "_law_body" = true) (k39 : PySem.W.keepIn K (.ref f39) = true)
    {f40 : Addr} {od40 an40 : Option Addr} {sl40 : Array (Option Value)} {oc40 kV40 dc40 pm40 cd40 ct40 : Value} (a40 : PySem.W.nsIn K mainGlobals "_law_program" = some (some (.ref f40))) (l40 : K.lookup f40 = some ⟨oc40, od40, .func (PySem.W.fnOf "_law_program" "_law_program" (defArgs (top 40)) (defBody (top 40)) (defScope (top 40)) .none kV40 dc40 pm40 an40 cd40 ct40), sl40⟩) (c40 : PySem.W.codeIn K cd40 "_law_program" = true) (k40 : PySem.W.keepIn K (.ref f40) = true)
    {f41 : Addr} {od41 an41 : Option Addr} {sl41 : Array (Option Value)} {oc41 kV41 dc41 pm41 cd41 ct41 : Value} (a41 : PySem.W.nsIn K mainGlobals "_law_value" = some (some (.ref f41))) (l41 : K.lookup f41 = some ⟨oc41, od41, .func (PySem.W.fnOf "_law_value" "_law_value" (defArgs (top 41)) (defBody (top 41)) (defScope (top 41)) .none kV41 dc41 pm41 an41 cd41 ct41), sl41⟩) (c41 : PySem.W.codeIn K cd41 "_law_value" = true) (k41 : PySem.W.keepIn K (.ref f41) = true)
    {f42 : Addr} {od42 an42 : Option Addr} {sl42 : Array (Option Value)} {oc42 kV42 dc42 pm42 cd42 ct42 : Value} (a42 : PySem.W.nsIn K mainGlobals "_law_row" = some (some (.ref f42))) (l42 : K.lookup f42 = some ⟨oc42, od42, .func (PySem.W.fnOf "_law_row" "_law_row" (defArgs (top 42)) (defBody (top 42)) (defScope (top 42)) .none kV42 dc42 pm42 an42 cd42 ct42), sl42⟩) (c42 : PySem.W.codeIn K cd42 "_law_row" = true) (k42 : PySem.W.keepIn K (.ref f42) = true)
    {f43 : Addr} {od43 an43 : Option Addr} {sl43 : Array (Option Value)} {oc43 kV43 dc43 pm43 cd43 ct43 : Value} (a43 : PySem.W.nsIn K mainGlobals "_law_loop" = some (some (.ref f43))) (l43 : K.lookup f43 = some ⟨oc43, od43, .func (PySem.W.fnOf "_law_loop" "_law_loop" (defArgs (top 43)) (defBody (top 43)) (defScope (top 43)) .none kV43 dc43 pm43 an43 cd43 ct43), sl43⟩) (c43 : PySem.W.codeIn K cd43 "_law_loop" = true) (k43 : PySem.W.keepIn K (.ref f43) = true)
    {f44 : Addr} {od44 an44 : Option Addr} {sl44 : Array (Option Value)} {oc44 kV44 dc44 pm44 cd44 ct44 : Value} (a44 : PySem.W.nsIn K mainGlobals "_law_tried" = some (some (.ref f44))) (l44 : K.lookup f44 = some ⟨oc44, od44, .func (PySem.W.fnOf "_law_tried" "_law_tried" (defArgs (top 44)) (defBody (top 44)) (defScope (top 44)) .none kV44 dc44 pm44 an44 cd44 ct44), sl44⟩) (c44 : PySem.W.codeIn K cd44 "_law_tried" = true) (k44 : PySem.W.keepIn K (.ref f44) = true)
    {f45 : Addr} {od45 an45 : Option Addr} {sl45 : Array (Option Value)} {oc45 kV45 dc45 pm45 cd45 ct45 : Value} (a45 : PySem.W.nsIn K mainGlobals "_law_done" = some (some (.ref f45))) (l45 : K.lookup f45 = some ⟨oc45, od45, .func (PySem.W.fnOf "_law_done" "_law_done" (defArgs (top 45)) (defBody (top 45)) (defScope (top 45)) .none kV45 dc45 pm45 an45 cd45 ct45), sl45⟩) (c45 : PySem.W.codeIn K cd45 "_law_done" = true) (k45 : PySem.W.keepIn K (.ref f45) = true)
    {f46 : Addr} {od46 an46 : Option Addr} {sl46 : Array (Option Value)} {oc46 kV46 dc46 pm46 cd46 ct46 : Value} (a46 : PySem.W.nsIn K mainGlobals "_law_state" = some (some (.ref f46))) (l46 : K.lookup f46 = some ⟨oc46, od46, .func (PySem.W.fnOf "_law_state" "_law_state" (defArgs (top 46)) (defBody (top 46)) (defScope (top 46)) .none kV46 dc46 pm46 an46 cd46 ct46), sl46⟩) (c46 : PySem.W.codeIn K cd46 "_law_state" = true) (k46 : PySem.W.keepIn K (.ref f46) = true)
    {f47 : Addr} {od47 an47 : Option Addr} {sl47 : Array (Option Value)} {oc47 kV47 dc47 pm47 cd47 ct47 : Value} (a47 : PySem.W.nsIn K mainGlobals "_law_events" = some (some (.ref f47))) (l47 : K.lookup f47 = some ⟨oc47, od47, .func (PySem.W.fnOf "_law_events" "_law_events" (defArgs (top 47)) (defBody (top 47)) (defScope (top 47)) .none kV47 dc47 pm47 an47 cd47 ct47), sl47⟩) (c47 : PySem.W.codeIn K cd47 "_law_events" = true) (k47 : PySem.W.keepIn K (.ref f47) = true)
    {f48 : Addr} {od48 an48 : Option Addr} {sl48 : Array (Option Value)} {oc48 kV48 dc48 pm48 cd48 ct48 : Value} (a48 : PySem.W.nsIn K mainGlobals "_law_answers" = some (some (.ref f48))) (l48 : K.lookup f48 = some ⟨oc48, od48, .func (PySem.W.fnOf "_law_answers" "_law_answers" (defArgs (top 48)) (defBody (top 48)) (defScope (top 48)) .none kV48 dc48 pm48 an48 cd48 ct48), sl48⟩) (c48 : PySem.W.codeIn K cd48 "_law_answers" = true) (k48 : PySem.W.keepIn K (.ref f48) = true)
    {f49 : Addr} {od49 an49 : Option Addr} {sl49 : Array (Option Value)} {oc49 kV49 dc49 pm49 cd49 ct49 : Value} (a49 : PySem.W.nsIn K mainGlobals "_law_parts" = some (some (.ref f49))) (l49 : K.lookup f49 = some ⟨oc49, od49, .func (PySem.W.fnOf "_law_parts" "_law_parts" (defArgs (top 49)) (defBody (top 49)) (defScope (top 49)) .none kV49 dc49 pm49 an49 cd49 ct49), sl49⟩) (c49 : PySem.W.codeIn K cd49 "_law_parts" = true) (k49 : PySem.W.keepIn K (.ref f49) = true)
    {f50 : Addr} {od50 an50 : Option Addr} {sl50 : Array (Option Value)} {oc50 kV50 dc50 pm50 cd50 ct50 : Value} (a50 : PySem.W.nsIn K mainGlobals "_law_bodies" = some (some (.ref f50))) (l50 : K.lookup f50 = some ⟨oc50, od50, .func (PySem.W.fnOf "_law_bodies" "_law_bodies" (defArgs (top 50)) (defBody (top 50)) (defScope (top 50)) .none kV50 dc50 pm50 an50 cd50 ct50), sl50⟩) (c50 : PySem.W.codeIn K cd50 "_law_bodies" = true) (k50 : PySem.W.keepIn K (.ref f50) = true)
    {f51 : Addr} {od51 an51 : Option Addr} {sl51 : Array (Option Value)} {oc51 kV51 dc51 pm51 cd51 ct51 : Value} (a51 : PySem.W.nsIn K mainGlobals "_law_paths" = some (some (.ref f51))) (l51 : K.lookup f51 = some ⟨oc51, od51, .func (PySem.W.fnOf "_law_paths" "_law_paths" (defArgs (top 51)) (defBody (top 51)) (defScope (top 51)) .none kV51 dc51 pm51 an51 cd51 ct51), sl51⟩) (c51 : PySem.W.codeIn K cd51 "_law_paths" = true) (k51 : PySem.W.keepIn K (.ref f51) = true)
    {f52 : Addr} {od52 an52 : Option Addr} {sl52 : Array (Option Value)} {oc52 kV52 dc52 pm52 cd52 ct52 : Value} (a52 : PySem.W.nsIn K mainGlobals "_law_lets" = some (some (.ref f52))) (l52 : K.lookup f52 = some ⟨oc52, od52, .func (PySem.W.fnOf "_law_lets" "_law_lets" (defArgs (top 52)) (defBody (top 52)) (defScope (top 52)) .none kV52 dc52 pm52 an52 cd52 ct52), sl52⟩) (c52 : PySem.W.codeIn K cd52 "_law_lets" = true) (k52 : PySem.W.keepIn K (.ref f52) = true)
    {f53 : Addr} {od53 an53 : Option Addr} {sl53 : Array (Option Value)} {oc53 kV53 dc53 pm53 cd53 ct53 : Value} (a53 : PySem.W.nsIn K mainGlobals "law" = some (some (.ref f53))) (l53 : K.lookup f53 = some ⟨oc53, od53, .func (PySem.W.fnOf "law" "law" (defArgs (top 53)) (defBody (top 53)) (defScope (top 53)) .none kV53 dc53 pm53 an53 cd53 ct53), sl53⟩) (c53 : PySem.W.codeIn K cd53 "law" = true) (k53 : PySem.W.keepIn K (.ref f53) = true)
    {f20 : Addr} {od20 an20 : Option Addr} {sl20 : Array (Option Value)} {oc20 kV20 dc20 pm20 cd20 ct20 : Value} (a20 : PySem.W.nsIn K mainGlobals "walk" = some (some (.ref f20))) (l20 : K.lookup f20 = some ⟨oc20, od20, .func (PySem.W.fnOf "walk" "walk" (defArgs sWalk) (defBody sWalk) (defScope sWalk) .none kV20 dc20 pm20 an20 cd20 ct20), sl20⟩) (c20 : PySem.W.codeIn K cd20 "walk" = true) (k20 : PySem.W.keepIn K (.ref f20) = true)
    {f15_0 : Addr} {od15_0 an15_0 : Option Addr} {sl15_0 : Array (Option Value)} {oc15_0 kV15_0 dc15_0 pm15_0 cd15_0 ct15_0 : Value} (a15_0 : PySem.W.findIn K (.ref C15) "__init__" = some (some (.ref f15_0))) (i15_0 : PySem.W.isFn K (.ref f15_0) = true) (l15_0 : K.lookup f15_0 = some ⟨oc15_0, od15_0, .func (PySem.W.fnOf "__init__" "Resolver.__init__" (defArgs (inClass (top 15) 0)) (defBody (inClass (top 15) 0)) (defScope (inClass (top 15) 0)) .none kV15_0 dc15_0 pm15_0 an15_0 cd15_0 ct15_0), sl15_0⟩) (c15_0 : PySem.W.codeIn K cd15_0 "Resolver.__init__" = true) (k15_0 : PySem.W.keepIn K (.ref f15_0) = true)
    {f15_1 : Addr} {od15_1 an15_1 : Option Addr} {sl15_1 : Array (Option Value)} {oc15_1 kV15_1 dc15_1 pm15_1 cd15_1 ct15_1 : Value} (a15_1 : PySem.W.findIn K (.ref C15) "body" = some (some (.ref f15_1))) (i15_1 : PySem.W.isFn K (.ref f15_1) = true) (l15_1 : K.lookup f15_1 = some ⟨oc15_1, od15_1, .func (PySem.W.fnOf "body" "Resolver.body" (defArgs (inClass (top 15) 1)) (defBody (inClass (top 15) 1)) (defScope (inClass (top 15) 1)) .none kV15_1 dc15_1 pm15_1 an15_1 cd15_1 ct15_1), sl15_1⟩) (c15_1 : PySem.W.codeIn K cd15_1 "Resolver.body" = true) (k15_1 : PySem.W.keepIn K (.ref f15_1) = true)
    {f15_2 : Addr} {od15_2 an15_2 : Option Addr} {sl15_2 : Array (Option Value)} {oc15_2 kV15_2 dc15_2 pm15_2 cd15_2 ct15_2 : Value} (a15_2 : PySem.W.findIn K (.ref C15) "statement" = some (some (.ref f15_2))) (i15_2 : PySem.W.isFn K (.ref f15_2) = true) (l15_2 : K.lookup f15_2 = some ⟨oc15_2, od15_2, .func (PySem.W.fnOf "statement" "Resolver.statement" (defArgs (inClass (top 15) 2)) (defBody (inClass (top 15) 2)) (defScope (inClass (top 15) 2)) .none kV15_2 dc15_2 pm15_2 an15_2 cd15_2 ct15_2), sl15_2⟩) (c15_2 : PySem.W.codeIn K cd15_2 "Resolver.statement" = true) (k15_2 : PySem.W.keepIn K (.ref f15_2) = true)
    {f15_3 : Addr} {od15_3 an15_3 : Option Addr} {sl15_3 : Array (Option Value)} {oc15_3 kV15_3 dc15_3 pm15_3 cd15_3 ct15_3 : Value} (a15_3 : PySem.W.findIn K (.ref C15) "compound" = some (some (.ref f15_3))) (i15_3 : PySem.W.isFn K (.ref f15_3) = true) (l15_3 : K.lookup f15_3 = some ⟨oc15_3, od15_3, .func (PySem.W.fnOf "compound" "Resolver.compound" (defArgs (inClass (top 15) 3)) (defBody (inClass (top 15) 3)) (defScope (inClass (top 15) 3)) .none kV15_3 dc15_3 pm15_3 an15_3 cd15_3 ct15_3), sl15_3⟩) (c15_3 : PySem.W.codeIn K cd15_3 "Resolver.compound" = true) (k15_3 : PySem.W.keepIn K (.ref f15_3) = true)
    {f24_0 : Addr} {od24_0 an24_0 : Option Addr} {sl24_0 : Array (Option Value)} {oc24_0 kV24_0 dc24_0 pm24_0 cd24_0 ct24_0 : Value} (a24_0 : PySem.W.findIn K (.ref C24) "__init__" = some (some (.ref f24_0))) (i24_0 : PySem.W.isFn K (.ref f24_0) = true) (l24_0 : K.lookup f24_0 = some ⟨oc24_0, od24_0, .func (PySem.W.fnOf "__init__" "Player.__init__" (defArgs (inClass (top 24) 0)) (defBody (inClass (top 24) 0)) (defScope (inClass (top 24) 0)) .none kV24_0 dc24_0 pm24_0 an24_0 cd24_0 ct24_0), sl24_0⟩) (c24_0 : PySem.W.codeIn K cd24_0 "Player.__init__" = true) (k24_0 : PySem.W.keepIn K (.ref f24_0) = true)
    {f24_1 : Addr} {od24_1 an24_1 : Option Addr} {sl24_1 : Array (Option Value)} {oc24_1 kV24_1 dc24_1 pm24_1 cd24_1 ct24_1 : Value} (a24_1 : PySem.W.findIn K (.ref C24) "ask" = some (some (.ref f24_1))) (i24_1 : PySem.W.isFn K (.ref f24_1) = true) (l24_1 : K.lookup f24_1 = some ⟨oc24_1, od24_1, .func (PySem.W.fnOf "ask" "Player.ask" (defArgs (inClass (top 24) 1)) (defBody (inClass (top 24) 1)) (defScope (inClass (top 24) 1)) .none kV24_1 dc24_1 pm24_1 an24_1 cd24_1 ct24_1), sl24_1⟩) (c24_1 : PySem.W.codeIn K cd24_1 "Player.ask" = true) (k24_1 : PySem.W.keepIn K (.ref f24_1) = true)
    {f24_2 : Addr} {od24_2 an24_2 : Option Addr} {sl24_2 : Array (Option Value)} {oc24_2 kV24_2 dc24_2 pm24_2 cd24_2 ct24_2 : Value} (a24_2 : PySem.W.findIn K (.ref C24) "scope_of" = some (some (.ref f24_2))) (i24_2 : PySem.W.isFn K (.ref f24_2) = true) (l24_2 : K.lookup f24_2 = some ⟨oc24_2, od24_2, .func (PySem.W.fnOf "scope_of" "Player.scope_of" (defArgs (inClass (top 24) 2)) (defBody (inClass (top 24) 2)) (defScope (inClass (top 24) 2)) .none kV24_2 dc24_2 pm24_2 an24_2 cd24_2 ct24_2), sl24_2⟩) (c24_2 : PySem.W.codeIn K cd24_2 "Player.scope_of" = true) (k24_2 : PySem.W.keepIn K (.ref f24_2) = true)
    {f24_3 : Addr} {od24_3 an24_3 : Option Addr} {sl24_3 : Array (Option Value)} {oc24_3 kV24_3 dc24_3 pm24_3 cd24_3 ct24_3 : Value} (a24_3 : PySem.W.findIn K (.ref C24) "holds" = some (some (.ref f24_3))) (i24_3 : PySem.W.isFn K (.ref f24_3) = true) (l24_3 : K.lookup f24_3 = some ⟨oc24_3, od24_3, .func (PySem.W.fnOf "holds" "Player.holds" (defArgs (inClass (top 24) 3)) (defBody (inClass (top 24) 3)) (defScope (inClass (top 24) 3)) .none kV24_3 dc24_3 pm24_3 an24_3 cd24_3 ct24_3), sl24_3⟩) (c24_3 : PySem.W.codeIn K cd24_3 "Player.holds" = true) (k24_3 : PySem.W.keepIn K (.ref f24_3) = true)
    {f24_4 : Addr} {od24_4 an24_4 : Option Addr} {sl24_4 : Array (Option Value)} {oc24_4 kV24_4 dc24_4 pm24_4 cd24_4 ct24_4 : Value} (a24_4 : PySem.W.findIn K (.ref C24) "body" = some (some (.ref f24_4))) (i24_4 : PySem.W.isFn K (.ref f24_4) = true) (l24_4 : K.lookup f24_4 = some ⟨oc24_4, od24_4, .func (PySem.W.fnOf "body" "Player.body" (defArgs (inClass (top 24) 4)) (defBody (inClass (top 24) 4)) (defScope (inClass (top 24) 4)) .none kV24_4 dc24_4 pm24_4 an24_4 cd24_4 ct24_4), sl24_4⟩) (c24_4 : PySem.W.codeIn K cd24_4 "Player.body" = true) (k24_4 : PySem.W.keepIn K (.ref f24_4) = true)
    {f24_5 : Addr} {od24_5 an24_5 : Option Addr} {sl24_5 : Array (Option Value)} {oc24_5 kV24_5 dc24_5 pm24_5 cd24_5 ct24_5 : Value} (a24_5 : PySem.W.findIn K (.ref C24) "statement" = some (some (.ref f24_5))) (i24_5 : PySem.W.isFn K (.ref f24_5) = true) (l24_5 : K.lookup f24_5 = some ⟨oc24_5, od24_5, .func (PySem.W.fnOf "statement" "Player.statement" (defArgs (inClass (top 24) 5)) (defBody (inClass (top 24) 5)) (defScope (inClass (top 24) 5)) .none kV24_5 dc24_5 pm24_5 an24_5 cd24_5 ct24_5), sl24_5⟩) (c24_5 : PySem.W.codeIn K cd24_5 "Player.statement" = true) (k24_5 : PySem.W.keepIn K (.ref f24_5) = true)
    {f24_6 : Addr} {od24_6 an24_6 : Option Addr} {sl24_6 : Array (Option Value)} {oc24_6 kV24_6 dc24_6 pm24_6 cd24_6 ct24_6 : Value} (a24_6 : PySem.W.findIn K (.ref C24) "loop" = some (some (.ref f24_6))) (i24_6 : PySem.W.isFn K (.ref f24_6) = true) (l24_6 : K.lookup f24_6 = some ⟨oc24_6, od24_6, .func (PySem.W.fnOf "loop" "Player.loop" (defArgs (inClass (top 24) 6)) (defBody (inClass (top 24) 6)) (defScope (inClass (top 24) 6)) .none kV24_6 dc24_6 pm24_6 an24_6 cd24_6 ct24_6), sl24_6⟩) (c24_6 : PySem.W.codeIn K cd24_6 "Player.loop" = true) (k24_6 : PySem.W.keepIn K (.ref f24_6) = true)
    (g15 : PySem.W.nsIn K mainGlobals "Resolver" = some (some (.ref C15))) (pg15 : PySem.W.plainGet K C15 Str.empty = true) (hd15 : PySem.W.hasDictIn K C15 = true) (po15 : PySem.W.plainOver K C15 = true) (sa15 : PySem.W.findIn K (.ref C15) "__setattr__" = some (some (.builtin "object.__setattr__"))) (mk15 : PySem.W.makesIn K C15 = true) (kc15 : PySem.W.keepIn K (.ref C15) = true)
    (g24 : PySem.W.nsIn K mainGlobals "Player" = some (some (.ref C24))) (pg24 : PySem.W.plainGet K C24 Str.empty = true) (hd24 : PySem.W.hasDictIn K C24 = true) (po24 : PySem.W.plainOver K C24 = true) (sa24 : PySem.W.findIn K (.ref C24) "__setattr__" = some (some (.builtin "object.__setattr__"))) (mk24 : PySem.W.makesIn K C24 = true) (kc24 : PySem.W.keepIn K (.ref C24) = true)
    (n15count : PySem.W.findIn K (.ref C15) "count" = some none) (n24given : PySem.W.findIn K (.ref C24) "given" = some none) (n24rounds : PySem.W.findIn K (.ref C24) "rounds" = some none) (n24events : PySem.W.findIn K (.ref C24) "events" = some none) (n24scopes : PySem.W.findIn K (.ref C24) "scopes" = some none)
    (g23 : PySem.W.nsIn K mainGlobals "Stopped" = some (some (.ref C23))) (x23 : PySem.W.excIn K C23 [.type "ValueError", .type "Exception", .type "BaseException", .type "object"] "ValueError.__new__" = true) (k23 : PySem.W.keepIn K (.ref C23) = true) (b23 : PySem.W.subIn K (.ref C23) (.type "BaseException") = some true) (t23 : PySem.W.typeIn K (.ref C23) = some (.type "type")) (i23 : PySem.W.isClsIn K C23 = true) (s23 : PySem.W.subIn K (.ref C23) (.ref C23) = some true)
    (zlen : PySem.W.nsIn K mainGlobals "len" = some none) (zrange : PySem.W.nsIn K mainGlobals "range" = some none) (zreversed : PySem.W.nsIn K mainGlobals "reversed" = some none) (ztuple : PySem.W.nsIn K mainGlobals "tuple" = some none) (zlist : PySem.W.nsIn K mainGlobals "list" = some none) (zstr : PySem.W.nsIn K mainGlobals "str" = some none) (zint : PySem.W.nsIn K mainGlobals "int" = some none) (zabs : PySem.W.nsIn K mainGlobals "abs" = some none) (zmax : PySem.W.nsIn K mainGlobals "max" = some none) (zmin : PySem.W.nsIn K mainGlobals "min" = some none) (zrepr : PySem.W.nsIn K mainGlobals "repr" = some none) (zsum : PySem.W.nsIn K mainGlobals "sum" = some none) (zany : PySem.W.nsIn K mainGlobals "any" = some none) (zisinstance : PySem.W.nsIn K mainGlobals "isinstance" = some none)
    {oR : Obj} {nR : Nat} {tM : Tok} {uR : Array Value} (gR : PySem.W.nsIn K mainGlobals "ROUNDS" = some (some (.ref ra))) (lR : K.lookup ra = some oR) (gM : PySem.W.nsIn K mainGlobals "MOST_FLAGS" = some (some (.int 4 tM))) (rR : oR.cls = .type "tuple") (qR : oR.data = .seq uR nR) (sR : uR.size ≤ 100) (vR : Vals [.int 1, .int 2, .int 4, .int 8, .int 16] uR.toList) :
    ∃ fd : FuncData, (∀ (s : Shared) (v : Value), BindsTo s fd ⟨[v], []⟩ [("_law_script", v)]) ∧ ∀ base : Heap, K.In base → base.Ns mainGlobals mg → FnG l.prog w K mg base 148 fa fd ["_law_script"] (spLaw K) := by
  have e := hfa.symm.trans (PySem.W.mg_of X G a53)
  cases e
  have T : Tops K mg fa (PySem.W.fnOf "law" "law" (defArgs (top 53)) (defBody (top 53)) (defScope (top 53)) .none kV53 dc53 pm53 an53 cd53 ct53) :=
    { bn := ⟨PySem.W.mg_none_of X G zlen, PySem.W.mg_none_of X G zrange, PySem.W.mg_none_of X G zreversed, PySem.W.mg_none_of X G ztuple, PySem.W.mg_none_of X G zlist, PySem.W.mg_none_of X G zstr, PySem.W.mg_none_of X G zint, PySem.W.mg_none_of X G zabs, PySem.W.mg_none_of X G zmax, PySem.W.mg_none_of X G zmin, PySem.W.mg_none_of X G zrepr, PySem.W.mg_none_of X G zsum, PySem.W.mg_none_of X G zany, PySem.W.mg_none_of X G zisinstance⟩
      d8 := ⟨_, _, da_mk X G a8 l8 c8 k8 ar8⟩
      d11 := ⟨_, _, da_mk X G a11 l11 c11 k11 ar11⟩
      d12 := ⟨_, _, da_mk X G a12 l12 c12 k12 ar12⟩
      d13 := ⟨_, _, da_mk X G a13 l13 c13 k13 ar13⟩
      d14 := ⟨_, _, da_mk X G a14 l14 c14 k14 ar14⟩
      d16 := ⟨_, _, da_mk X G a16 l16 c16 k16 ar16⟩
      d17 := ⟨_, _, da_mk X G a17 l17 c17 k17 ar17⟩
      d18 := ⟨_, _, da_mk X G a18 l18 c18 k18 ar18⟩
      d25 := ⟨_, _, da_mk X G a25 l25 c25 k25 ar25⟩
      d26 := ⟨_, _, da_mk X G a26 l26 c26 k26 ar26⟩
      d27 := ⟨_, _, da_mk X G a27 l27 c27 k27 ar27⟩
      d29 := ⟨_, _, da_mk X G a29 l29 c29 k29 ar29⟩
      d30 := ⟨_, _, da_mk X G a30 l30 c30 k30 ar30⟩
      d31 := ⟨_, _, da_mk X G a31 l31 c31 k31 ar31⟩
      d32 := ⟨_, _, da_mk X G a32 l32 c32 k32 ar32⟩
      d33 := ⟨_, _, da_mk X G a33 l33 c33 k33 ar33⟩
      d34 := ⟨_, _, da_mk X G a34 l34 c34 k34 ar34⟩
      d35 := ⟨_, _, da_mk X G a35 l35 c35 k35 ar35⟩
      d36 := ⟨_, _, da_mk X G a36 l36 c36 k36 ar36⟩
      d37 := ⟨_, _, da_mk X G a37 l37 c37 k37 ar37⟩
      d38 := ⟨_, _, da_mk X G a38 l38 c38 k38 ar38⟩
      d39 := ⟨_, _, da_mk X G a39 l39 c39 k39 ar39⟩
      d40 := ⟨_, _, da_mk X G a40 l40 c40 k40 ar40⟩
      d41 := ⟨_, _, da_mk X G a41 l41 c41 k41 ar41⟩
      d42 := ⟨_, _, da_mk X G a42 l42 c42 k42 ar42⟩
      d43 := ⟨_, _, da_mk X G a43 l43 c43 k43 ar43⟩
      d44 := ⟨_, _, da_mk X G a44 l44 c44 k44 ar44⟩
      d45 := ⟨_, _, da_mk X G a45 l45 c45 k45 ar45⟩
      d46 := ⟨_, _, da_mk X G a46 l46 c46 k46 ar46⟩
      d47 := ⟨_, _, da_mk X G a47 l47 c47 k47 ar47⟩
      d48 := ⟨_, _, da_mk X G a48 l48 c48 k48 ar48⟩
      d49 := ⟨_, _, da_mk X G a49 l49 c49 k49 ar49⟩
      d50 := ⟨_, _, da_mk X G a50 l50 c50 k50 ar50⟩
      d51 := ⟨_, _, da_mk X G a51 l51 c51 k51 ar51⟩
      d52 := ⟨_, _, da_mk X G a52 l52 c52 k52 ar52⟩
      d53 := da_mk X G a53 l53 c53 k53 ar53
      d20 := ⟨_, _, _, ⟨⟨_, _, _, _, _, _, _, _, rfl, l20⟩, c20, k20, .all (ar20 _ _ _ _ _ _)⟩, PySem.W.mg_of X G a20⟩
      c15 := ⟨_, _, ⟨⟨pg15, hd15, po15, sa15⟩, n15count, PySem.W.mg_of X G g15, ⟨mk15, a15_0, i15_0, kc15⟩⟩, ⟨_, dm_mk a15_0 i15_0 l15_0 c15_0 k15_0 ar15_0⟩, ⟨_, _, dm_mk a15_1 i15_1 l15_1 c15_1 k15_1 ar15_1⟩, ⟨_, _, dm_mk a15_2 i15_2 l15_2 c15_2 k15_2 ar15_2⟩, ⟨_, _, dm_mk a15_3 i15_3 l15_3 c15_3 k15_3 ar15_3⟩⟩
      c24 := ⟨_, _, ⟨⟨pg24, hd24, po24, sa24⟩, n24given, n24rounds, n24events, n24scopes, PySem.W.mg_of X G g24, ⟨mk24, a24_0, i24_0, kc24⟩⟩, ⟨_, dm_mk a24_0 i24_0 l24_0 c24_0 k24_0 ar24_0⟩, ⟨_, _, dm_mk a24_1 i24_1 l24_1 c24_1 k24_1 ar24_1⟩, ⟨_, _, dm_mk a24_2 i24_2 l24_2 c24_2 k24_2 ar24_2⟩, ⟨_, _, dm_mk a24_3 i24_3 l24_3 c24_3 k24_3 ar24_3⟩, ⟨_, _, dm_mk a24_4 i24_4 l24_4 c24_4 k24_4 ar24_4⟩, ⟨_, _, dm_mk a24_5 i24_5 l24_5 c24_5 k24_5 ar24_5⟩, ⟨_, _, dm_mk a24_6 i24_6 l24_6 c24_6 k24_6 ar24_6⟩⟩
      c23 := ⟨_, ⟨PySem.W.mg_of X G g23, x23, k23, b23, t23, i23, s23⟩⟩
      ro := ⟨_, PySem.W.mg_of X G gR, fun H => .inr ⟨oR, uR, nR, lR, rR, qR, small3 (by omega), vR⟩⟩
      mo := ⟨_, PySem.W.mg_of X G gM⟩ }
  exact ⟨_, fun s v => .of_eq (ar53 _ _ _ _ _ _ [v] rfl), fun base _ _ => law_of T base⟩
end K23
open PySem PySem.W PyProof.Rows
set_option maxRecDepth 100000 in
set_option maxHeartbeats 0 in
theorem PySem.Challenge.cw_flowform_k23_whole_one_after_another_holds : PySem.Challenge.rw_flowform_k23_whole_one_after_another.Holds := by
  w_on; o_law; k_head; (case hw => w_witness2)
  k_fill
  refine K23.walk_ofG (l := PySem.Challenge.rw_flowform_k23_whole_one_after_another) (n := 63) (k := 148) (x := "_law_script") (sp := K23.spLaw) rfl (by decide) rfl ⟨rfl, by decide, by decide⟩ (fun w h Y => PySem.W.kIn_of Y) ?F (fun _ _ a ns hl hS => ⟨a, ns, rfl, hS, hl, fun _ _ => rfl⟩)
  case F =>
    intro w mg fa h KX G hmg
    refine' K23.all_mk KX G hmg ?a8 ?l8 ?c8 ?k8 ?a11 ?l11 ?c11 ?k11 ?a12 ?l12 ?c12 ?k12 ?a13 ?l13 ?c13 ?k13 ?a14 ?l14 ?c14 ?k14 ?a16 ?l16 ?c16 ?k16 ?a17 ?l17 ?c17 ?k17 ?a18 ?l18 ?c18 ?k18 ?a25 ?l25 ?c25 ?k25 ?a26 ?l26 ?c26 ?k26 ?a27 ?l27 ?c27 ?k27 ?a29 ?l29 ?c29 ?k29 ?a30 ?l30 ?c30 ?k30 ?a31 ?l31 ?c31 ?k31 ?a32 ?l32 ?c32 ?k32 ?a33 ?l33 ?c33 ?k33 ?a34 ?l34 ?c34 ?k34 ?a35 ?l35 ?c35 ?k35 ?a36 ?l36 ?c36 ?k36 ?a37 ?l37 ?c37 ?k37 ?a38 ?l38 ?c38 ?k38 ?a39 ?l39 ?c39 ?k39 ?a40 ?l40 ?c40 ?k40 ?a41 ?l41 ?c41 ?k41 ?a42 ?l42 ?c42 ?k42 ?a43 ?l43 ?c43 ?k43 ?a44 ?l44 ?c44 ?k44 ?a45 ?l45 ?c45 ?k45 ?a46 ?l46 ?c46 ?k46 ?a47 ?l47 ?c47 ?k47 ?a48 ?l48 ?c48 ?k48 ?a49 ?l49 ?c49 ?k49 ?a50 ?l50 ?c50 ?k50 ?a51 ?l51 ?c51 ?k51 ?a52 ?l52 ?c52 ?k52 ?a53 ?l53 ?c53 ?k53 ?a20 ?l20 ?c20 ?k20 ?a15_0 ?i15_0 ?l15_0 ?c15_0 ?k15_0 ?a15_1 ?i15_1 ?l15_1 ?c15_1 ?k15_1 ?a15_2 ?i15_2 ?l15_2 ?c15_2 ?k15_2 ?a15_3 ?i15_3 ?l15_3 ?c15_3 ?k15_3 ?a24_0 ?i24_0 ?l24_0 ?c24_0 ?k24_0 ?a24_1 ?i24_1 ?l24_1 ?c24_1 ?k24_1 ?a24_2 ?i24_2 ?l24_2 ?c24_2 ?k24_2 ?a24_3 ?i24_3 ?l24_3 ?c24_3 ?k24_3 ?a24_4 ?i24_4 ?l24_4 ?c24_4 ?k24_4 ?a24_5 ?i24_5 ?l24_5 ?c24_5 ?k24_5 ?a24_6 ?i24_6 ?l24_6 ?c24_6 ?k24_6 ?g15 ?pg15 ?hd15 ?po15 ?sa15 ?mk15 ?kc15 ?g24 ?pg24 ?hd24 ?po24 ?sa24 ?mk24 ?kc24 ?n15count ?n24given ?n24rounds ?n24events ?n24scopes ?g23 ?x23 ?k23 ?b23 ?t23 ?i23 ?s23 ?zlen ?zrange ?zreversed ?ztuple ?zlist ?zstr ?zint ?zabs ?zmax ?zmin ?zrepr ?zsum ?zany ?zisinstance ?gR ?lR ?gM ?rR ?qR ?sR ?vR
    (case g15 => k_is)
    (case g24 => k_is)
    (case g23 => k_is)
    (case gR => k_is)
    (case a8 => k_is)
    (case l8 => k_is)
    (case c8 => k_is)
    (case k8 => k_is)
    (case a11 => k_is)
    (case l11 => k_is)
    (case c11 => k_is)
    (case k11 => k_is)
    (case a12 => k_is)
    (case l12 => k_is)
    (case c12 => k_is)
    (case k12 => k_is)
    (case a13 => k_is)
    (case l13 => k_is)
    (case c13 => k_is)
    (case k13 => k_is)
    (case a14 => k_is)
    (case l14 => k_is)
    (case c14 => k_is)
    (case k14 => k_is)
    (case a16 => k_is)
    (case l16 => k_is)
    (case c16 => k_is)
    (case k16 => k_is)
    (case a17 => k_is)
    (case l17 => k_is)
    (case c17 => k_is)
    (case k17 => k_is)
    (case a18 => k_is)
    (case l18 => k_is)
    (case c18 => k_is)
    (case k18 => k_is)
    (case a25 => k_is)
    (case l25 => k_is)
    (case c25 => k_is)
    (case k25 => k_is)
    (case a26 => k_is)
    (case l26 => k_is)
    (case c26 => k_is)
    (case k26 => k_is)
    (case a27 => k_is)
    (case l27 => k_is)
    (case c27 => k_is)
    (case k27 => k_is)
    (case a29 => k_is)
    (case l29 => k_is)
    (case c29 => k_is)
    (case k29 => k_is)
    (case a30 => k_is)
    (case l30 => k_is)
    (case c30 => k_is)
    (case k30 => k_is)
    (case a31 => k_is)
    (case l31 => k_is)
    (case c31 => k_is)
    (case k31 => k_is)
    (case a32 => k_is)
    (case l32 => k_is)
    (case c32 => k_is)
    (case k32 => k_is)
    (case a33 => k_is)
    (case l33 => k_is)
    (case c33 => k_is)
    (case k33 => k_is)
    (case a34 => k_is)
    (case l34 => k_is)
    (case c34 => k_is)
    (case k34 => k_is)
    (case a35 => k_is)
    (case l35 => k_is)
    (case c35 => k_is)
    (case k35 => k_is)
    (case a36 => k_is)
    (case l36 => k_is)
    (case c36 => k_is)
    (case k36 => k_is)
    (case a37 => k_is)
    (case l37 => k_is)
    (case c37 => k_is)
    (case k37 => k_is)
    (case a38 => k_is)
    (case l38 => k_is)
    (case c38 => k_is)
    (case k38 => k_is)
    (case a39 => k_is)
    (case l39 => k_is)
    (case c39 => k_is)
    (case k39 => k_is)
    (case a40 => k_is)
    (case l40 => k_is)
    (case c40 => k_is)
    (case k40 => k_is)
    (case a41 => k_is)
    (case l41 => k_is)
    (case c41 => k_is)
    (case k41 => k_is)
    (case a42 => k_is)
    (case l42 => k_is)
    (case c42 => k_is)
    (case k42 => k_is)
    (case a43 => k_is)
    (case l43 => k_is)
    (case c43 => k_is)
    (case k43 => k_is)
    (case a44 => k_is)
    (case l44 => k_is)
    (case c44 => k_is)
    (case k44 => k_is)
    (case a45 => k_is)
    (case l45 => k_is)
    (case c45 => k_is)
    (case k45 => k_is)
    (case a46 => k_is)
    (case l46 => k_is)
    (case c46 => k_is)
    (case k46 => k_is)
    (case a47 => k_is)
    (case l47 => k_is)
    (case c47 => k_is)
    (case k47 => k_is)
    (case a48 => k_is)
    (case l48 => k_is)
    (case c48 => k_is)
    (case k48 => k_is)
    (case a49 => k_is)
    (case l49 => k_is)
    (case c49 => k_is)
    (case k49 => k_is)
    (case a50 => k_is)
    (case l50 => k_is)
    (case c50 => k_is)
    (case k50 => k_is)
    (case a51 => k_is)
    (case l51 => k_is)
    (case c51 => k_is)
    (case k51 => k_is)
    (case a52 => k_is)
    (case l52 => k_is)
    (case c52 => k_is)
    (case k52 => k_is)
    (case a53 => k_is)
    (case l53 => k_is)
    (case c53 => k_is)
    (case k53 => k_is)
    (case a20 => k_is)
    (case l20 => k_is)
    (case c20 => k_is)
    (case k20 => k_is)
    (case a15_0 => k_is)
    (case i15_0 => k_is)
    (case l15_0 => k_is)
    (case c15_0 => k_is)
    (case k15_0 => k_is)
    (case a15_1 => k_is)
    (case i15_1 => k_is)
    (case l15_1 => k_is)
    (case c15_1 => k_is)
    (case k15_1 => k_is)
    (case a15_2 => k_is)
    (case i15_2 => k_is)
    (case l15_2 => k_is)
    (case c15_2 => k_is)
    (case k15_2 => k_is)
    (case a15_3 => k_is)
    (case i15_3 => k_is)
    (case l15_3 => k_is)
    (case c15_3 => k_is)
    (case k15_3 => k_is)
    (case a24_0 => k_is)
    (case i24_0 => k_is)
    (case l24_0 => k_is)
    (case c24_0 => k_is)
    (case k24_0 => k_is)
    (case a24_1 => k_is)
    (case i24_1 => k_is)
    (case l24_1 => k_is)
    (case c24_1 => k_is)
    (case k24_1 => k_is)
    (case a24_2 => k_is)
    (case i24_2 => k_is)
    (case l24_2 => k_is)
    (case c24_2 => k_is)
    (case k24_2 => k_is)
    (case a24_3 => k_is)
    (case i24_3 => k_is)
    (case l24_3 => k_is)
    (case c24_3 => k_is)
    (case k24_3 => k_is)
    (case a24_4 => k_is)
    (case i24_4 => k_is)
    (case l24_4 => k_is)
    (case c24_4 => k_is)
    (case k24_4 => k_is)
    (case a24_5 => k_is)
    (case i24_5 => k_is)
    (case l24_5 => k_is)
    (case c24_5 => k_is)
    (case k24_5 => k_is)
    (case a24_6 => k_is)
    (case i24_6 => k_is)
    (case l24_6 => k_is)
    (case c24_6 => k_is)
    (case k24_6 => k_is)
    (case pg15 => k_is)
    (case hd15 => k_is)
    (case po15 => k_is)
    (case sa15 => k_is)
    (case mk15 => k_is)
    (case kc15 => k_is)
    (case pg24 => k_is)
    (case hd24 => k_is)
    (case po24 => k_is)
    (case sa24 => k_is)
    (case mk24 => k_is)
    (case kc24 => k_is)
    (case n15count => k_is)
    (case n24given => k_is)
    (case n24rounds => k_is)
    (case n24events => k_is)
    (case n24scopes => k_is)
    (case x23 => k_exc)
    (case k23 => k_is)
    (case b23 => k_is)
    (case t23 => k_is)
    (case i23 => k_is)
    (case s23 => first | rfl | k_is)
    (case zlen => k_is)
    (case zrange => k_is)
    (case zreversed => k_is)
    (case ztuple => k_is)
    (case zlist => k_is)
    (case zstr => k_is)
    (case zint => k_is)
    (case zabs => k_is)
    (case zmax => k_is)
    (case zmin => k_is)
    (case zrepr => k_is)
    (case zsum => k_is)
    (case zany => k_is)
    (case zisinstance => k_is)
    (case lR => k_is)
    (case gM => k_is)
    (case rR => rfl)
    (case qR => rfl)
    (case sR => decide)
    (case vR => exact .cons ⟨_, rfl⟩ (.cons ⟨_, rfl⟩ (.cons ⟨_, rfl⟩ (.cons ⟨_, rfl⟩ (.cons ⟨_, rfl⟩ .nil)))))
