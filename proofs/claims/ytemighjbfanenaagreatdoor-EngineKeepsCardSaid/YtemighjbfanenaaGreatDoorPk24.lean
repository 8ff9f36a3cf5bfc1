import Derived.Test.YtemighjbfanenaaGreatDoorPk4
import Derived.ArgAppend
import Derived.OwnWalk
set_option linter.all false
set_option maxRecDepth 100000
set_option maxHeartbeats 16000000
namespace Go.Proofs.YtemighjbfanenaaGreatDoor
open RowKit
open List renaming getElem?_take→iY,getElem?_append_left→mI
open Nat renaming lt_or_ge→fO
open RowKit.Below renaming heap_setCell→cH
open _root_.Array renaming getElem?_toList→eG,getElem?_eq_getElem→ja,length_toList→Hg,size_setIfInBounds→qK,getElem?_setIfInBounds→mJ
theorem Wt{p:Prop}(h:p:=by
 obtain⟨cur,h1,h2,h3⟩:=h;exact⟨⟨cur[j]' ag,(h1.cell j).trans (ja (show j<cur.size from ag))⟩,h1.mark j⟩):p:=h
section
namespace Fl
structure zk(T TL:TypeId)(El:World→Nat→Nat→Value→Prop): Prop where
 one: ∀ {w q i u},El w q i u→u.oneCell'=true
 keep: ∀ {w w' q i u},El w q i u→Below w.heap.size w w'→El w' q i u
 grown: ∀ {w w' q i u gg t cs},El w q i u→aD w gg t cs→(t=T∨t=TL)→w.grownBy w' (some gg)→El w' q i u
section
variable {T TL:TypeId}{El:World→Nat→Nat→Value→Prop}
def Ks(El:World→Nat→Nat→Value→Prop)(w w':World): Prop:=∀ q i u,El w q i u→El w' q i u
variable{w w' wi:World}{gg g cap q n j m c k top nk mb:Nat}{cs:Array Value}{AD:Nat→Option Addr}{N C:Nat→Nat}
theorem zk.ai(h:zk T TL El)(hb:Below w.heap.size w w'): Ks El w w':=fun _ _ _ hu=>h.keep hu hb
theorem zk.at(h:zk T TL El){t:TypeId}(ha:aD w gg t cs)(ht:t=T∨t=TL)(hg:w.grownBy w' (some gg)): Ks El w w':=fun _ _ _ hu=>h.grown hu ha ht hg
def agN(El:World→Nat→Nat→Value→Prop)(w:World)(q n:Nat)(cur:Array Value): Prop:=∀ i,i<n→∃ u,cur[i]? =some u∧El w q i u
def eC(T:TypeId)(El:World→Nat→Nat→Value→Prop)(w:World)(g cap q n:Nat): Prop:=∃ cur,aD w g T cur∧cur.size=cap∧agN El w q n cur
theorem eC.lt(h:eC T El w g cap q n): g<w.heap.size:=by obtain⟨cur,h1,_⟩:=h;exact h1.lt
theorem eC.same(h:eC T El w g cap q n)(hk:Ks El w w')(e:w'.heap[g]? =w.heap[g]?): eC T El w' g cap q n:=by
 obtain⟨cur,h1,h2,h3⟩:=h;exact⟨cur,e.trans h1,h2,fun i hi=>by obtain⟨u,a,b⟩:=h3 i hi;exact⟨u,a,hk _ _ _ b⟩⟩
theorem eC.keep(hE:zk T TL El)(h:eC T El w g cap q n)(hb:Below w.heap.size w w'): eC T El w' g cap q n:=h.same (hE.ai hb) (hb.block g h.lt)
theorem eC.less{n':Nat} (h:eC T El w g cap q n)(hn:n'≤n): eC T El w g cap q n':=by
 obtain⟨cur,h1,h2,h3⟩:=h;exact⟨cur,h1,h2,fun i hi=>h3 i ag⟩
theorem eC.cell(h:eC T El w g cap q n){i:Nat}(hi:i<n): ∃ u,w.cell? ⟨g,i,none⟩=some u∧El w q i u:=by
 obtain⟨cur,h1,h2,h3⟩:=h;obtain⟨u,a,b⟩:=h3 i hi;exact⟨u,(h1.cell i).trans a,b⟩
theorem eC.there(h:eC T El w g cap q n)(hj:j<cap): (∃ u,w.cell? ⟨g,j,none⟩=some u)∧w.frozen? ⟨g,j,none⟩=false:=by
 exact Wt
theorem eC.a8(hE:zk T TL El){o:Nat} (h:eC T El w g cap q n)(news:List Value)(ho:n≤o)(hl:o+news.length≤cap): eC T El (w.setCells g o news) g cap q n∧w.grownBy (w.setCells g o news) (some g):=by
 obtain⟨cur,h1,h2,h3⟩:=h;obtain⟨cs',a,b,_,d⟩:=fp g T news o w cur h1 ag;have hg:=(bL g news o w).1;refine⟨⟨cs',a,ag,fun i hi=>?_⟩,hg⟩;obtain⟨u,e1,e2⟩:=h3 i hi;exact⟨u,(d _ (.inl ag)).trans e1,hE.grown e2 h1 (.inl rfl) hg⟩
theorem mU(w:World)(g o:Nat)(u:Value): w.setCells g o [u]=w.setCell ⟨g,o,none⟩ u:=rfl
theorem eC.put(hE:zk T TL El){i:Nat} {u:Value}(h:eC T El w g cap q i)(hu:El w q i u)(hi:i<cap): eC T El (w.setCell ⟨g,i,none⟩ u) g cap q (i+1):=by
 obtain⟨cur,h1,h2,h3⟩:=h;have hg:=(bL g [u] i w).1;rw[mU] at hg;refine⟨cur.setIfInBounds i u,h1.put i u,by rw[qK];exact h2,fun j hj=>?_⟩;rcases fO j i with hji|hji
 ·obtain⟨u',e1,e2⟩:=h3 j hji;exact⟨u',by rw[mJ,if_neg ag];exact e1,hE.grown e2 h1 (.inl rfl) hg⟩
 obtain rfl:j=i:=ag;exact⟨u,by rw[mJ,if_pos rfl,if_pos ag],hE.grown hu h1 (.inl rfl) hg⟩
theorem eC.olds(h:eC T El w g cap q n)(hn:n≤cap): ∃ olds:List Value,olds.length=n*1∧(∀ j u,olds[j]? =some u→w.cell? ⟨g,0+j,none⟩=some u)∧(∀ i,i<n→∃ u,olds[i]? =some u∧El w q i u):=by
 obtain⟨cur,h1,h2,h3⟩:=h;refine⟨cur.toList.take n,by rw[List.length_take,Hg];omega,fun j u hu=>?_,fun i hi=>?_⟩
 ·rw[iY] at hu;by_cases hj:j<n
  ·rw[if_pos hj] at hu;rw[Nat.zero_add];refine(h1.cell j).trans ?_;rw[←hu,eG]
  rw[if_neg hj] at hu;cases hu
 obtain⟨u,e1,e2⟩:=h3 i hi;exact⟨u,by rw[iY,if_pos hi,eG];exact e1,e2⟩
theorem eC.ahK{base:Nat} {v:Value}{olds news:List Value}(hk:Ks El w w')(h:w'.ownsRow base T 1 v (n+m) (olds++news))(hm:0<m)(hl:olds.length=n*1)(ho: ∀ i,i<n→∃ u,olds[i]? =some u∧El w q i u):
  ∃ g c,v= .slice (some ⟨g,0,none⟩) (n+m) c∧eC T El w' g c q n∧n+m≤c∧base≤g:=by
 rcases h.2 with⟨_,h0⟩|⟨g,cap,cur,hv,hb,hh,RL,hcm,hcs,ht⟩
 ·omega
 ·refine⟨g,cap,hv,⟨cur,hh,ag,fun i hi=>?_⟩,RL,hb⟩;have hx: ∀ j,j<n+m→cur[j]? =(olds++news)[j]?:=fun j hj=>by rw[←ht,iY,if_pos ag,eG]
  obtain⟨u,e1,e2⟩:=ho i hi;exact⟨u,by rw[hx _ ag,mI ag];exact e1,hk _ _ _ e2⟩
theorem eC.afl{base:Nat} {v x:Value}{olds:List Value}(hk:Ks El w w')(h:w'.ownsRow base T 1 v (n+1) (olds++ [x]))(hl:olds.length=n*1)(ho: ∀ i,i<n→∃ u,olds[i]? =some u∧El w q i u)(hx0:El w q n x):
  ∃ g c,v= .slice (some ⟨g,0,none⟩) (n+1) c∧eC T El w' g c q (n+1)∧n+1≤c∧base≤g:=by
 rcases h.2 with⟨_,h0⟩|⟨g,cap,cur,hv,hb,hh,RL,hcm,hcs,ht⟩
 ·omega
 ·refine⟨g,cap,hv,⟨cur,hh,ag,fun i hi=>?_⟩,RL,hb⟩;have hx: ∀ j,j<n+1→cur[j]? =(olds++ [x])[j]?:=fun j hj=>by rw[←ht,iY,if_pos ag,eG]
  rcases fO i n with h1|h1
  ·obtain⟨u,e1,e2⟩:=ho i h1;exact⟨u,by rw[hx _ ag,mI ag];exact e1,hk _ _ _ e2⟩
  obtain rfl:i=n:=ag;exact⟨x,by rw[hx _ ag,List.getElem?_append_right ag,hl,show i - i*1=0 from ag];rfl,hk _ _ _ hx0⟩
abbrev At(AD:Nat→Option Addr)(q g:Nat): Prop:=AD q=some ⟨g,0,none⟩
theorem At.eq{g2:Nat} (h:At AD q g)(h2:At AD q g2): g=g2:=by
 unfold At at h h2;rw[h] at h2;injection h2 with h2
 injection h2
def Hdr(w:World)(hd m:Nat)(AH:Nat→Option Addr)(N C:Nat→Nat): Prop:=∀ q,q<m→w.cell? ⟨hd,q,none⟩=some (.slice (AH q) (N q) (C q))
def Pv(AD:Nat→Option Addr)(m k:Nat): Prop:=∃ q,q<m∧At AD q k
theorem Hdr.cG{hd m':Nat} {AH:Nat→Option Addr} (h:Hdr w hd m AH N C)(ht:aG (Pv AD m') w w')(hl:hd<w.heap.size)(hS: ¬Pv AD m' hd): Hdr w' hd m AH N C:=fun q hq=>
 (World.cell?_of_block (a:=⟨hd,q,none⟩) (ht.block hd hl hS)).trans (h q hq)
structure Ce(T:TypeId)(El:World→Nat→Nat→Value→Prop)(w:World)(hd m:Nat)(AD AH:Nat→Option Addr)(N C:Nat→Nat): Prop where
 hdr:Hdr w hd m AH N C
 form: ∀ q,q<m→(AD q=none∧N q=0∧C q=0)∨∃ g,At AD q g∧At AH q g∧eC T El w g (C q) q 0
 ne: ∀ p q g,p<m→q<m→At AD p g→At AD q g→p=q
 apart: ¬Pv AD m hd
 lt:hd<w.heap.size
 X1:m≤600000
 small: ∀ q,q<m→N q≤C q∧N q≤600000
def Mrk(T:TypeId)(El:World→Nat→Nat→Value→Prop)(w:World)(m:Nat)(AD:Nat→Option Addr)(N C:Nat→Nat): Prop:=∀ q,q<m→∀ g,At AD q g→eC T El w g (C q) q (N q)
theorem Mrk.keep(hE:zk T TL El)(h:Mrk T El w m AD N C)(hb:Below w.heap.size w w'): Mrk T El w' m AD N C:=fun q hq g hg=>(h q hq g hg).keep hE hb
theorem Mrk.mQ(h:Mrk T El w m AD N C)(hk:Ks El w w')(hg:w.grownBy w' (some gg))(hne: ∀ p q g,p<m→q<m→At AD p g→At AD q g→p=q)(hj:j<m)(hat:(At AD j gg∧eC T El w' gg (C j) j (N j))∨∀ q g,q<m→At AD q g→g≠gg): Mrk T El w' m AD N C:=fun q hq g Dn=>by
 by_cases e:g=gg
 ·subst e;rcases hat with⟨h1,h2⟩|h1
  ·obtain rfl:=hne q j g hq hj Dn h1;exact h2
  exact absurd rfl (h1 q g hq Dn)
 exact(h q hq g Dn).same hk (hg.block g (h q hq g Dn).lt (fun e'=>e (by injection e')))
theorem uN(h:w.grownBy w' none): Below w.heap.size w w':=Below.grown (Below.refl _ _) h (Nat.le_refl _) dA
def ab5(T:TypeId)(El:World→Nat→Nat→Value→Prop)(w:World)(AD:Nat→Option Addr)(lo hi q n:Nat)(v:Value): Prop:=∃ ao c,v= .slice ao n c∧n≤c∧((n=0∧c=0)∨∃ g,ao=some ⟨g,0,none⟩∧eC T El w g c q n∧(At AD q g∨lo≤g)∧g<hi)
theorem ab5.olds{lo hi:Nat} {ao:Option Addr}(hn:n≤c)(h:(n=0∧c=0)∨∃ g,ao=some ⟨g,0,none⟩∧eC T El w g c q n∧(At AD q g∨lo≤g)∧g<hi):
  ∃ olds:List Value,olds.length=n*1∧(ao=none→n=0∧c=0)∧(∀ b,ao=some b→∀ j u,olds[j]? =some u→w.cell? (b.add j)=some u)∧(∀ i,i<n→∃ u,olds[i]? =some u∧El w q i u):=by
 rcases h with⟨h2,h3⟩|⟨g,h1,h2,_⟩
 ·subst h2;exact⟨[],rfl,fun _=>⟨rfl,h3⟩,(fun b hb j u hu=>by simp at hu),fun i hi=>absurd hi ag⟩
 ·obtain⟨olds,o1,o2,o3⟩:=h2.olds hn;refine⟨olds,o1,(fun e=>by rw[h1] at e;cases e),fun b hb j u hu=>?_,o3⟩;rw[h1] at hb;injection hb with hb
  subst hb;rw[gU];have:=o2 j u hu
  rwa [Nat.zero_add] at this
def Inv(T TL:TypeId)(El:World→Nat→Nat→Value→Prop)(k:Nat)(AD:Nat→Option Addr)(N C:Nat→Nat)(w:World)(top nk:Nat)(cs:Array Value)(j ext:Nat)(wi:World): Prop:=
 aD wi nk TL cs∧(∀ q,q<j→∃ g c,cs[q]? =some (.slice (some ⟨g,0,none⟩) (N q+64) c)∧eC T El wi g c q (N q+ext)∧(At AD q g∨nk+1≤g)∧g<top)∧Mrk T El wi k AD N C∧aG (Pv AD k) w wi∧top≤wi.heap.size
theorem Inv.ai(hE:zk T TL El){ext:Nat} (h:Inv T TL El k AD N C w top nk cs j ext wi)(hb:Below wi.heap.size wi w'): Inv T TL El k AD N C w top nk cs j ext w':=by
 obtain⟨a,b,c,d,e⟩:=h;refine⟨a.keep hb,fun q hq=>?_,c.keep hE hb,d.ai hb,Nat.le_trans e hb.size⟩;obtain⟨g,cc,h1,h2,h3⟩:=b q hq;exact⟨g,cc,h1,h2.keep hE hb,h3⟩
theorem Inv.mQ{ext:Nat} (h:Inv T TL El k AD N C w top nk cs j ext wi)(hk:Ks El wi w')(hg:wi.grownBy w' (some gg))(hG: ∀ q g,q<k→At AD q g→g<nk)(hne: ∀ p q g,p<k→q<k→At AD p g→At AD q g→p=q)(hj:j<k)(hgt:nk<top)(hw:w.heap.size≤top)(hat:(At AD j gg∧eC T El w' gg (C j) j (N j))∨top≤gg): Inv T TL El k AD N C w top nk cs j ext w':=by
 obtain⟨a,b,c,d,e⟩:=h;have aiv: ∀ g,g<wi.heap.size→g≠gg→w'.heap[g]? =wi.heap[g]?:=fun g h1 h2=>hg.block g h1 (fun e=>h2 rL)
 have Xp:nk≠gg:=by
  rcases hat with⟨h1,_⟩|hat
  ·have:=hG j gg hj h1;omega
  omega
 refine⟨(aiv nk a.lt Xp).trans a,fun q hq=>?_,c.mQ hk hg hne hj ?_,d.grown hg (fun x hx=>?_),Nat.le_trans e hg.size⟩
 ·obtain⟨g,cc,h1,h2,h3,h4⟩:=b q hq;refine⟨g,cc,h1,h2.same hk (aiv g h2.lt ?_),h3,h4⟩;rcases hat with⟨h5,_⟩|hat
  ·rcases h3 with h3|h3
   ·intro e2;subst e2;have:=hne q j g ag hj h3 h5;omega
   have:=hG j gg hj h5;omega
  omega
 ·rcases hat with hat|hat
  ·exact .inl hat
  exact .inr (fun q g hq Gd=>by have:=hG q g hq Gd;omega)
 injection hx with hx
 subst hx;rcases hat with⟨h5,_⟩|hat
 ·exact .inl ⟨j,hj,h5⟩
 exact .inr ag
theorem Inv.next(hE:zk T TL El){ext:Nat} (h:Inv T TL El k AD N C w top nk cs j ext wi)(hb:eC T El wi g c j (N j+ext))(hat:At AD j g∨top≤g)(hj:j<k)(hsz:cs.size=k)(hG: ∀ q g,q<k→At AD q g→g<nk)(hgt:nk<top)(hw:w.heap.size≤nk):
  Inv T TL El k AD N C w (wi.setCell ⟨nk,j,none⟩ (.slice (some ⟨g,0,none⟩) (N j+64) c)).heap.size nk (cs.setIfInBounds j (.slice (some ⟨g,0,none⟩) (N j+64) c)) (j+1) ext (wi.setCell ⟨nk,j,none⟩ (.slice (some ⟨g,0,none⟩) (N j+64) c)):=by
 obtain⟨a,b,d,e,f⟩:=h;have hs:(wi.setCell ⟨nk,j,none⟩ (.slice (some ⟨g,0,none⟩) (N j+64) c)).heap.size=wi.heap.size:=World.size_setCell _ _ _;have hk:Ks El wi (wi.setCell ⟨nk,j,none⟩ (.slice (some ⟨g,0,none⟩) (N j+64) c)):=hE.at a (.inr rfl) (by rw[←mU];exact(bL nk _ j wi).1);refine⟨a.put j _,fun q hq=>?_,fun q hq g2 hg2=>(d q hq g2 hg2).same hk (cH _ _ _ _ (by have:=hG q g2 hq hg2;simp only;omega)),e.put (.inr hw) _,Nat.le_refl _⟩;rcases fO q j with h1|h1
 ·obtain⟨g2,c2,h2,h3,h4,h5⟩:=b q h1;refine⟨g2,c2,by rw[mJ,if_neg ag];exact h2,h3.same hk (cH _ _ _ _ ?_),h4,ag⟩;simp only;rcases h4 with h4|h4
  ·have:=hG q g2 ag h4;omega
  omega
 ·obtain rfl:q=j:=by omega
  refine⟨g,c,by rw[mJ,if_pos rfl,if_pos ag],hb.same hk (cH _ _ _ _ ?_),?_,by have:=hb.lt;omega⟩
  ·simp only;rcases hat with h4|h4
   ·have:=hG q g hj h4;omega
   omega
  rcases hat with h4|h4
  ·exact .inl h4
  exact .inr ag
theorem Inv.row{ext:Nat} (h:Inv T TL El k AD N C w top nk cs j ext wi)(hq:q<j)(hv:cs[q]? =some (.slice (some ⟨g,0,none⟩) (N q+64) c)): eC T El wi g c q (N q+ext):=by
 obtain⟨g',c',h1,h3,_⟩:=h.2.1 q hq;rw[hv] at h1;injection h1 with h1
 injection h1 with e1 _ e2
 injection e1 with e1
 injection e1 with e1
 subst e1 e2;exact h3
def uV(T:TypeId)(w:World)(mb:Nat): Prop:=∃ cur,aD w mb T cur∧cur.size=64∧∀ (i:Nat) (u:Value),cur[i]? =some u→u.oneCell'=true
theorem uV.lt(h:uV T w mb): mb<w.heap.size:=by obtain⟨cur,h1,_⟩:=h;exact h1.lt
theorem uV.keep(h:uV T w mb)(hb:Below w.heap.size w w'): uV T w' mb:=by
 obtain⟨cur,h1,h2⟩:=h;exact⟨cur,h1.keep hb,h2⟩
theorem uV.there(h:uV T w mb)(hj:j<64): (∃ u,w.cell? ⟨mb,j,none⟩=some u)∧w.frozen? ⟨mb,j,none⟩=false:=by
 exact Wt
theorem uV.put(h:uV T w mb)(i:Nat)(u:Value)(hu:u.oneCell'=true): uV T (w.setCell ⟨mb,i,none⟩ u) mb:=by
 obtain⟨cur,h1,h2,h3⟩:=h;refine⟨cur.setIfInBounds i u,h1.put i u,by rw[qK];exact h2,fun j u' hj=>?_⟩;rw[mJ] at hj;split at hj
 ·split at hj
  ·injection hj with hj;rw[←hj];exact hu
  cases hj
 exact h3 j u' hj
theorem uV.list(h:uV T w mb): ∃ news:List Value,news.length=64*1∧(∀ j u,news[j]? =some u→w.cell? ((⟨mb,0,none⟩:Addr).add j)=some u)∧∀ u∈news,u.oneCell'=true:=by
 obtain⟨cur,h1,h2,h3⟩:=h;refine⟨cur.toList,by rw[Hg,h2],fun j u hu=>?_,fun u hu=>?_⟩
 ·rw[gU];refine(h1.cell j).trans ?_;rw[←eG];exact hu
 obtain⟨i,hi⟩:=List.getElem?_of_mem hu;rw[eG] at hi;exact h3 i u hi
theorem Rs{base:Nat} {z:Value}(hz:z.oneCell'=true)(h:w.ownsRow base T 1 (.slice (some ⟨mb,0,none⟩) 64 64) 64 (madeCells #[z] (64*1)).toList): uV T w mb:=by
 rcases h.2 with⟨h0,_⟩|⟨g',cap,cur,hv,hb,hh,RL,hcm,hcs,ht⟩
 ·cases h0
 injection hv with e1 _ e2
 injection e1 with e1
 injection e1 with e1
 subst e1 e2;refine⟨cur,hh,ag,fun i u hu=>?_⟩;have h5:cur.toList=(madeCells #[z] (64*1)).toList:=by rw[←ht,List.take_of_length_le (by rw[Hg];omega)]
 have h6:cur=madeCells #[z] (64*1):=Array.toList_inj.1 h5;rw[h6] at hu;obtain⟨hi,hu2⟩:=Array.getElem?_eq_some_iff.1 hu;rw[←hu2];have h7:(madeCells #[z] (64*1))=Array.replicate 64 z:=by
  apply Array.ext
  ·simp[madeCells]
  intro j h1 h2;simp[madeCells,Nat.mod_one]
 simp only[h7,Array.getElem_replicate];exact hz
theorem aax{base:Nat} {e:TypeId}{xs:List Value}(h:w.ownsRow base e 1 (.slice (some ⟨g,0,none⟩) n n) n xs): ∃ cs,aD w g e cs∧cs.size=n:=by
 rcases h.2 with⟨h0,_⟩|⟨g',cap,cur,hv,hb,hh,RL,hcm,hcs,ht⟩
 ·cases h0
 injection hv with e1 _ e2
 injection e1 with e1
 injection e1 with e1
 subst e1 e2;exact⟨cur,hh,by rw[hcs];omega⟩
theorem Ce.keep(hE:zk T TL El){hd:Nat} {AH:Nat→Option Addr} (h:Ce T El w hd m AD AH N C)(hb:Below w.heap.size w w'): Ce T El w' hd m AD AH N C where
 hdr q hq:=(hb.cell (p:=⟨hd,q,none⟩) h.lt).trans (h.hdr q hq)
 form q hq:=by
  rcases h.form q hq with h1|⟨g,h1,h2,h3⟩
  ·exact .inl h1
  exact .inr ⟨g,h1,h2,h3.keep hE hb⟩
 ne:=h.ne
 apart:=h.apart
 lt:=Nat.lt_of_lt_of_le h.lt hb.size
 X1:=h.X1
 small:=h.small
end
theorem eU{w w':World}{g i:Nat}{v:Value}(h:w.cell? ⟨g,i,none⟩=some v)(hb:Below w.heap.size w w'): w'.cell? ⟨g,i,none⟩=some v:=
 (hb.cell (p:=⟨g,i,none⟩) (block_lt_of_cell h)).trans h
def lv(N:Nat→Nat)(k q:Nat): Nat:=if q<k then N q else 0
theorem Pk{N:Nat→Nat}{k q:Nat}(h:q<k): lv N k q=N q:=by rw[lv,if_pos h]
theorem Wz{N:Nat→Nat}{k q:Nat}(h:k≤q): lv N k q=0:=by rw[lv,if_neg ag]
