/-
  How the data lie in memory.
  Conditions: none.
-/
import Derived.Test.YtfmjgnjaoihefaaGreatDoorOwn2
import Derived.Test.YtfmjgnjaoihefaaGreatDoorData
namespace Go.Sy
open Go Go.RowKit
instance:Tid Int:=⟨3⟩
instance:Tid Bool:=⟨4⟩
instance:Tid (List Int):=⟨66⟩
instance:Tid (List Bool):=⟨0⟩
instance:Tid ByteArray:=⟨9⟩
instance:Tid (List ByteArray):=⟨72⟩
instance:Tid Fact:=⟨74⟩
abbrev Fact.tup(r:Go.Sy.Fact):ByteArray ×(List ByteArray):=(r.Rel,r.Args)
instance:Gd Go.Sy.Fact:=Gd.via Fact.tup
instance:Tid Pattern:=⟨83⟩
abbrev Pattern.tup(r:Go.Sy.Pattern):ByteArray ×(List ByteArray):=(r.Rel,r.Args)
instance:Gd Go.Sy.Pattern:=Gd.via Pattern.tup
instance:Tid Pair:=⟨171⟩
abbrev Pair.tup(r:Go.Sy.Pair):ByteArray × ByteArray:=(r.Var,r.Value)
instance:Gd Go.Sy.Pair:=Gd.via Pair.tup
instance:Tid Event:=⟨76⟩
abbrev Event.tup(r:Go.Sy.Event):Int × ByteArray × Go.Sy.Fact:=(r.Kind,r.Rule,r.Fact)
instance:Gd Go.Sy.Event:=Gd.via Event.tup
instance:Tid Cond:=⟨167⟩
abbrev Cond.tup(r:Go.Sy.Cond):Int × Go.Sy.Pattern × ByteArray × ByteArray:=(r.Kind,r.Pattern,r.Left,r.Right)
instance:Gd Go.Sy.Cond:=Gd.via Cond.tup
instance:Tid Action:=⟨85⟩
abbrev Action.tup(r:Go.Sy.Action):Int × Go.Sy.Pattern:=(r.Kind,r.Pattern)
instance:Gd Go.Sy.Action:=Gd.via Action.tup
instance:Tid Rule:=⟨80⟩
abbrev Rule.tup(r:Go.Sy.Rule):ByteArray × Int ×(List Cond)×(List Action):=(r.Name,r.Priority,r.If,r.Then)
instance:Gd Go.Sy.Rule:=Gd.via Rule.tup
instance:Tid Stamp:=⟨130⟩
abbrev Stamp.tup(r:Go.Sy.Stamp):Go.Sy.Fact × Int:=(r.Fact,r.Time)
instance:Gd Go.Sy.Stamp:=Gd.via Stamp.tup
instance:Tid Firing:=⟨71⟩
abbrev Firing.tup(r:Go.Sy.Firing):ByteArray ×(List Int):=(r.Rule,r.Times)
instance:Gd Go.Sy.Firing:=Gd.via Firing.tup
instance:Tid Engine:=⟨34⟩
abbrev Engine.tup(r:Go.Sy.Engine):(List Rule)×(List Stamp)× Int ×(List Firing)× Bool ×(List Event):=(r.Rules,r.Memory,r.Clock,r.Fired,r.Halted,r.Log)
instance:Gd Go.Sy.Engine:=Gd.via Engine.tup
instance:Tid Match:=⟨65⟩
abbrev Match.tup(r:Go.Sy.Match):ByteArray ×(List Fact)×(List Pair):=(r.Rule,r.Facts,r.Binding)
instance:Gd Go.Sy.Match:=Gd.via Match.tup
instance:Tid Token:=⟨220⟩
abbrev Token.tup(r:Go.Sy.Token):(List Fact)×(List Pair):=(r.Facts,r.Binding)
instance:Gd Go.Sy.Token:=Gd.via Token.tup
instance:Tid Choice:=⟨68⟩
abbrev Choice.tup(r:Go.Sy.Choice):Go.Sy.Match × Int ×(List Int)× Int × Int:=(r.Match,r.Priority,r.Times,r.Specific,r.Order)
instance:Gd Go.Sy.Choice:=Gd.via Choice.tup
theorem AS{w:World}{cs:List Value}{r:Go.Sy.Fact}(h:Gd.rd w cs r):∃a,cs=[.string r.Rel,a]/\Gd.rd w [a] r.Args:=by
 obtain⟨c0,d,c,h0,b⟩:=h;obtain rfl:c0=[.string r.Rel]:=h0;obtain⟨a,rfl⟩:=CL b;exact⟨a,by rw[c];rfl,b⟩
theorem EZ{w:World}{cs:List Value}{r:Go.Sy.Fact}(h:Gd.rd w cs r):∃a,cs=[.string r.Rel,a]/\a.oneCell'=true:=by
 obtain⟨a,e,g1⟩:=AS h;exact⟨a,e,A2 g1⟩
theorem S4{N:Nat}{w0:World}{H:List Chunk}{L:Fm}{K:Act->World->Prop}{c:Value}{r:Go.Sy.Fact}(k:D N w0 (ov [.string r.Rel,c] r::H) L K):D N w0 (ov [c] r.Args::H) L K:=by
 intro a w hf h;refine k a w hf (St.conv (h) ?_);intro b d;exact⟨([]++b),⟨[.string r.Rel],[c],[],b,rfl,rfl,⟨rfl,rfl⟩,d⟩,by simp⟩
theorem B8{w:World}{cs:List Value}{r:Go.Sy.Pattern}(h:Gd.rd w cs r):∃a,cs=[.string r.Rel,a]/\Gd.rd w [a] r.Args:=by
 obtain⟨c0,d,c,h0,b⟩:=h;obtain rfl:c0=[.string r.Rel]:=h0;obtain⟨a,rfl⟩:=CL b;exact⟨a,by rw[c];rfl,b⟩
theorem OO{w:World}{cs:List Value}{r:Go.Sy.Pattern}(h:Gd.rd w cs r):∃a,cs=[.string r.Rel,a]/\a.oneCell'=true:=by
 obtain⟨a,e,g1⟩:=B8 h;exact⟨a,e,A2 g1⟩
theorem fK{N:Nat}{w0:World}{H:List Chunk}{L:Fm}{K:Act->World->Prop}{c:Value}{r:Go.Sy.Pattern}(k:D N w0 (ov [.string r.Rel,c] r::H) L K):D N w0 (ov [c] r.Args::H) L K:=by
 intro a w hf h;refine k a w hf (St.conv (h) ?_);intro b d;exact⟨([]++b),⟨[.string r.Rel],[c],[],b,rfl,rfl,⟨rfl,rfl⟩,d⟩,by simp⟩
theorem D1{w:World}{cs:List Value}{r:Go.Sy.Pair}(h:Gd.rd w cs r):cs=[.string r.Var, .string r.Value]:=by
 obtain⟨c0,a,b,h0,c⟩:=h;obtain rfl:c0=[.string r.Var]:=h0;obtain rfl:a=[.string r.Value]:=c;exact(by rw[b];rfl)
theorem H4{N:Nat}{w0:World}{H:List Chunk}{L:Fm}{K:Act->World->Prop}{r:Go.Sy.Pair}(k:D N w0 (ov [.string r.Var, .string r.Value] r::H) L K):D N w0 H L K:=λa w hf h=>k a w hf (h.nul (c:=ov [.string r.Var, .string r.Value] r) ⟨[.string r.Var],[.string r.Value],[],[],rfl,rfl,⟨rfl,rfl⟩,⟨rfl,rfl⟩⟩)
theorem D2{w:World}{cs:List Value}{r:Go.Sy.Event}(h:Gd.rd w cs r):∃a,cs=[.int .i64 r.Kind, .string r.Rule, .string r.Fact.Rel,a]/\Gd.rd w [a] r.Fact.Args:=by
 obtain⟨c0,f,c,h0,d⟩:=h;obtain⟨c1,d1,e,h1,k1⟩:=d;obtain rfl:c0=[.int .i64 r.Kind]:=h0;obtain rfl:c1=[.string r.Rule]:=h1;obtain⟨a,rfl,b⟩:=AS k1;exact⟨a,by rw[c,e];rfl,b⟩
theorem SA{w:World}{cs:List Value}{r:Go.Sy.Event}(h:Gd.rd w cs r):∃a,cs=[.int .i64 r.Kind, .string r.Rule, .string r.Fact.Rel,a]/\a.oneCell'=true:=by
 obtain⟨a,e,g1⟩:=D2 h;exact⟨a,e,A2 g1⟩
theorem CC{w:World}{a:Value}{r:Go.Sy.Event}(h:Gd.rd w [.int .i64 r.Kind, .string r.Rule, .string r.Fact.Rel,a] r):Gd.rd w [.string r.Fact.Rel,a] r.Fact:=by
 obtain⟨c0,e,b,h0,d⟩:=h;obtain rfl:c0=[.int .i64 r.Kind]:=h0;simp only[List.cons_append,List.nil_append,List.cons.injEq,true_and] at b;subst b;obtain⟨c1,d1,c,h1,k1⟩:=d;obtain rfl:c1=[.string r.Rule]:=h1;simp only[List.cons_append,List.nil_append,List.cons.injEq,true_and] at c;subst c;exact k1
theorem aS{N:Nat}{w0:World}{H:List Chunk}{L:Fm}{K:Act->World->Prop}{c:Value}{r:Go.Sy.Event}(k:D N w0 (ov [.int .i64 r.Kind, .string r.Rule, .string r.Fact.Rel,c] r::H) L K):D N w0 (ov [c] r.Fact.Args::H) L K:=by
 intro a w hf h;refine k a w hf (St.conv (h) ?_);intro b d;exact⟨([]++([]++([]++b))),⟨[.int .i64 r.Kind],([.string r.Rule]++([.string r.Fact.Rel]++ [c])),[],([]++([]++b)),rfl,rfl,⟨rfl,rfl⟩,⟨[.string r.Rule],([.string r.Fact.Rel]++ [c]),[],([]++b),rfl,rfl,⟨rfl,rfl⟩,⟨[.string r.Fact.Rel],[c],[],b,rfl,rfl,⟨rfl,rfl⟩,d⟩⟩⟩,by simp⟩
def FM:Go.Sy.Event:=⟨0,⟨#[]⟩,⟨⟨#[]⟩,[]⟩⟩
theorem pA(w:World):Gd.ow w [.int .i64 0, .string ⟨#[]⟩, .string ⟨#[]⟩, .slice none 0 0] FM []:=⟨[.int .i64 0],([.string ⟨#[]⟩]++([.string ⟨#[]⟩]++ [.slice none 0 0])),[],[],rfl,rfl,⟨rfl,rfl⟩,⟨[.string ⟨#[]⟩],([.string ⟨#[]⟩]++ [.slice none 0 0]),[],[],rfl,rfl,⟨rfl,rfl⟩,⟨[.string ⟨#[]⟩],[.slice none 0 0],[],[],rfl,rfl,⟨rfl,rfl⟩,MX⟩⟩⟩
theorem A8{w:World}{cs:List Value}{r:Go.Sy.Cond}(h:Gd.rd w cs r):∃a,cs=[.int .i64 r.Kind, .string r.Pattern.Rel,a, .string r.Left, .string r.Right]/\Gd.rd w [a] r.Pattern.Args:=by
 obtain⟨c0,j,c,h0,d⟩:=h;obtain⟨c1,d1,e,h1,k1⟩:=d;obtain⟨c2,d2,f,g,i⟩:=k1;obtain rfl:c0=[.int .i64 r.Kind]:=h0;obtain⟨a,rfl,b⟩:=B8 h1;obtain rfl:c2=[.string r.Left]:=g;obtain rfl:d2=[.string r.Right]:=i;exact⟨a,by rw[c,e,f];rfl,b⟩
theorem TM{w:World}{cs:List Value}{r:Go.Sy.Cond}(h:Gd.rd w cs r):∃a,cs=[.int .i64 r.Kind, .string r.Pattern.Rel,a, .string r.Left, .string r.Right]/\a.oneCell'=true:=by
 obtain⟨a,e,g1⟩:=A8 h;exact⟨a,e,A2 g1⟩
theorem AK{w:World}{a:Value}{r:Go.Sy.Cond}(h:Gd.rd w [.int .i64 r.Kind, .string r.Pattern.Rel,a, .string r.Left, .string r.Right] r):Gd.rd w [.string r.Pattern.Rel,a] r.Pattern:=by
 obtain⟨c0,g,b,h0,d⟩:=h;obtain rfl:c0=[.int .i64 r.Kind]:=h0;simp only[List.cons_append,List.nil_append,List.cons.injEq,true_and] at b;subst b;obtain⟨c1,d1,e,h1,k1⟩:=d;have hl:c1.length=2:=Gd.rd_len h1;have key:c1=[.string r.Pattern.Rel,a]:=by
  have c:=congrArg (List.take 2) e;have f:(c1++d1).take 2=c1:=by rw[<-hl];exact List.take_left
  rw[f] at c;exact c.symm
 rw[<-key];exact h1
theorem iA{N:Nat}{w0:World}{H:List Chunk}{L:Fm}{K:Act->World->Prop}{c:Value}{r:Go.Sy.Cond}(k:D N w0 (ov [.int .i64 r.Kind, .string r.Pattern.Rel,c, .string r.Left, .string r.Right] r::H) L K):D N w0 (ov [c] r.Pattern.Args::H) L K:=by
 intro a w hf h;refine k a w hf (St.conv (h) ?_);intro b d;exact⟨([]++(([]++b)++([]++ []))),⟨[.int .i64 r.Kind],(([.string r.Pattern.Rel]++ [c])++([.string r.Left]++ [.string r.Right])),[],(([]++b)++([]++ [])),rfl,rfl,⟨rfl,rfl⟩,⟨([.string r.Pattern.Rel]++ [c]),([.string r.Left]++ [.string r.Right]),([]++b),([]++ []),rfl,rfl,⟨[.string r.Pattern.Rel],[c],[],b,rfl,rfl,⟨rfl,rfl⟩,d⟩,⟨[.string r.Left],[.string r.Right],[],[],rfl,rfl,⟨rfl,rfl⟩,⟨rfl,rfl⟩⟩⟩⟩,by simp⟩
def G0:Go.Sy.Cond:=⟨0,⟨⟨#[]⟩,[]⟩,⟨#[]⟩,⟨#[]⟩⟩
theorem vS(w:World):Gd.ow w [.int .i64 0, .string ⟨#[]⟩, .slice none 0 0, .string ⟨#[]⟩, .string ⟨#[]⟩] G0 []:=⟨[.int .i64 0],(([.string ⟨#[]⟩]++ [.slice none 0 0])++([.string ⟨#[]⟩]++ [.string ⟨#[]⟩])),[],[],rfl,rfl,⟨rfl,rfl⟩,⟨([.string ⟨#[]⟩]++ [.slice none 0 0]),([.string ⟨#[]⟩]++ [.string ⟨#[]⟩]),[],[],rfl,rfl,⟨[.string ⟨#[]⟩],[.slice none 0 0],[],[],rfl,rfl,⟨rfl,rfl⟩,MX⟩,⟨[.string ⟨#[]⟩],[.string ⟨#[]⟩],[],[],rfl,rfl,⟨rfl,rfl⟩,⟨rfl,rfl⟩⟩⟩⟩
theorem CH{w:World}{cs:List Value}{r:Go.Sy.Action}(h:Gd.rd w cs r):∃a,cs=[.int .i64 r.Kind, .string r.Pattern.Rel,a]/\Gd.rd w [a] r.Pattern.Args:=by
 obtain⟨c0,e,c,h0,d⟩:=h;obtain rfl:c0=[.int .i64 r.Kind]:=h0;obtain⟨a,rfl,b⟩:=B8 d;exact⟨a,by rw[c];rfl,b⟩
theorem PZ{w:World}{cs:List Value}{r:Go.Sy.Action}(h:Gd.rd w cs r):∃a,cs=[.int .i64 r.Kind, .string r.Pattern.Rel,a]/\a.oneCell'=true:=by
 obtain⟨a,e,g1⟩:=CH h;exact⟨a,e,A2 g1⟩
theorem A9{w:World}{a:Value}{r:Go.Sy.Action}(h:Gd.rd w [.int .i64 r.Kind, .string r.Pattern.Rel,a] r):Gd.rd w [.string r.Pattern.Rel,a] r.Pattern:=by
 obtain⟨c0,d,b,h0,c⟩:=h;obtain rfl:c0=[.int .i64 r.Kind]:=h0;simp only[List.cons_append,List.nil_append,List.cons.injEq,true_and] at b;subst b;exact c
theorem WY{N:Nat}{w0:World}{H:List Chunk}{L:Fm}{K:Act->World->Prop}{c:Value}{r:Go.Sy.Action}(k:D N w0 (ov [.int .i64 r.Kind, .string r.Pattern.Rel,c] r::H) L K):D N w0 (ov [c] r.Pattern.Args::H) L K:=by
 intro a w hf h;refine k a w hf (St.conv (h) ?_);intro b d;exact⟨([]++([]++b)),⟨[.int .i64 r.Kind],([.string r.Pattern.Rel]++ [c]),[],([]++b),rfl,rfl,⟨rfl,rfl⟩,⟨[.string r.Pattern.Rel],[c],[],b,rfl,rfl,⟨rfl,rfl⟩,d⟩⟩,by simp⟩
def ET:Go.Sy.Action:=⟨0,⟨⟨#[]⟩,[]⟩⟩
theorem lO(w:World):Gd.ow w [.int .i64 0, .string ⟨#[]⟩, .slice none 0 0] ET []:=⟨[.int .i64 0],([.string ⟨#[]⟩]++ [.slice none 0 0]),[],[],rfl,rfl,⟨rfl,rfl⟩,⟨[.string ⟨#[]⟩],[.slice none 0 0],[],[],rfl,rfl,⟨rfl,rfl⟩,MX⟩⟩
theorem BC{w:World}{cs:List Value}{r:Go.Sy.Rule}(h:Gd.rd w cs r):∃a,∃v2,cs=[.string r.Name, .int .i64 r.Priority,a,v2]/\Gd.rd w [a] r.If/\Gd.rd w [v2] r.Then:=by
 obtain⟨c0,i,d,h0,e⟩:=h;obtain⟨c1,d1,f,h1,k1⟩:=e;obtain⟨c2,d2,g,b,c⟩:=k1;obtain rfl:c0=[.string r.Name]:=h0;obtain rfl:c1=[.int .i64 r.Priority]:=h1;obtain⟨a,rfl⟩:=CL b;obtain⟨v2,rfl⟩:=CL c;exact⟨a,v2,by rw[d,f,g];rfl,b,c⟩
theorem TN{w:World}{cs:List Value}{r:Go.Sy.Rule}(h:Gd.rd w cs r):∃a,∃v2,cs=[.string r.Name, .int .i64 r.Priority,a,v2]/\a.oneCell'=true/\v2.oneCell'=true:=by
 obtain⟨a,v2,e,g1,g2⟩:=BC h;exact⟨a,v2,e,A2 g1,A2 g2⟩
theorem iB{N:Nat}{w0:World}{H:List Chunk}{L:Fm}{K:Act->World->Prop}{d v2:Value}{r:Go.Sy.Rule}(k:D N w0 (ov [.string r.Name, .int .i64 r.Priority,d,v2] r::H) L K):D N w0 (ov [d] r.If::ov [v2] r.Then::H) L K:=by
 intro a w hf h;refine k a w hf (St.conv (h.star) ?_);intro fp hfp;obtain⟨b,c,rfl,e,f⟩:=hfp;exact⟨([]++([]++(b++c))),⟨[.string r.Name],([.int .i64 r.Priority]++([d]++ [v2])),[],([]++(b++c)),rfl,rfl,⟨rfl,rfl⟩,⟨[.int .i64 r.Priority],([d]++ [v2]),[],(b++c),rfl,rfl,⟨rfl,rfl⟩,⟨[d],[v2],b,c,rfl,rfl,e,f⟩⟩⟩,by simp⟩
def G1:Go.Sy.Rule:=⟨⟨#[]⟩,0,[],[]⟩
theorem vT(w:World):Gd.ow w [.string ⟨#[]⟩, .int .i64 0, .slice none 0 0, .slice none 0 0] G1 []:=⟨[.string ⟨#[]⟩],([.int .i64 0]++([.slice none 0 0]++ [.slice none 0 0])),[],[],rfl,rfl,⟨rfl,rfl⟩,⟨[.int .i64 0],([.slice none 0 0]++ [.slice none 0 0]),[],[],rfl,rfl,⟨rfl,rfl⟩,⟨[.slice none 0 0],[.slice none 0 0],[],[],rfl,rfl,MX,MX⟩⟩⟩
theorem B9{w:World}{cs:List Value}{r:Go.Sy.Stamp}(h:Gd.rd w cs r):∃a,cs=[.string r.Fact.Rel,a, .int .i64 r.Time]/\Gd.rd w [a] r.Fact.Args:=by
 obtain⟨c0,c,d,h0,e⟩:=h;obtain⟨a,rfl,b⟩:=AS h0;obtain rfl:c=[.int .i64 r.Time]:=e;exact⟨a,by rw[d];rfl,b⟩
theorem SB{w:World}{cs:List Value}{r:Go.Sy.Stamp}(h:Gd.rd w cs r):∃a,cs=[.string r.Fact.Rel,a, .int .i64 r.Time]/\a.oneCell'=true:=by
 obtain⟨a,e,g1⟩:=B9 h;exact⟨a,e,A2 g1⟩
theorem BE{w:World}{a:Value}{r:Go.Sy.Stamp}(h:Gd.rd w [.string r.Fact.Rel,a, .int .i64 r.Time] r):Gd.rd w [.string r.Fact.Rel,a] r.Fact:=by
 obtain⟨c0,c,d,h0,f⟩:=h;have hl:c0.length=2:=Gd.rd_len h0;have key:c0=[.string r.Fact.Rel,a]:=by
  have b:=congrArg (List.take 2) d;have e:(c0++c).take 2=c0:=by rw[<-hl];exact List.take_left
  rw[e] at b;exact b.symm
 rw[<-key];exact h0
theorem aT{N:Nat}{w0:World}{H:List Chunk}{L:Fm}{K:Act->World->Prop}{c:Value}{r:Go.Sy.Stamp}(k:D N w0 (ov [.string r.Fact.Rel,c, .int .i64 r.Time] r::H) L K):D N w0 (ov [c] r.Fact.Args::H) L K:=by
 intro a w hf h;refine k a w hf (St.conv (h) ?_);intro b d;exact⟨(([]++b)++ []),⟨([.string r.Fact.Rel]++ [c]),[.int .i64 r.Time],([]++b),[],rfl,rfl,⟨[.string r.Fact.Rel],[c],[],b,rfl,rfl,⟨rfl,rfl⟩,d⟩,⟨rfl,rfl⟩⟩,by simp⟩
def FN:Go.Sy.Stamp:=⟨⟨⟨#[]⟩,[]⟩,0⟩
theorem pB(w:World):Gd.ow w [.string ⟨#[]⟩, .slice none 0 0, .int .i64 0] FN []:=⟨([.string ⟨#[]⟩]++ [.slice none 0 0]),[.int .i64 0],[],[],rfl,rfl,⟨[.string ⟨#[]⟩],[.slice none 0 0],[],[],rfl,rfl,⟨rfl,rfl⟩,MX⟩,⟨rfl,rfl⟩⟩
theorem BQ{w:World}{cs:List Value}{r:Go.Sy.Firing}(h:Gd.rd w cs r):∃a,cs=[.string r.Rule,a]/\Gd.rd w [a] r.Times:=by
 obtain⟨c0,d,c,h0,b⟩:=h;obtain rfl:c0=[.string r.Rule]:=h0;obtain⟨a,rfl⟩:=CL b;exact⟨a,by rw[c];rfl,b⟩
theorem P0{w:World}{cs:List Value}{r:Go.Sy.Firing}(h:Gd.rd w cs r):∃a,cs=[.string r.Rule,a]/\a.oneCell'=true:=by
 obtain⟨a,e,g1⟩:=BQ h;exact⟨a,e,A2 g1⟩
theorem WZ{N:Nat}{w0:World}{H:List Chunk}{L:Fm}{K:Act->World->Prop}{c:Value}{r:Go.Sy.Firing}(k:D N w0 (ov [.string r.Rule,c] r::H) L K):D N w0 (ov [c] r.Times::H) L K:=by
 intro a w hf h;refine k a w hf (St.conv (h) ?_);intro b d;exact⟨([]++b),⟨[.string r.Rule],[c],[],b,rfl,rfl,⟨rfl,rfl⟩,d⟩,by simp⟩
def EU:Go.Sy.Firing:=⟨⟨#[]⟩,[]⟩
theorem lP(w:World):Gd.ow w [.string ⟨#[]⟩, .slice none 0 0] EU []:=⟨[.string ⟨#[]⟩],[.slice none 0 0],[],[],rfl,rfl,⟨rfl,rfl⟩,MX⟩
theorem C6{w:World}{cs:List Value}{r:Go.Sy.Engine}(h:Gd.rd w cs r):∃a,∃v2,∃v3,∃v4,cs=[a,v2, .int .i64 r.Clock,v3, .bool r.Halted,v4]/\Gd.rd w [a] r.Rules/\Gd.rd w [v2] r.Memory/\Gd.rd w [v3] r.Fired/\Gd.rd w [v4] r.Log:=by
 obtain⟨c0,o,d,h0,e⟩:=h;obtain⟨c1,d1,f,h1,k1⟩:=e;obtain⟨c2,d2,g,i,j⟩:=k1;obtain⟨c3,d3,k,b,l⟩:=j;obtain⟨c4,d4,m,n,c⟩:=l;obtain⟨a,rfl⟩:=CL h0;obtain⟨v2,rfl⟩:=CL h1;obtain rfl:c2=[.int .i64 r.Clock]:=i;obtain⟨v3,rfl⟩:=CL b;obtain rfl:c4=[.bool r.Halted]:=n;obtain⟨v4,rfl⟩:=CL c;exact⟨a,v2,v3,v4,by rw[d,f,g,k,m];rfl,h0,h1,b,c⟩
theorem H5{w:World}{cs:List Value}{r:Go.Sy.Engine}(h:Gd.rd w cs r):∃a,∃v2,∃v3,∃v4,cs=[a,v2, .int .i64 r.Clock,v3, .bool r.Halted,v4]/\a.oneCell'=true/\v2.oneCell'=true/\v3.oneCell'=true/\v4.oneCell'=true:=by
 obtain⟨a,v2,v3,v4,e,g1,g2,g3,g4⟩:=C6 h;exact⟨a,v2,v3,v4,e,A2 g1,A2 g2,A2 g3,A2 g4⟩
theorem W0{N:Nat}{w0:World}{H:List Chunk}{L:Fm}{K:Act->World->Prop}{f v2 v3 v4:Value}{r:Go.Sy.Engine}(k:D N w0 (ov [f,v2, .int .i64 r.Clock,v3, .bool r.Halted,v4] r::H) L K):D N w0 (ov [f] r.Rules::ov [v2] r.Memory::ov [v3] r.Fired::ov [v4] r.Log::H) L K:=by
 intro a w hf h;refine k a w hf (St.conv (h.star.star.star) ?_);intro fp hfp;obtain⟨o,b,rfl,g,i⟩:=hfp;obtain⟨p,c,rfl,j,l⟩:=g;obtain⟨e,d,rfl,m,n⟩:=j;exact⟨(e++(d++([]++(c++([]++b))))),⟨[f],([v2]++([.int .i64 r.Clock]++([v3]++([.bool r.Halted]++ [v4])))),e,(d++([]++(c++([]++b)))),rfl,rfl,m,⟨[v2],([.int .i64 r.Clock]++([v3]++([.bool r.Halted]++ [v4]))),d,([]++(c++([]++b))),rfl,rfl,n,⟨[.int .i64 r.Clock],([v3]++([.bool r.Halted]++ [v4])),[],(c++([]++b)),rfl,rfl,⟨rfl,rfl⟩,⟨[v3],([.bool r.Halted]++ [v4]),c,([]++b),rfl,rfl,l,⟨[.bool r.Halted],[v4],[],b,rfl,rfl,⟨rfl,rfl⟩,i⟩⟩⟩⟩⟩,by simp⟩
theorem FG{w:World}{cs:List Value}{r:Go.Sy.Match}(h:Gd.rd w cs r):∃a,∃v2,cs=[.string r.Rule,a,v2]/\Gd.rd w [a] r.Facts/\Gd.rd w [v2] r.Binding:=by
 obtain⟨c0,e,b,h0,c⟩:=h;obtain⟨c1,d1,d,h1,k1⟩:=c;obtain rfl:c0=[.string r.Rule]:=h0;obtain⟨a,rfl⟩:=CL h1;obtain⟨v2,rfl⟩:=CL k1;exact⟨a,v2,by rw[b,d];rfl,h1,k1⟩
theorem KT{w:World}{cs:List Value}{r:Go.Sy.Match}(h:Gd.rd w cs r):∃a,∃v2,cs=[.string r.Rule,a,v2]/\a.oneCell'=true/\v2.oneCell'=true:=by
 obtain⟨a,v2,e,g1,g2⟩:=FG h;exact⟨a,v2,e,A2 g1,A2 g2⟩
theorem aU{w:World}{a:Value}{v2:Value}(r:Go.Sy.Match)(b:Gd.rd w [a] r.Facts)(c:Gd.rd w [v2] r.Binding):Gd.rd w [.string r.Rule,a,v2] r:=⟨[.string r.Rule],([a]++ [v2]),rfl,rfl,⟨[a],[v2],rfl,b,c⟩⟩
theorem aV{N:Nat}{w0:World}{H:List Chunk}{L:Fm}{K:Act->World->Prop}{d v2:Value}{r:Go.Sy.Match}(k:D N w0 (ov [.string r.Rule,d,v2] r::H) L K):D N w0 (ov [d] r.Facts::ov [v2] r.Binding::H) L K:=by
 intro a w hf h;refine k a w hf (St.conv (h.star) ?_);intro fp hfp;obtain⟨b,c,rfl,e,f⟩:=hfp;exact⟨([]++(b++c)),⟨[.string r.Rule],([d]++ [v2]),[],(b++c),rfl,rfl,⟨rfl,rfl⟩,⟨[d],[v2],b,c,rfl,rfl,e,f⟩⟩,by simp⟩
theorem F3{w:World}{cs:List Value}{r:Go.Sy.Token}(h:Gd.rd w cs r):∃a,∃v2,cs=[a,v2]/\Gd.rd w [a] r.Facts/\Gd.rd w [v2] r.Binding:=by
 obtain⟨c0,d,c,h0,b⟩:=h;obtain⟨a,rfl⟩:=CL h0;obtain⟨v2,rfl⟩:=CL b;exact⟨a,v2,by rw[c];rfl,h0,b⟩
theorem aW{w:World}{cs:List Value}{r:Go.Sy.Token}(h:Gd.rd w cs r):∃a,∃v2,cs=[a,v2]/\a.oneCell'=true/\v2.oneCell'=true:=by
 obtain⟨a,v2,e,g1,g2⟩:=F3 h;exact⟨a,v2,e,A2 g1,A2 g2⟩
theorem P1{w:World}{a:Value}{v2:Value}(r:Go.Sy.Token)(b:Gd.rd w [a] r.Facts)(c:Gd.rd w [v2] r.Binding):Gd.rd w [a,v2] r:=⟨[a],[v2],rfl,b,c⟩
theorem TO{N:Nat}{w0:World}{H:List Chunk}{L:Fm}{K:Act->World->Prop}{d v2:Value}{r:Go.Sy.Token}(k:D N w0 (ov [d,v2] r::H) L K):D N w0 (ov [d] r.Facts::ov [v2] r.Binding::H) L K:=by
 intro a w hf h;refine k a w hf (St.conv (h.star) ?_);intro fp hfp;obtain⟨b,c,rfl,e,f⟩:=hfp;exact⟨(b++c),⟨[d],[v2],b,c,rfl,rfl,e,f⟩,by simp⟩
theorem BF{w:World}{cs:List Value}{r:Go.Sy.Choice}(h:Gd.rd w cs r):∃a,∃v2,∃v3,cs=[.string r.Match.Rule,a,v2, .int .i64 r.Priority,v3, .int .i64 r.Specific, .int .i64 r.Order]/\Gd.rd w [a] r.Match.Facts/\Gd.rd w [v2] r.Match.Binding/\Gd.rd w [v3] r.Times:=by
 obtain⟨c0,n,e,h0,f⟩:=h;obtain⟨c1,d1,g,h1,k1⟩:=f;obtain⟨c2,d2,i,d,j⟩:=k1;obtain⟨c3,d3,k,l,m⟩:=j;obtain⟨a,v2,rfl,b,c⟩:=FG h0;obtain rfl:c1=[.int .i64 r.Priority]:=h1;obtain⟨v3,rfl⟩:=CL d;obtain rfl:c3=[.int .i64 r.Specific]:=l;obtain rfl:d3=[.int .i64 r.Order]:=m;exact⟨a,v2,v3,by rw[e,g,i,k];rfl,b,c,d⟩
theorem F4{w:World}{cs:List Value}{r:Go.Sy.Choice}(h:Gd.rd w cs r):∃a,∃v2,∃v3,cs=[.string r.Match.Rule,a,v2, .int .i64 r.Priority,v3, .int .i64 r.Specific, .int .i64 r.Order]/\a.oneCell'=true/\v2.oneCell'=true/\v3.oneCell'=true:=by
 obtain⟨a,v2,v3,e,g1,g2,g3⟩:=BF h;exact⟨a,v2,v3,e,A2 g1,A2 g2,A2 g3⟩
theorem AQ{w:World}{a v2 v3:Value}{r:Go.Sy.Choice}(h:Gd.rd w [.string r.Match.Rule,a,v2, .int .i64 r.Priority,v3, .int .i64 r.Specific, .int .i64 r.Order] r):Gd.rd w [.string r.Match.Rule,a,v2] r.Match:=by
 obtain⟨c0,c,d,h0,f⟩:=h;have hl:c0.length=3:=Gd.rd_len h0;have key:c0=[.string r.Match.Rule,a,v2]:=by
  have b:=congrArg (List.take 3) d;have e:(c0++c).take 3=c0:=by rw[<-hl];exact List.take_left
  rw[e] at b;exact b.symm
 rw[<-key];exact h0
theorem lQ{w:World}{a:Value}{v2:Value}{v3:Value}(r:Go.Sy.Choice)(b:Gd.rd w [a] r.Match.Facts)(c:Gd.rd w [v2] r.Match.Binding)(d:Gd.rd w [v3] r.Times):Gd.rd w [.string r.Match.Rule,a,v2, .int .i64 r.Priority,v3, .int .i64 r.Specific, .int .i64 r.Order] r:=⟨([.string r.Match.Rule]++([a]++ [v2])),([.int .i64 r.Priority]++([v3]++([.int .i64 r.Specific]++ [.int .i64 r.Order]))),rfl,⟨[.string r.Match.Rule],([a]++ [v2]),rfl,rfl,⟨[a],[v2],rfl,b,c⟩⟩,⟨[.int .i64 r.Priority],([v3]++([.int .i64 r.Specific]++ [.int .i64 r.Order])),rfl,rfl,⟨[v3],([.int .i64 r.Specific]++ [.int .i64 r.Order]),rfl,d,⟨[.int .i64 r.Specific],[.int .i64 r.Order],rfl,rfl,rfl⟩⟩⟩⟩
theorem FO{N:Nat}{w0:World}{H:List Chunk}{L:Fm}{K:Act->World->Prop}{e v2 v3:Value}{r:Go.Sy.Choice}(k:D N w0 (ov [.string r.Match.Rule,e,v2, .int .i64 r.Priority,v3, .int .i64 r.Specific, .int .i64 r.Order] r::H) L K):D N w0 (ov [e] r.Match.Facts::ov [v2] r.Match.Binding::ov [v3] r.Times::H) L K:=by
 intro a w hf h;refine k a w hf (St.conv (h.star.star) ?_);intro fp hfp;obtain⟨l,b,rfl,f,g⟩:=hfp;obtain⟨c,d,rfl,i,j⟩:=f;exact⟨(([]++(c++d))++([]++(b++([]++ [])))),⟨([.string r.Match.Rule]++([e]++ [v2])),([.int .i64 r.Priority]++([v3]++([.int .i64 r.Specific]++ [.int .i64 r.Order]))),([]++(c++d)),([]++(b++([]++ []))),rfl,rfl,⟨[.string r.Match.Rule],([e]++ [v2]),[],(c++d),rfl,rfl,⟨rfl,rfl⟩,⟨[e],[v2],c,d,rfl,rfl,i,j⟩⟩,⟨[.int .i64 r.Priority],([v3]++([.int .i64 r.Specific]++ [.int .i64 r.Order])),[],(b++([]++ [])),rfl,rfl,⟨rfl,rfl⟩,⟨[v3],([.int .i64 r.Specific]++ [.int .i64 r.Order]),b,([]++ []),rfl,rfl,g,⟨[.int .i64 r.Specific],[.int .i64 r.Order],[],[],rfl,rfl,⟨rfl,rfl⟩,⟨rfl,rfl⟩⟩⟩⟩⟩,by simp⟩
end Go.Sy
